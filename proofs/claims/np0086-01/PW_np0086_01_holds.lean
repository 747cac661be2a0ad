import PyProof.Rows.All
import Wide.All
import OpenK.AllK
import Wide.FinOn
import PySem.Challenge.RW_np0086_01
open PySem PySem.W PySem.Calls PyProof.Rows
set_option Elab.async false
set_option maxRecDepth 100000
set_option maxHeartbeats 0
set_option linter.unusedVariables false
namespace Mine
noncomputable section
noncomputable abbrev prg : Program := PySem.Challenge.pw_np0086_01
/-! ## The defs' texts, found in the program -/
noncomputable def stA (i j : Nat) : Option Stmt := match prg.main.body[i]? with
  | some (.ClassDef _ _ _ b _ _ _ _ _ _ _) => b[j]?
  | r => r
noncomputable def fA (i j : Nat) : Arguments := match stA i j with
  | some (.FunctionDef _ a _ _ _ _ _ _ _ _) => a
  | _ => default
noncomputable def fB (i j : Nat) : List Stmt := match stA i j with
  | some (.FunctionDef _ _ b _ _ _ _ _ _ _) => b
  | _ => []
noncomputable def fC (i j : Nat) : Scope := match stA i j with
  | some (.FunctionDef _ _ _ _ _ _ s _ _ _) => s
  | _ => default
noncomputable def qb35 : { b : List Stmt // fB 2 0 = b } := by refine ⟨?_, ?_⟩; rotate_left; conv => lhs; whnf
noncomputable def qs35 : { b : Scope // fC 2 0 = b } := by refine ⟨?_, ?_⟩; rotate_left; conv => lhs; whnf
noncomputable def qp35 : { b : Arguments // fA 2 0 = b } := by refine ⟨?_, ?_⟩; rotate_left; conv => lhs; whnf
noncomputable abbrev b35 : List Stmt := qb35.1
noncomputable abbrev s35 : Scope := qs35.1
noncomputable abbrev p35 : Arguments := qp35.1
noncomputable def qb55 : { b : List Stmt // fB 7 0 = b } := by refine ⟨?_, ?_⟩; rotate_left; conv => lhs; whnf
noncomputable def qs55 : { b : Scope // fC 7 0 = b } := by refine ⟨?_, ?_⟩; rotate_left; conv => lhs; whnf
noncomputable def qp55 : { b : Arguments // fA 7 0 = b } := by refine ⟨?_, ?_⟩; rotate_left; conv => lhs; whnf
noncomputable abbrev b55 : List Stmt := qb55.1
noncomputable abbrev s55 : Scope := qs55.1
noncomputable abbrev p55 : Arguments := qp55.1
noncomputable def qb69 : { b : List Stmt // fB 8 0 = b } := by refine ⟨?_, ?_⟩; rotate_left; conv => lhs; whnf
noncomputable def qs69 : { b : Scope // fC 8 0 = b } := by refine ⟨?_, ?_⟩; rotate_left; conv => lhs; whnf
noncomputable def qp69 : { b : Arguments // fA 8 0 = b } := by refine ⟨?_, ?_⟩; rotate_left; conv => lhs; whnf
noncomputable abbrev b69 : List Stmt := qb69.1
noncomputable abbrev s69 : Scope := qs69.1
noncomputable abbrev p69 : Arguments := qp69.1
noncomputable def qb76 : { b : List Stmt // fB 9 0 = b } := by refine ⟨?_, ?_⟩; rotate_left; conv => lhs; whnf
noncomputable def qs76 : { b : Scope // fC 9 0 = b } := by refine ⟨?_, ?_⟩; rotate_left; conv => lhs; whnf
noncomputable def qp76 : { b : Arguments // fA 9 0 = b } := by refine ⟨?_, ?_⟩; rotate_left; conv => lhs; whnf
noncomputable abbrev b76 : List Stmt := qb76.1
noncomputable abbrev s76 : Scope := qs76.1
noncomputable abbrev p76 : Arguments := qp76.1
noncomputable def qb83 : { b : List Stmt // fB 10 0 = b } := by refine ⟨?_, ?_⟩; rotate_left; conv => lhs; whnf
noncomputable def qs83 : { b : Scope // fC 10 0 = b } := by refine ⟨?_, ?_⟩; rotate_left; conv => lhs; whnf
noncomputable def qp83 : { b : Arguments // fA 10 0 = b } := by refine ⟨?_, ?_⟩; rotate_left; conv => lhs; whnf
noncomputable abbrev b83 : List Stmt := qb83.1
noncomputable abbrev s83 : Scope := qs83.1
noncomputable abbrev p83 : Arguments := qp83.1
noncomputable def qb90 : { b : List Stmt // fB 11 0 = b } := by refine ⟨?_, ?_⟩; rotate_left; conv => lhs; whnf
noncomputable def qs90 : { b : Scope // fC 11 0 = b } := by refine ⟨?_, ?_⟩; rotate_left; conv => lhs; whnf
noncomputable def qp90 : { b : Arguments // fA 11 0 = b } := by refine ⟨?_, ?_⟩; rotate_left; conv => lhs; whnf
noncomputable abbrev b90 : List Stmt := qb90.1
noncomputable abbrev s90 : Scope := qs90.1
noncomputable abbrev p90 : Arguments := qp90.1
noncomputable def qb97 : { b : List Stmt // fB 12 0 = b } := by refine ⟨?_, ?_⟩; rotate_left; conv => lhs; whnf
noncomputable def qs97 : { b : Scope // fC 12 0 = b } := by refine ⟨?_, ?_⟩; rotate_left; conv => lhs; whnf
noncomputable def qp97 : { b : Arguments // fA 12 0 = b } := by refine ⟨?_, ?_⟩; rotate_left; conv => lhs; whnf
noncomputable abbrev b97 : List Stmt := qb97.1
noncomputable abbrev s97 : Scope := qs97.1
noncomputable abbrev p97 : Arguments := qp97.1
noncomputable def qb104 : { b : List Stmt // fB 14 0 = b } := by refine ⟨?_, ?_⟩; rotate_left; conv => lhs; whnf
noncomputable def qs104 : { b : Scope // fC 14 0 = b } := by refine ⟨?_, ?_⟩; rotate_left; conv => lhs; whnf
noncomputable def qp104 : { b : Arguments // fA 14 0 = b } := by refine ⟨?_, ?_⟩; rotate_left; conv => lhs; whnf
noncomputable abbrev b104 : List Stmt := qb104.1
noncomputable abbrev s104 : Scope := qs104.1
noncomputable abbrev p104 : Arguments := qp104.1
noncomputable def qb197 : { b : List Stmt // fB 26 0 = b } := by refine ⟨?_, ?_⟩; rotate_left; conv => lhs; whnf
noncomputable def qs197 : { b : Scope // fC 26 0 = b } := by refine ⟨?_, ?_⟩; rotate_left; conv => lhs; whnf
noncomputable def qp197 : { b : Arguments // fA 26 0 = b } := by refine ⟨?_, ?_⟩; rotate_left; conv => lhs; whnf
noncomputable abbrev b197 : List Stmt := qb197.1
noncomputable abbrev s197 : Scope := qs197.1
noncomputable abbrev p197 : Arguments := qp197.1
noncomputable def qb309 : { b : List Stmt // fB 31 0 = b } := by refine ⟨?_, ?_⟩; rotate_left; conv => lhs; whnf
noncomputable def qs309 : { b : Scope // fC 31 0 = b } := by refine ⟨?_, ?_⟩; rotate_left; conv => lhs; whnf
noncomputable def qp309 : { b : Arguments // fA 31 0 = b } := by refine ⟨?_, ?_⟩; rotate_left; conv => lhs; whnf
noncomputable abbrev b309 : List Stmt := qb309.1
noncomputable abbrev s309 : Scope := qs309.1
noncomputable abbrev p309 : Arguments := qp309.1
noncomputable def qb316 : { b : List Stmt // fB 33 0 = b } := by refine ⟨?_, ?_⟩; rotate_left; conv => lhs; whnf
noncomputable def qs316 : { b : Scope // fC 33 0 = b } := by refine ⟨?_, ?_⟩; rotate_left; conv => lhs; whnf
noncomputable def qp316 : { b : Arguments // fA 33 0 = b } := by refine ⟨?_, ?_⟩; rotate_left; conv => lhs; whnf
noncomputable abbrev b316 : List Stmt := qb316.1
noncomputable abbrev s316 : Scope := qs316.1
noncomputable abbrev p316 : Arguments := qp316.1
noncomputable def qb344 : { b : List Stmt // fB 36 0 = b } := by refine ⟨?_, ?_⟩; rotate_left; conv => lhs; whnf
noncomputable def qs344 : { b : Scope // fC 36 0 = b } := by refine ⟨?_, ?_⟩; rotate_left; conv => lhs; whnf
noncomputable def qp344 : { b : Arguments // fA 36 0 = b } := by refine ⟨?_, ?_⟩; rotate_left; conv => lhs; whnf
noncomputable abbrev b344 : List Stmt := qb344.1
noncomputable abbrev s344 : Scope := qs344.1
noncomputable abbrev p344 : Arguments := qp344.1
noncomputable def qb381 : { b : List Stmt // fB 45 0 = b } := by refine ⟨?_, ?_⟩; rotate_left; conv => lhs; whnf
noncomputable def qs381 : { b : Scope // fC 45 0 = b } := by refine ⟨?_, ?_⟩; rotate_left; conv => lhs; whnf
noncomputable def qp381 : { b : Arguments // fA 45 0 = b } := by refine ⟨?_, ?_⟩; rotate_left; conv => lhs; whnf
noncomputable abbrev b381 : List Stmt := qb381.1
noncomputable abbrev s381 : Scope := qs381.1
noncomputable abbrev p381 : Arguments := qp381.1
noncomputable def qb442 : { b : List Stmt // fB 53 0 = b } := by refine ⟨?_, ?_⟩; rotate_left; conv => lhs; whnf
noncomputable def qs442 : { b : Scope // fC 53 0 = b } := by refine ⟨?_, ?_⟩; rotate_left; conv => lhs; whnf
noncomputable def qp442 : { b : Arguments // fA 53 0 = b } := by refine ⟨?_, ?_⟩; rotate_left; conv => lhs; whnf
noncomputable abbrev b442 : List Stmt := qb442.1
noncomputable abbrev s442 : Scope := qs442.1
noncomputable abbrev p442 : Arguments := qp442.1
noncomputable def qb449 : { b : List Stmt // fB 53 1 = b } := by refine ⟨?_, ?_⟩; rotate_left; conv => lhs; whnf
noncomputable def qs449 : { b : Scope // fC 53 1 = b } := by refine ⟨?_, ?_⟩; rotate_left; conv => lhs; whnf
noncomputable def qp449 : { b : Arguments // fA 53 1 = b } := by refine ⟨?_, ?_⟩; rotate_left; conv => lhs; whnf
noncomputable abbrev b449 : List Stmt := qb449.1
noncomputable abbrev s449 : Scope := qs449.1
noncomputable abbrev p449 : Arguments := qp449.1
noncomputable def qb456 : { b : List Stmt // fB 53 2 = b } := by refine ⟨?_, ?_⟩; rotate_left; conv => lhs; whnf
noncomputable def qs456 : { b : Scope // fC 53 2 = b } := by refine ⟨?_, ?_⟩; rotate_left; conv => lhs; whnf
noncomputable def qp456 : { b : Arguments // fA 53 2 = b } := by refine ⟨?_, ?_⟩; rotate_left; conv => lhs; whnf
noncomputable abbrev b456 : List Stmt := qb456.1
noncomputable abbrev s456 : Scope := qs456.1
noncomputable abbrev p456 : Arguments := qp456.1
noncomputable def qb463 : { b : List Stmt // fB 53 3 = b } := by refine ⟨?_, ?_⟩; rotate_left; conv => lhs; whnf
noncomputable def qs463 : { b : Scope // fC 53 3 = b } := by refine ⟨?_, ?_⟩; rotate_left; conv => lhs; whnf
noncomputable def qp463 : { b : Arguments // fA 53 3 = b } := by refine ⟨?_, ?_⟩; rotate_left; conv => lhs; whnf
noncomputable abbrev b463 : List Stmt := qb463.1
noncomputable abbrev s463 : Scope := qs463.1
noncomputable abbrev p463 : Arguments := qp463.1
noncomputable def qb470 : { b : List Stmt // fB 53 4 = b } := by refine ⟨?_, ?_⟩; rotate_left; conv => lhs; whnf
noncomputable def qs470 : { b : Scope // fC 53 4 = b } := by refine ⟨?_, ?_⟩; rotate_left; conv => lhs; whnf
noncomputable def qp470 : { b : Arguments // fA 53 4 = b } := by refine ⟨?_, ?_⟩; rotate_left; conv => lhs; whnf
noncomputable abbrev b470 : List Stmt := qb470.1
noncomputable abbrev s470 : Scope := qs470.1
noncomputable abbrev p470 : Arguments := qp470.1
noncomputable def qb477 : { b : List Stmt // fB 53 5 = b } := by refine ⟨?_, ?_⟩; rotate_left; conv => lhs; whnf
noncomputable def qs477 : { b : Scope // fC 53 5 = b } := by refine ⟨?_, ?_⟩; rotate_left; conv => lhs; whnf
noncomputable def qp477 : { b : Arguments // fA 53 5 = b } := by refine ⟨?_, ?_⟩; rotate_left; conv => lhs; whnf
noncomputable abbrev b477 : List Stmt := qb477.1
noncomputable abbrev s477 : Scope := qs477.1
noncomputable abbrev p477 : Arguments := qp477.1
noncomputable def qb512 : { b : List Stmt // fB 54 0 = b } := by refine ⟨?_, ?_⟩; rotate_left; conv => lhs; whnf
noncomputable def qs512 : { b : Scope // fC 54 0 = b } := by refine ⟨?_, ?_⟩; rotate_left; conv => lhs; whnf
noncomputable def qp512 : { b : Arguments // fA 54 0 = b } := by refine ⟨?_, ?_⟩; rotate_left; conv => lhs; whnf
noncomputable abbrev b512 : List Stmt := qb512.1
noncomputable abbrev s512 : Scope := qs512.1
noncomputable abbrev p512 : Arguments := qp512.1
noncomputable def qb526 : { b : List Stmt // fB 56 0 = b } := by refine ⟨?_, ?_⟩; rotate_left; conv => lhs; whnf
noncomputable def qs526 : { b : Scope // fC 56 0 = b } := by refine ⟨?_, ?_⟩; rotate_left; conv => lhs; whnf
noncomputable def qp526 : { b : Arguments // fA 56 0 = b } := by refine ⟨?_, ?_⟩; rotate_left; conv => lhs; whnf
noncomputable abbrev b526 : List Stmt := qb526.1
noncomputable abbrev s526 : Scope := qs526.1
noncomputable abbrev p526 : Arguments := qp526.1
noncomputable def qb533 : { b : List Stmt // fB 58 0 = b } := by refine ⟨?_, ?_⟩; rotate_left; conv => lhs; whnf
noncomputable def qs533 : { b : Scope // fC 58 0 = b } := by refine ⟨?_, ?_⟩; rotate_left; conv => lhs; whnf
noncomputable def qp533 : { b : Arguments // fA 58 0 = b } := by refine ⟨?_, ?_⟩; rotate_left; conv => lhs; whnf
noncomputable abbrev b533 : List Stmt := qb533.1
noncomputable abbrev s533 : Scope := qs533.1
noncomputable abbrev p533 : Arguments := qp533.1
noncomputable def qb540 : { b : List Stmt // fB 59 0 = b } := by refine ⟨?_, ?_⟩; rotate_left; conv => lhs; whnf
noncomputable def qs540 : { b : Scope // fC 59 0 = b } := by refine ⟨?_, ?_⟩; rotate_left; conv => lhs; whnf
noncomputable def qp540 : { b : Arguments // fA 59 0 = b } := by refine ⟨?_, ?_⟩; rotate_left; conv => lhs; whnf
noncomputable abbrev b540 : List Stmt := qb540.1
noncomputable abbrev s540 : Scope := qs540.1
noncomputable abbrev p540 : Arguments := qp540.1
noncomputable def qb547 : { b : List Stmt // fB 60 0 = b } := by refine ⟨?_, ?_⟩; rotate_left; conv => lhs; whnf
noncomputable def qs547 : { b : Scope // fC 60 0 = b } := by refine ⟨?_, ?_⟩; rotate_left; conv => lhs; whnf
noncomputable def qp547 : { b : Arguments // fA 60 0 = b } := by refine ⟨?_, ?_⟩; rotate_left; conv => lhs; whnf
noncomputable abbrev b547 : List Stmt := qb547.1
noncomputable abbrev s547 : Scope := qs547.1
noncomputable abbrev p547 : Arguments := qp547.1
noncomputable def qb552 : { b : List Stmt // fB 62 0 = b } := by refine ⟨?_, ?_⟩; rotate_left; conv => lhs; whnf
noncomputable def qs552 : { b : Scope // fC 62 0 = b } := by refine ⟨?_, ?_⟩; rotate_left; conv => lhs; whnf
noncomputable def qp552 : { b : Arguments // fA 62 0 = b } := by refine ⟨?_, ?_⟩; rotate_left; conv => lhs; whnf
noncomputable abbrev b552 : List Stmt := qb552.1
noncomputable abbrev s552 : Scope := qs552.1
noncomputable abbrev p552 : Arguments := qp552.1
noncomputable def qb559 : { b : List Stmt // fB 63 0 = b } := by refine ⟨?_, ?_⟩; rotate_left; conv => lhs; whnf
noncomputable def qs559 : { b : Scope // fC 63 0 = b } := by refine ⟨?_, ?_⟩; rotate_left; conv => lhs; whnf
noncomputable def qp559 : { b : Arguments // fA 63 0 = b } := by refine ⟨?_, ?_⟩; rotate_left; conv => lhs; whnf
noncomputable abbrev b559 : List Stmt := qb559.1
noncomputable abbrev s559 : Scope := qs559.1
noncomputable abbrev p559 : Arguments := qp559.1
noncomputable def qb564 : { b : List Stmt // fB 64 0 = b } := by refine ⟨?_, ?_⟩; rotate_left; conv => lhs; whnf
noncomputable def qs564 : { b : Scope // fC 64 0 = b } := by refine ⟨?_, ?_⟩; rotate_left; conv => lhs; whnf
noncomputable def qp564 : { b : Arguments // fA 64 0 = b } := by refine ⟨?_, ?_⟩; rotate_left; conv => lhs; whnf
noncomputable abbrev b564 : List Stmt := qb564.1
noncomputable abbrev s564 : Scope := qs564.1
noncomputable abbrev p564 : Arguments := qp564.1
noncomputable def qb569 : { b : List Stmt // fB 65 0 = b } := by refine ⟨?_, ?_⟩; rotate_left; conv => lhs; whnf
noncomputable def qs569 : { b : Scope // fC 65 0 = b } := by refine ⟨?_, ?_⟩; rotate_left; conv => lhs; whnf
noncomputable def qp569 : { b : Arguments // fA 65 0 = b } := by refine ⟨?_, ?_⟩; rotate_left; conv => lhs; whnf
noncomputable abbrev b569 : List Stmt := qb569.1
noncomputable abbrev s569 : Scope := qs569.1
noncomputable abbrev p569 : Arguments := qp569.1
noncomputable def qb576 : { b : List Stmt // fB 66 0 = b } := by refine ⟨?_, ?_⟩; rotate_left; conv => lhs; whnf
noncomputable def qs576 : { b : Scope // fC 66 0 = b } := by refine ⟨?_, ?_⟩; rotate_left; conv => lhs; whnf
noncomputable def qp576 : { b : Arguments // fA 66 0 = b } := by refine ⟨?_, ?_⟩; rotate_left; conv => lhs; whnf
noncomputable abbrev b576 : List Stmt := qb576.1
noncomputable abbrev s576 : Scope := qs576.1
noncomputable abbrev p576 : Arguments := qp576.1
noncomputable def qb583 : { b : List Stmt // fB 67 0 = b } := by refine ⟨?_, ?_⟩; rotate_left; conv => lhs; whnf
noncomputable def qs583 : { b : Scope // fC 67 0 = b } := by refine ⟨?_, ?_⟩; rotate_left; conv => lhs; whnf
noncomputable def qp583 : { b : Arguments // fA 67 0 = b } := by refine ⟨?_, ?_⟩; rotate_left; conv => lhs; whnf
noncomputable abbrev b583 : List Stmt := qb583.1
noncomputable abbrev s583 : Scope := qs583.1
noncomputable abbrev p583 : Arguments := qp583.1
noncomputable def qb588 : { b : List Stmt // fB 68 0 = b } := by refine ⟨?_, ?_⟩; rotate_left; conv => lhs; whnf
noncomputable def qs588 : { b : Scope // fC 68 0 = b } := by refine ⟨?_, ?_⟩; rotate_left; conv => lhs; whnf
noncomputable def qp588 : { b : Arguments // fA 68 0 = b } := by refine ⟨?_, ?_⟩; rotate_left; conv => lhs; whnf
noncomputable abbrev b588 : List Stmt := qb588.1
noncomputable abbrev s588 : Scope := qs588.1
noncomputable abbrev p588 : Arguments := qp588.1
noncomputable def qb595 : { b : List Stmt // fB 69 0 = b } := by refine ⟨?_, ?_⟩; rotate_left; conv => lhs; whnf
noncomputable def qs595 : { b : Scope // fC 69 0 = b } := by refine ⟨?_, ?_⟩; rotate_left; conv => lhs; whnf
noncomputable def qp595 : { b : Arguments // fA 69 0 = b } := by refine ⟨?_, ?_⟩; rotate_left; conv => lhs; whnf
noncomputable abbrev b595 : List Stmt := qb595.1
noncomputable abbrev s595 : Scope := qs595.1
noncomputable abbrev p595 : Arguments := qp595.1
noncomputable def qb600 : { b : List Stmt // fB 70 0 = b } := by refine ⟨?_, ?_⟩; rotate_left; conv => lhs; whnf
noncomputable def qs600 : { b : Scope // fC 70 0 = b } := by refine ⟨?_, ?_⟩; rotate_left; conv => lhs; whnf
noncomputable def qp600 : { b : Arguments // fA 70 0 = b } := by refine ⟨?_, ?_⟩; rotate_left; conv => lhs; whnf
noncomputable abbrev b600 : List Stmt := qb600.1
noncomputable abbrev s600 : Scope := qs600.1
noncomputable abbrev p600 : Arguments := qp600.1
/-! ## The heap behind the top -/
noncomputable def o0 (P : Params) : Obj := boot_o_0 P
noncomputable def o1 (P : Params) : Obj := boot_o_1 P
noncomputable def o2 (P : Params) : Obj := { cls := .none, data := .dict #[⟨PyData.keyHash P (.ofString "type.__subclasses__.Exception.0"), .str (.ofString "type.__subclasses__.Exception.0") 223, .int 38 0⟩, ⟨PyData.keyHash P (.ofString "type.__subclasses__.Exception.n"), .str (.ofString "type.__subclasses__.Exception.n") 224, .int 1 0⟩] 2 }
noncomputable def o3 (P : Params) : Obj := { cls := .type "dict", data := .dict #[⟨PyData.keyHash P (.ofString "__name__"), .str (.ofString "__name__") 165, .str (.ofString "law_np0086_01") 1022⟩, ⟨PyData.keyHash P (.ofString "__doc__"), .str (.ofString "__doc__") 166, .none⟩, ⟨PyData.keyHash P (.ofString "__package__"), .str (.ofString "__package__") 167, .none⟩, ⟨PyData.keyHash P (.ofString "__loader__"), .str (.ofString "__loader__") 168, .builtin "__main__.__loader__#opaque"⟩, ⟨PyData.keyHash P (.ofString "__spec__"), .str (.ofString "__spec__") 169, .none⟩, ⟨PyData.keyHash P (.ofString "__annotations__"), .str (.ofString "__annotations__") 170, .ref 6⟩, ⟨PyData.keyHash P (.ofString "__builtins__"), .str (.ofString "__builtins__") 171, .ref 4⟩, ⟨PyData.keyHash P (.ofString "__file__"), .str (.ofString "__file__") 173, .str (.ofString "/claim/cut.py") 172⟩, ⟨PyData.keyHash P (.ofString "__cached__"), .str (.ofString "__cached__") 174, .none⟩, ⟨PyData.keyHash P (.ofString "_wall"), .str (.ofString "_wall") 193, .ref 21⟩, ⟨PyData.keyHash P (.ofString "LispSignal"), .str (.ofString "LispSignal") 226, .ref 38⟩, ⟨PyData.keyHash P (.ofString "PERCENT"), .str (.ofString "PERCENT") 230, .int 37 229⟩, ⟨PyData.keyHash P (.ofString "LETTERS"), .str (.ofString "LETTERS") 232, .str (.ofString "sSdoxXc") 231⟩, ⟨PyData.keyHash P (.ofString "LARGEST"), .str (.ofString "LARGEST") 236, .int 65536 235⟩, ⟨PyData.keyHash P (.ofString "Spec"), .str (.ofString "Spec") 272, .ref 58⟩, ⟨PyData.keyHash P (.ofString "number_from"), .str (.ofString "number_from") 281, .ref 69⟩, ⟨PyData.keyHash P (.ofString "take_flags"), .str (.ofString "take_flags") 291, .ref 76⟩, ⟨PyData.keyHash P (.ofString "read_spec"), .str (.ofString "read_spec") 302, .ref 83⟩, ⟨PyData.keyHash P (.ofString "padded"), .str (.ofString "padded") 311, .ref 90⟩, ⟨PyData.keyHash P (.ofString "figures_of"), .str (.ofString "figures_of") 325, .ref 400⟩, ⟨PyData.keyHash P (.ofString "figures_of_formatspecs"), .str (.ofString "figures_of_formatspecs") 326, .ref 97⟩, ⟨PyData.keyHash P (.ofString "number_codes"), .str (.ofString "number_codes") 336, .ref 104⟩, ⟨PyData.keyHash P (.ofString "DIGITS"), .str (.ofString "DIGITS") 340, .str (.ofString "0123456789abcdefghijklmnopqrstuvwxyz") 339⟩, ⟨PyData.keyHash P (.ofString "value_in"), .str (.ofString "value_in") 352, .ref 111⟩, ⟨PyData.keyHash P (.ofString "integer_of"), .str (.ofString "integer_of") 359, .ref 118⟩, ⟨PyData.keyHash P (.ofString "are_figures"), .str (.ofString "are_figures") 365, .ref 123⟩, ⟨PyData.keyHash P (.ofString "is_power"), .str (.ofString "is_power") 372, .ref 130⟩, ⟨PyData.keyHash P (.ofString "is_float"), .str (.ofString "is_float") 386, .ref 137⟩, ⟨PyData.keyHash P (.ofString "Symbol"), .str (.ofString "Symbol") 419, .ref 154⟩, ⟨PyData.keyHash P (.ofString "NIL"), .str (.ofString "NIL") 429, .ref 160⟩, ⟨PyData.keyHash P (.ofString "Cons"), .str (.ofString "Cons") 460, .ref 178⟩, ⟨PyData.keyHash P (.ofString "Text"), .str (.ofString "Text") 491, .ref 200⟩, ⟨PyData.keyHash P (.ofString "Vector"), .str (.ofString "Vector") 520, .ref 221⟩, ⟨PyData.keyHash P (.ofString "Subr"), .str (.ofString "Subr") 557, .ref 242⟩, ⟨PyData.keyHash P (.ofString "ByteCode"), .str (.ofString "ByteCode") 586, .ref 263⟩, ⟨PyData.keyHash P (.ofString "Opaque"), .str (.ofString "Opaque") 628, .ref 298⟩, ⟨PyData.keyHash P (.ofString "is_whole"), .str (.ofString "is_whole") 635, .ref 309⟩, ⟨PyData.keyHash P (.ofString "is_shared"), .str (.ofString "is_shared") 644, .ref 316⟩, ⟨PyData.keyHash P (.ofString "parts_of"), .str (.ofString "parts_of") 651, .ref 323⟩, ⟨PyData.keyHash P (.ofString "stands_in"), .str (.ofString "stands_in") 660, .ref 330⟩, ⟨PyData.keyHash P (.ofString "Labels"), .str (.ofString "Labels") 711, .ref 361⟩, ⟨PyData.keyHash P (.ofString "DATUM"), .str (.ofString "DATUM") 715, .int 0 714⟩, ⟨PyData.keyHash P (.ofString "SIGNS"), .str (.ofString "SIGNS") 717, .int 1 716⟩, ⟨PyData.keyHash P (.ofString "ROW"), .str (.ofString "ROW") 719, .int 2 718⟩, ⟨PyData.keyHash P (.ofString "CELLS"), .str (.ofString "CELLS") 721, .int 3 720⟩, ⟨PyData.keyHash P (.ofString "LEFT"), .str (.ofString "LEFT") 723, .int 4 722⟩, ⟨PyData.keyHash P (.ofString "QUOTES"), .str (.ofString "QUOTES") 739, .ref 366⟩, ⟨PyData.keyHash P (.ofString "SPECIALS"), .str (.ofString "SPECIALS") 751, .ref 367⟩, ⟨PyData.keyHash P (.ofString "PrintOptions"), .str (.ofString "PrintOptions") 787, .ref 384⟩, ⟨PyData.keyHash P (.ofString "codes_of"), .str (.ofString "codes_of") 793, .ref 393⟩, ⟨PyData.keyHash P (.ofString "figures_of_lispprinter"), .str (.ofString "figures_of_lispprinter") 805, .ref 400⟩, ⟨PyData.keyHash P (.ofString "is_confusing"), .str (.ofString "is_confusing") 812, .ref 407⟩, ⟨PyData.keyHash P (.ofString "symbol_codes"), .str (.ofString "symbol_codes") 828, .ref 414⟩, ⟨PyData.keyHash P (.ofString "string_codes"), .str (.ofString "string_codes") 838, .ref 421⟩, ⟨PyData.keyHash P (.ofString "short_quote"), .str (.ofString "short_quote") 845, .ref 428⟩, ⟨PyData.keyHash P (.ofString "Printer"), .str (.ofString "Printer") 959, .ref 501⟩, ⟨PyData.keyHash P (.ofString "printed"), .str (.ofString "printed") 969, .ref 512⟩, ⟨PyData.keyHash P (.ofString "prin1"), .str (.ofString "prin1") 977, .ref 519⟩, ⟨PyData.keyHash P (.ofString "princ"), .str (.ofString "princ") 985, .ref 526⟩, ⟨PyData.keyHash P (.ofString "thing_for"), .str (.ofString "thing_for") 997, .ref 533⟩, ⟨PyData.keyHash P (.ofString "told_codes"), .str (.ofString "told_codes") 1007, .ref 540⟩, ⟨PyData.keyHash P (.ofString "formatted"), .str (.ofString "formatted") 1021, .ref 547⟩, ⟨PyData.keyHash P (.ofString "_law_deck"), .str (.ofString "_law_deck") 1029, .ref 552⟩, ⟨PyData.keyHash P (.ofString "_law_draw"), .str (.ofString "_law_draw") 1038, .ref 559⟩, ⟨PyData.keyHash P (.ofString "_law_codes"), .str (.ofString "_law_codes") 1044, .ref 564⟩, ⟨PyData.keyHash P (.ofString "_law_figures"), .str (.ofString "_law_figures") 1050, .ref 569⟩, ⟨PyData.keyHash P (.ofString "_law_wide"), .str (.ofString "_law_wide") 1060, .ref 576⟩, ⟨PyData.keyHash P (.ofString "_law_number"), .str (.ofString "_law_number") 1073, .ref 583⟩, ⟨PyData.keyHash P (.ofString "_law_part"), .str (.ofString "_law_part") 1079, .ref 588⟩, ⟨PyData.keyHash P (.ofString "_law_told"), .str (.ofString "_law_told") 1088, .ref 595⟩, ⟨PyData.keyHash P (.ofString "law"), .str (.ofString "law") 1094, .ref 600⟩] 71 }
noncomputable def o4 (P : Params) : Obj := boot_o_4 P
noncomputable def o5 (P : Params) : Obj := boot_o_5 P
noncomputable def o6 (P : Params) : Obj := boot_o_6 P
noncomputable def o7 (P : Params) : Obj := boot_o_7 P
noncomputable def o8 (P : Params) : Obj := boot_o_8 P
noncomputable def o9 (P : Params) : Obj := boot_o_9 P
noncomputable def o10 (P : Params) : Obj := boot_o_10 P
noncomputable def o11 (P : Params) : Obj := { cls := .type "tuple", data := .seq #[] }
noncomputable def o12 (P : Params) : Obj := { cls := .none, data := .fields #[.int 1 0, .int 0 0, .ref 20, .int 5 0, .int 0 0, .ref 27, .int 14 0, .int 0 0, .ref 47, .int 26 0, .int 0 0, .ref 68, .int 33 0, .int 0 0, .ref 75, .int 43 0, .int 0 0, .ref 82, .int 58 0, .int 0 0, .ref 89, .int 61 0, .int 0 0, .ref 96, .int 72 0, .int 0 0, .ref 103, .int 85 0, .int 0 0, .ref 110, .int 96 0, .int 0 0, .ref 117, .int 98 0, .int 0 0, .ref 122, .int 100 0, .int 0 0, .ref 129, .int 102 0, .int 0 0, .ref 136, .int 112 0, .int 0 0, .ref 143, .int 118 0, .int 0 0, .ref 167, .int 123 0, .int 0 0, .ref 188, .int 128 0, .int 0 0, .ref 210, .int 132 0, .int 0 0, .ref 231, .int 140 0, .int 0 0, .ref 252, .int 144 0, .int 0 0, .ref 273, .int 154 0, .int 0 0, .ref 308, .int 157 0, .int 0 0, .ref 315, .int 159 0, .int 0 0, .ref 322, .int 163 0, .int 0 0, .ref 329, .int 168 0, .int 0 0, .ref 336, .int 207 0, .int 0 0, .ref 373, .int 218 0, .int 0 0, .ref 392, .int 220 0, .int 0 0, .ref 399, .int 231 0, .int 0 0, .ref 406, .int 233 0, .int 0 0, .ref 413, .int 249 0, .int 0 0, .ref 420, .int 259 0, .int 0 0, .ref 427, .int 265 0, .int 0 0, .ref 434, .int 384 0, .int 0 0, .ref 511, .int 387 0, .int 0 0, .ref 518, .int 389 0, .int 0 0, .ref 525, .int 392 0, .int 0 0, .ref 532, .int 397 0, .int 0 0, .ref 539, .int 408 0, .int 0 0, .ref 546, .int 425 0, .int 0 0, .ref 551, .int 427 0, .int 0 0, .ref 558, .int 435 0, .int 0 0, .ref 563, .int 437 0, .int 0 0, .ref 568, .int 443 0, .int 0 0, .ref 575, .int 446 0, .int 0 0, .ref 582, .int 458 0, .int 0 0, .ref 587, .int 476 0, .int 0 0, .ref 594, .int 481 0, .int 0 0, .ref 599] }
noncomputable def o13 (P : Params) : Obj := { cls := .type "code", data := .fields #[.str (.ofString "<module>") 182, .str (.ofString "<module>") 183, .str (.ofString "/claim/cut.py") 184, .int 1 0, .int 0 0, .int 0 0, .int 0 0, .int 0 0, .ref 11, .bool false, .int 181 0, .ref 12, .none, .none, .none, .none, .int 185 0, .int 1 0, .str (.ofString "/claim/cut.py") 186] }
noncomputable def o14 (P : Params) : Obj := { cls := .type "frame", slots := #[some (.ref 13), some (.ref 3), some (.ref 3), none, some (.str (.ofString "__main__") 164), none, some (.ref 0)] }
noncomputable def o15 (P : Params) : Obj := { cls := .type "tuple", data := .seq #[] }
noncomputable def o16 (P : Params) : Obj := { cls := .none, data := .fields #[] }
noncomputable def o17 (P : Params) : Obj := { cls := .type "tuple", data := .seq #[.str (.ofString "k") 190] }
noncomputable def o18 (P : Params) : Obj := { cls := .type "tuple", data := .seq #[] }
noncomputable def o19 (P : Params) : Obj := { cls := .none, data := .func { name := Str.ofString "_wall", qualname := Str.ofString "_wall", params := fA 0 0, body := FuncBody.stmts (fB 0 0), scope := fC 0 0, globals := 0, closure := [], defaults := .none, kwdefaults := .none } }
noncomputable def o20 (P : Params) : Obj := { cls := .type "code", data := .fields #[.str (.ofString "_wall") 187, .str (.ofString "_wall") 188, .str (.ofString "/claim/cut.py") 189, .int 1 0, .int 1 0, .int 0 0, .int 0 0, .int 3 0, .ref 15, .bool true, .int 181 0, .ref 16, .none, .ref 17, .ref 18, .ref 19, .int 191 0, .int 1 0, .str (.ofString "/claim/cut.py") 192] }
noncomputable def o21 (P : Params) : Obj := { cls := .type "function", data := .func { name := Str.ofString "_wall", qualname := Str.ofString "_wall", params := fA 0 0, body := FuncBody.stmts (fB 0 0), scope := fC 0 0, globals := 3, closure := [], defaults := .none, kwdefaults := .none, pyModule := .str (.ofString "__main__") 164, code := .ref 20 } }
noncomputable def o22 (P : Params) : Obj := { cls := .type "tuple", data := .seq #[.type "Exception"] }
noncomputable def o23 (P : Params) : Obj := { cls := .type "builtin_function_or_method", data := .fields #[.builtin "type.__prepare__", .type "type"] }
noncomputable def o24 (P : Params) : Obj := { cls := .type "dict", data := .dict #[⟨PyData.keyHash P (.ofString "__module__"), .str (.ofString "__module__") 203, .str (.ofString "emacs.errors") 194⟩, ⟨PyData.keyHash P (.ofString "__qualname__"), .str (.ofString "__qualname__") 205, .str (.ofString "LispSignal") 204⟩, ⟨PyData.keyHash P (.ofString "__firstlineno__"), .str (.ofString "__firstlineno__") 207, .int 5 206⟩, ⟨PyData.keyHash P (.ofString "__init__"), .str (.ofString "__init__") 216, .ref 35⟩, ⟨PyData.keyHash P (.ofString "__static_attributes__"), .str (.ofString "__static_attributes__") 219, .ref 36⟩] 5 }
noncomputable def o25 (P : Params) : Obj := { cls := .type "tuple", data := .seq #[] }
noncomputable def o26 (P : Params) : Obj := { cls := .none, data := .fields #[.int 7 0, .int 4 0, .ref 34] }
noncomputable def o27 (P : Params) : Obj := { cls := .type "code", data := .fields #[.str (.ofString "LispSignal") 198, .str (.ofString "LispSignal") 199, .str (.ofString "/claim/cut.py") 200, .int 5 0, .int 0 0, .int 0 0, .int 0 0, .int 0 0, .ref 25, .bool false, .int 181 0, .ref 26, .none, .none, .none, .none, .int 201 0, .int 5 0, .str (.ofString "/claim/cut.py") 202] }
noncomputable def o28 (P : Params) : Obj := { cls := .type "frame", slots := #[some (.ref 27), some (.ref 3), some (.ref 24), none, some (.str (.ofString "emacs.errors") 194), none, some (.ref 0)] }
noncomputable def o29 (P : Params) : Obj := { cls := .type "tuple", data := .seq #[] }
noncomputable def o30 (P : Params) : Obj := { cls := .none, data := .fields #[] }
noncomputable def o31 (P : Params) : Obj := { cls := .type "tuple", data := .seq #[.str (.ofString "self") 211, .str (.ofString "symbol") 212, .str (.ofString "data") 213] }
noncomputable def o32 (P : Params) : Obj := { cls := .type "tuple", data := .seq #[] }
noncomputable def o33 (P : Params) : Obj := { cls := .none, data := .func { name := Str.ofString "__init__", qualname := Str.ofString "LispSignal.__init__", params := p35, body := FuncBody.stmts (b35), scope := s35, globals := 0, closure := [], defaults := .none, kwdefaults := .none } }
noncomputable def o34 (P : Params) : Obj := { cls := .type "code", data := .fields #[.str (.ofString "__init__") 208, .str (.ofString "LispSignal.__init__") 209, .str (.ofString "/claim/cut.py") 210, .int 7 0, .int 3 0, .int 0 0, .int 0 0, .int 3 0, .ref 29, .bool true, .int 181 0, .ref 30, .none, .ref 31, .ref 32, .ref 33, .int 214 0, .int 7 0, .str (.ofString "/claim/cut.py") 215] }
noncomputable def o35 (P : Params) : Obj := { cls := .type "function", data := .func { name := Str.ofString "__init__", qualname := Str.ofString "LispSignal.__init__", params := p35, body := FuncBody.stmts (b35), scope := s35, globals := 3, closure := [], defaults := .none, kwdefaults := .none, pyModule := .str (.ofString "emacs.errors") 194, code := .ref 34 } }
noncomputable def o36 (P : Params) : Obj := { cls := .type "tuple", data := .seq #[.str (.ofString "data") 217, .str (.ofString "symbol") 218] }
noncomputable def o37 (P : Params) : Obj := { cls := .type "dict", data := .dict #[⟨PyData.keyHash P (.ofString "__module__"), .str (.ofString "__module__") 203, .str (.ofString "emacs.errors") 194⟩, ⟨PyData.keyHash P (.ofString "__firstlineno__"), .str (.ofString "__firstlineno__") 207, .int 5 206⟩, ⟨PyData.keyHash P (.ofString "__init__"), .str (.ofString "__init__") 216, .ref 35⟩, ⟨PyData.keyHash P (.ofString "__static_attributes__"), .str (.ofString "__static_attributes__") 219, .ref 36⟩, ⟨PyData.keyHash P (.ofString "__weakref__"), .str (.ofString "__weakref__") 221, .ref 39⟩, ⟨PyData.keyHash P (.ofString "__doc__"), .str (.ofString "__doc__") 222, .none⟩] 3 }
noncomputable def o38 (P : Params) : Obj := { cls := .type "type", data := .cls { name := Str.ofString "LispSignal", bases := [.type "Exception"], mro := [.ref 38, .type "Exception", .type "BaseException", .type "object"], ns := 37, qualname := Str.ofString "LispSignal" }, slots := #[some (.ref 22), none, some (.str (.ofString "LispSignal") 196), some (.str (.ofString "LispSignal") 204), some (.builtin "Exception.__new__"), some (.bool true)] }
noncomputable def o39 (P : Params) : Obj := { cls := .type "getset_descriptor", data := .fields #[.str (.ofString "__weakref__") 220, .ref 38, .builtin "ExceptionGroup.__weakref__", .none] }
noncomputable def o40 (P : Params) : Obj := { cls := .type "super", data := .fields #[.ref 38, .ref 38, .ref 38] }
noncomputable def o41 (P : Params) : Obj := { cls := .type "builtin_function_or_method", data := .fields #[.builtin "object.__init_subclass__", .ref 38] }
noncomputable def o42 (P : Params) : Obj := { cls := .type "tuple", data := .seq #[] }
noncomputable def o43 (P : Params) : Obj := { cls := .type "builtin_function_or_method", data := .fields #[.builtin "type.__prepare__", .type "type"] }
noncomputable def o44 (P : Params) : Obj := { cls := .type "dict", data := .dict #[⟨PyData.keyHash P (.ofString "__module__"), .str (.ofString "__module__") 244, .str (.ofString "emacs.formatspecs") 227⟩, ⟨PyData.keyHash P (.ofString "__qualname__"), .str (.ofString "__qualname__") 246, .str (.ofString "Spec") 245⟩, ⟨PyData.keyHash P (.ofString "__firstlineno__"), .str (.ofString "__firstlineno__") 248, .int 14 247⟩, ⟨PyData.keyHash P (.ofString "__init__"), .str (.ofString "__init__") 255, .ref 55⟩, ⟨PyData.keyHash P (.ofString "__static_attributes__"), .str (.ofString "__static_attributes__") 265, .ref 56⟩] 5 }
noncomputable def o45 (P : Params) : Obj := { cls := .type "tuple", data := .seq #[] }
noncomputable def o46 (P : Params) : Obj := { cls := .none, data := .fields #[.int 16 0, .int 4 0, .ref 54] }
noncomputable def o47 (P : Params) : Obj := { cls := .type "code", data := .fields #[.str (.ofString "Spec") 239, .str (.ofString "Spec") 240, .str (.ofString "/claim/cut.py") 241, .int 14 0, .int 0 0, .int 0 0, .int 0 0, .int 0 0, .ref 45, .bool false, .int 181 0, .ref 46, .none, .none, .none, .none, .int 242 0, .int 14 0, .str (.ofString "/claim/cut.py") 243] }
noncomputable def o48 (P : Params) : Obj := { cls := .type "frame", slots := #[some (.ref 47), some (.ref 3), some (.ref 44), none, some (.str (.ofString "emacs.formatspecs") 227), none, some (.ref 0)] }
noncomputable def o49 (P : Params) : Obj := { cls := .type "tuple", data := .seq #[] }
noncomputable def o50 (P : Params) : Obj := { cls := .none, data := .fields #[] }
noncomputable def o51 (P : Params) : Obj := { cls := .type "tuple", data := .seq #[.str (.ofString "self") 252] }
noncomputable def o52 (P : Params) : Obj := { cls := .type "tuple", data := .seq #[] }
noncomputable def o53 (P : Params) : Obj := { cls := .none, data := .func { name := Str.ofString "__init__", qualname := Str.ofString "Spec.__init__", params := p55, body := FuncBody.stmts (b55), scope := s55, globals := 0, closure := [], defaults := .none, kwdefaults := .none } }
noncomputable def o54 (P : Params) : Obj := { cls := .type "code", data := .fields #[.str (.ofString "__init__") 249, .str (.ofString "Spec.__init__") 250, .str (.ofString "/claim/cut.py") 251, .int 16 0, .int 1 0, .int 0 0, .int 0 0, .int 3 0, .ref 49, .bool true, .int 181 0, .ref 50, .none, .ref 51, .ref 52, .ref 53, .int 253 0, .int 16 0, .str (.ofString "/claim/cut.py") 254] }
noncomputable def o55 (P : Params) : Obj := { cls := .type "function", data := .func { name := Str.ofString "__init__", qualname := Str.ofString "Spec.__init__", params := p55, body := FuncBody.stmts (b55), scope := s55, globals := 3, closure := [], defaults := .none, kwdefaults := .none, pyModule := .str (.ofString "emacs.formatspecs") 227, code := .ref 54 } }
noncomputable def o56 (P : Params) : Obj := { cls := .type "tuple", data := .seq #[.str (.ofString "field") 256, .str (.ofString "has_blank") 257, .str (.ofString "has_noughts") 258, .str (.ofString "has_plus") 259, .str (.ofString "is_left") 260, .str (.ofString "is_marked") 261, .str (.ofString "letter") 262, .str (.ofString "precision") 263, .str (.ofString "width") 264] }
noncomputable def o57 (P : Params) : Obj := { cls := .type "dict", data := .dict #[⟨PyData.keyHash P (.ofString "__module__"), .str (.ofString "__module__") 244, .str (.ofString "emacs.formatspecs") 227⟩, ⟨PyData.keyHash P (.ofString "__firstlineno__"), .str (.ofString "__firstlineno__") 248, .int 14 247⟩, ⟨PyData.keyHash P (.ofString "__init__"), .str (.ofString "__init__") 255, .ref 55⟩, ⟨PyData.keyHash P (.ofString "__static_attributes__"), .str (.ofString "__static_attributes__") 265, .ref 56⟩, ⟨PyData.keyHash P (.ofString "__dict__"), .str (.ofString "__dict__") 267, .ref 59⟩, ⟨PyData.keyHash P (.ofString "__weakref__"), .str (.ofString "__weakref__") 269, .ref 60⟩, ⟨PyData.keyHash P (.ofString "__doc__"), .str (.ofString "__doc__") 270, .none⟩] 4 }
noncomputable def o58 (P : Params) : Obj := { cls := .type "type", data := .cls { name := Str.ofString "Spec", bases := [.type "object"], mro := [.ref 58, .type "object"], ns := 57, qualname := Str.ofString "Spec" }, slots := #[none, none, some (.str (.ofString "Spec") 237), some (.str (.ofString "Spec") 245), some (.builtin "object.__new__"), some (.bool true)] }
noncomputable def o59 (P : Params) : Obj := { cls := .type "getset_descriptor", data := .fields #[.str (.ofString "__dict__") 266, .ref 58, .builtin "function.__dict__", .builtin "function.__dict__#set"] }
noncomputable def o60 (P : Params) : Obj := { cls := .type "getset_descriptor", data := .fields #[.str (.ofString "__weakref__") 268, .ref 58, .builtin "ExceptionGroup.__weakref__", .none] }
noncomputable def o61 (P : Params) : Obj := { cls := .type "super", data := .fields #[.ref 58, .ref 58, .ref 58] }
noncomputable def o62 (P : Params) : Obj := { cls := .type "builtin_function_or_method", data := .fields #[.builtin "object.__init_subclass__", .ref 58] }
noncomputable def o63 (P : Params) : Obj := { cls := .type "tuple", data := .seq #[] }
noncomputable def o64 (P : Params) : Obj := { cls := .none, data := .fields #[] }
noncomputable def o65 (P : Params) : Obj := { cls := .type "tuple", data := .seq #[.str (.ofString "codes") 276, .str (.ofString "at") 277, .str (.ofString "found") 278] }
noncomputable def o66 (P : Params) : Obj := { cls := .type "tuple", data := .seq #[] }
noncomputable def o67 (P : Params) : Obj := { cls := .none, data := .func { name := Str.ofString "number_from", qualname := Str.ofString "number_from", params := p69, body := FuncBody.stmts (b69), scope := s69, globals := 0, closure := [], defaults := .none, kwdefaults := .none } }
noncomputable def o68 (P : Params) : Obj := { cls := .type "code", data := .fields #[.str (.ofString "number_from") 273, .str (.ofString "number_from") 274, .str (.ofString "/claim/cut.py") 275, .int 26 0, .int 2 0, .int 0 0, .int 0 0, .int 3 0, .ref 63, .bool true, .int 181 0, .ref 64, .none, .ref 65, .ref 66, .ref 67, .int 279 0, .int 26 0, .str (.ofString "/claim/cut.py") 280] }
noncomputable def o69 (P : Params) : Obj := { cls := .type "function", data := .func { name := Str.ofString "number_from", qualname := Str.ofString "number_from", params := p69, body := FuncBody.stmts (b69), scope := s69, globals := 3, closure := [], defaults := .none, kwdefaults := .none, pyModule := .str (.ofString "emacs.formatspecs") 227, code := .ref 68 } }
noncomputable def o70 (P : Params) : Obj := { cls := .type "tuple", data := .seq #[] }
noncomputable def o71 (P : Params) : Obj := { cls := .none, data := .fields #[] }
noncomputable def o72 (P : Params) : Obj := { cls := .type "tuple", data := .seq #[.str (.ofString "spec") 285, .str (.ofString "codes") 286, .str (.ofString "at") 287, .str (.ofString "code") 288] }
noncomputable def o73 (P : Params) : Obj := { cls := .type "tuple", data := .seq #[] }
noncomputable def o74 (P : Params) : Obj := { cls := .none, data := .func { name := Str.ofString "take_flags", qualname := Str.ofString "take_flags", params := p76, body := FuncBody.stmts (b76), scope := s76, globals := 0, closure := [], defaults := .none, kwdefaults := .none } }
noncomputable def o75 (P : Params) : Obj := { cls := .type "code", data := .fields #[.str (.ofString "take_flags") 282, .str (.ofString "take_flags") 283, .str (.ofString "/claim/cut.py") 284, .int 33 0, .int 3 0, .int 0 0, .int 0 0, .int 3 0, .ref 70, .bool true, .int 181 0, .ref 71, .none, .ref 72, .ref 73, .ref 74, .int 289 0, .int 33 0, .str (.ofString "/claim/cut.py") 290] }
noncomputable def o76 (P : Params) : Obj := { cls := .type "function", data := .func { name := Str.ofString "take_flags", qualname := Str.ofString "take_flags", params := p76, body := FuncBody.stmts (b76), scope := s76, globals := 3, closure := [], defaults := .none, kwdefaults := .none, pyModule := .str (.ofString "emacs.formatspecs") 227, code := .ref 75 } }
noncomputable def o77 (P : Params) : Obj := { cls := .type "tuple", data := .seq #[] }
noncomputable def o78 (P : Params) : Obj := { cls := .none, data := .fields #[] }
noncomputable def o79 (P : Params) : Obj := { cls := .type "tuple", data := .seq #[.str (.ofString "codes") 295, .str (.ofString "at") 296, .str (.ofString "spec") 297, .str (.ofString "field") 298, .str (.ofString "behind") 299] }
noncomputable def o80 (P : Params) : Obj := { cls := .type "tuple", data := .seq #[] }
noncomputable def o81 (P : Params) : Obj := { cls := .none, data := .func { name := Str.ofString "read_spec", qualname := Str.ofString "read_spec", params := p83, body := FuncBody.stmts (b83), scope := s83, globals := 0, closure := [], defaults := .none, kwdefaults := .none } }
noncomputable def o82 (P : Params) : Obj := { cls := .type "code", data := .fields #[.str (.ofString "read_spec") 292, .str (.ofString "read_spec") 293, .str (.ofString "/claim/cut.py") 294, .int 43 0, .int 2 0, .int 0 0, .int 0 0, .int 3 0, .ref 77, .bool true, .int 181 0, .ref 78, .none, .ref 79, .ref 80, .ref 81, .int 300 0, .int 43 0, .str (.ofString "/claim/cut.py") 301] }
noncomputable def o83 (P : Params) : Obj := { cls := .type "function", data := .func { name := Str.ofString "read_spec", qualname := Str.ofString "read_spec", params := p83, body := FuncBody.stmts (b83), scope := s83, globals := 3, closure := [], defaults := .none, kwdefaults := .none, pyModule := .str (.ofString "emacs.formatspecs") 227, code := .ref 82 } }
noncomputable def o84 (P : Params) : Obj := { cls := .type "tuple", data := .seq #[] }
noncomputable def o85 (P : Params) : Obj := { cls := .none, data := .fields #[] }
noncomputable def o86 (P : Params) : Obj := { cls := .type "tuple", data := .seq #[.str (.ofString "spec") 306, .str (.ofString "codes") 307, .str (.ofString "more") 308] }
noncomputable def o87 (P : Params) : Obj := { cls := .type "tuple", data := .seq #[] }
noncomputable def o88 (P : Params) : Obj := { cls := .none, data := .func { name := Str.ofString "padded", qualname := Str.ofString "padded", params := p90, body := FuncBody.stmts (b90), scope := s90, globals := 0, closure := [], defaults := .none, kwdefaults := .none } }
noncomputable def o89 (P : Params) : Obj := { cls := .type "code", data := .fields #[.str (.ofString "padded") 303, .str (.ofString "padded") 304, .str (.ofString "/claim/cut.py") 305, .int 58 0, .int 2 0, .int 0 0, .int 0 0, .int 3 0, .ref 84, .bool true, .int 181 0, .ref 85, .none, .ref 86, .ref 87, .ref 88, .int 309 0, .int 58 0, .str (.ofString "/claim/cut.py") 310] }
noncomputable def o90 (P : Params) : Obj := { cls := .type "function", data := .func { name := Str.ofString "padded", qualname := Str.ofString "padded", params := p90, body := FuncBody.stmts (b90), scope := s90, globals := 3, closure := [], defaults := .none, kwdefaults := .none, pyModule := .str (.ofString "emacs.formatspecs") 227, code := .ref 89 } }
noncomputable def o91 (P : Params) : Obj := { cls := .type "tuple", data := .seq #[] }
noncomputable def o92 (P : Params) : Obj := { cls := .none, data := .fields #[] }
noncomputable def o93 (P : Params) : Obj := { cls := .type "tuple", data := .seq #[.str (.ofString "number") 315, .str (.ofString "letter") 316, .str (.ofString "radix") 317, .str (.ofString "chunk") 318, .str (.ofString "found") 319, .str (.ofString "part") 320, .str (.ofString "turn") 321, .str (.ofString "own") 322] }
noncomputable def o94 (P : Params) : Obj := { cls := .type "tuple", data := .seq #[] }
noncomputable def o95 (P : Params) : Obj := { cls := .none, data := .func { name := Str.ofString "figures_of", qualname := Str.ofString "figures_of", params := p97, body := FuncBody.stmts (b97), scope := s97, globals := 0, closure := [], defaults := .none, kwdefaults := .none } }
noncomputable def o96 (P : Params) : Obj := { cls := .type "code", data := .fields #[.str (.ofString "figures_of") 312, .str (.ofString "figures_of") 313, .str (.ofString "/claim/cut.py") 314, .int 61 0, .int 2 0, .int 0 0, .int 0 0, .int 3 0, .ref 91, .bool true, .int 181 0, .ref 92, .none, .ref 93, .ref 94, .ref 95, .int 323 0, .int 61 0, .str (.ofString "/claim/cut.py") 324] }
noncomputable def o97 (P : Params) : Obj := { cls := .type "function", data := .func { name := Str.ofString "figures_of", qualname := Str.ofString "figures_of", params := p97, body := FuncBody.stmts (b97), scope := s97, globals := 3, closure := [], defaults := .none, kwdefaults := .none, pyModule := .str (.ofString "emacs.formatspecs") 227, code := .ref 96 } }
noncomputable def o98 (P : Params) : Obj := { cls := .type "tuple", data := .seq #[] }
noncomputable def o99 (P : Params) : Obj := { cls := .none, data := .fields #[] }
noncomputable def o100 (P : Params) : Obj := { cls := .type "tuple", data := .seq #[.str (.ofString "spec") 330, .str (.ofString "number") 331, .str (.ofString "figures") 332, .str (.ofString "head") 333] }
noncomputable def o101 (P : Params) : Obj := { cls := .type "tuple", data := .seq #[] }
noncomputable def o102 (P : Params) : Obj := { cls := .none, data := .func { name := Str.ofString "number_codes", qualname := Str.ofString "number_codes", params := p104, body := FuncBody.stmts (b104), scope := s104, globals := 0, closure := [], defaults := .none, kwdefaults := .none } }
noncomputable def o103 (P : Params) : Obj := { cls := .type "code", data := .fields #[.str (.ofString "number_codes") 327, .str (.ofString "number_codes") 328, .str (.ofString "/claim/cut.py") 329, .int 72 0, .int 2 0, .int 0 0, .int 0 0, .int 3 0, .ref 98, .bool true, .int 181 0, .ref 99, .none, .ref 100, .ref 101, .ref 102, .int 334 0, .int 72 0, .str (.ofString "/claim/cut.py") 335] }
noncomputable def o104 (P : Params) : Obj := { cls := .type "function", data := .func { name := Str.ofString "number_codes", qualname := Str.ofString "number_codes", params := p104, body := FuncBody.stmts (b104), scope := s104, globals := 3, closure := [], defaults := .none, kwdefaults := .none, pyModule := .str (.ofString "emacs.formatspecs") 227, code := .ref 103 } }
noncomputable def o105 (P : Params) : Obj := { cls := .type "tuple", data := .seq #[] }
noncomputable def o106 (P : Params) : Obj := { cls := .none, data := .fields #[] }
noncomputable def o107 (P : Params) : Obj := { cls := .type "tuple", data := .seq #[.str (.ofString "words") 344, .str (.ofString "radix") 345, .str (.ofString "body") 346, .str (.ofString "found") 347, .str (.ofString "sign") 348, .str (.ofString "figure") 349] }
noncomputable def o108 (P : Params) : Obj := { cls := .type "tuple", data := .seq #[] }
noncomputable def o109 (P : Params) : Obj := { cls := .none, data := .func { name := Str.ofString "value_in", qualname := Str.ofString "value_in", params := fA 17 0, body := FuncBody.stmts (fB 17 0), scope := fC 17 0, globals := 0, closure := [], defaults := .none, kwdefaults := .none } }
noncomputable def o110 (P : Params) : Obj := { cls := .type "code", data := .fields #[.str (.ofString "value_in") 341, .str (.ofString "value_in") 342, .str (.ofString "/claim/cut.py") 343, .int 85 0, .int 2 0, .int 0 0, .int 0 0, .int 3 0, .ref 105, .bool true, .int 181 0, .ref 106, .none, .ref 107, .ref 108, .ref 109, .int 350 0, .int 85 0, .str (.ofString "/claim/cut.py") 351] }
noncomputable def o111 (P : Params) : Obj := { cls := .type "function", data := .func { name := Str.ofString "value_in", qualname := Str.ofString "value_in", params := fA 17 0, body := FuncBody.stmts (fB 17 0), scope := fC 17 0, globals := 3, closure := [], defaults := .none, kwdefaults := .none, pyModule := .str (.ofString "emacs.lisptokens") 337, code := .ref 110 } }
noncomputable def o112 (P : Params) : Obj := { cls := .type "tuple", data := .seq #[] }
noncomputable def o113 (P : Params) : Obj := { cls := .none, data := .fields #[] }
noncomputable def o114 (P : Params) : Obj := { cls := .type "tuple", data := .seq #[.str (.ofString "words") 356] }
noncomputable def o115 (P : Params) : Obj := { cls := .type "tuple", data := .seq #[] }
noncomputable def o116 (P : Params) : Obj := { cls := .none, data := .func { name := Str.ofString "integer_of", qualname := Str.ofString "integer_of", params := fA 18 0, body := FuncBody.stmts (fB 18 0), scope := fC 18 0, globals := 0, closure := [], defaults := .none, kwdefaults := .none } }
noncomputable def o117 (P : Params) : Obj := { cls := .type "code", data := .fields #[.str (.ofString "integer_of") 353, .str (.ofString "integer_of") 354, .str (.ofString "/claim/cut.py") 355, .int 96 0, .int 1 0, .int 0 0, .int 0 0, .int 3 0, .ref 112, .bool true, .int 181 0, .ref 113, .none, .ref 114, .ref 115, .ref 116, .int 357 0, .int 96 0, .str (.ofString "/claim/cut.py") 358] }
noncomputable def o118 (P : Params) : Obj := { cls := .type "function", data := .func { name := Str.ofString "integer_of", qualname := Str.ofString "integer_of", params := fA 18 0, body := FuncBody.stmts (fB 18 0), scope := fC 18 0, globals := 3, closure := [], defaults := .none, kwdefaults := .none, pyModule := .str (.ofString "emacs.lisptokens") 337, code := .ref 117 } }
noncomputable def o119 (P : Params) : Obj := { cls := .type "tuple", data := .seq #[] }
noncomputable def o120 (P : Params) : Obj := { cls := .none, data := .fields #[] }
noncomputable def o121 (P : Params) : Obj := { cls := .none, data := .func { name := Str.ofString "are_figures", qualname := Str.ofString "are_figures", params := fA 19 0, body := FuncBody.stmts (fB 19 0), scope := fC 19 0, globals := 0, closure := [], defaults := .none, kwdefaults := .none } }
noncomputable def o122 (P : Params) : Obj := { cls := .type "code", data := .fields #[.str (.ofString "are_figures") 360, .str (.ofString "are_figures") 361, .str (.ofString "/claim/cut.py") 362, .int 98 0, .int 1 0, .int 0 0, .int 0 0, .int 3 0, .ref 119, .bool true, .int 181 0, .ref 120, .none, .none, .none, .ref 121, .int 363 0, .int 98 0, .str (.ofString "/claim/cut.py") 364] }
noncomputable def o123 (P : Params) : Obj := { cls := .type "function", data := .func { name := Str.ofString "are_figures", qualname := Str.ofString "are_figures", params := fA 19 0, body := FuncBody.stmts (fB 19 0), scope := fC 19 0, globals := 3, closure := [], defaults := .none, kwdefaults := .none, pyModule := .str (.ofString "emacs.lisptokens") 337, code := .ref 122 } }
noncomputable def o124 (P : Params) : Obj := { cls := .type "tuple", data := .seq #[] }
noncomputable def o125 (P : Params) : Obj := { cls := .none, data := .fields #[] }
noncomputable def o126 (P : Params) : Obj := { cls := .type "tuple", data := .seq #[.str (.ofString "tail") 369] }
noncomputable def o127 (P : Params) : Obj := { cls := .type "tuple", data := .seq #[] }
noncomputable def o128 (P : Params) : Obj := { cls := .none, data := .func { name := Str.ofString "is_power", qualname := Str.ofString "is_power", params := fA 20 0, body := FuncBody.stmts (fB 20 0), scope := fC 20 0, globals := 0, closure := [], defaults := .none, kwdefaults := .none } }
noncomputable def o129 (P : Params) : Obj := { cls := .type "code", data := .fields #[.str (.ofString "is_power") 366, .str (.ofString "is_power") 367, .str (.ofString "/claim/cut.py") 368, .int 100 0, .int 1 0, .int 0 0, .int 0 0, .int 3 0, .ref 124, .bool true, .int 181 0, .ref 125, .none, .ref 126, .ref 127, .ref 128, .int 370 0, .int 100 0, .str (.ofString "/claim/cut.py") 371] }
noncomputable def o130 (P : Params) : Obj := { cls := .type "function", data := .func { name := Str.ofString "is_power", qualname := Str.ofString "is_power", params := fA 20 0, body := FuncBody.stmts (fB 20 0), scope := fC 20 0, globals := 3, closure := [], defaults := .none, kwdefaults := .none, pyModule := .str (.ofString "emacs.lisptokens") 337, code := .ref 129 } }
noncomputable def o131 (P : Params) : Obj := { cls := .type "tuple", data := .seq #[] }
noncomputable def o132 (P : Params) : Obj := { cls := .none, data := .fields #[] }
noncomputable def o133 (P : Params) : Obj := { cls := .type "tuple", data := .seq #[.str (.ofString "words") 376, .str (.ofString "body") 377, .str (.ofString "head") 378, .str (.ofString "mark") 379, .str (.ofString "tail") 380, .str (.ofString "whole") 381, .str (.ofString "point") 382, .str (.ofString "part") 383] }
noncomputable def o134 (P : Params) : Obj := { cls := .type "tuple", data := .seq #[] }
noncomputable def o135 (P : Params) : Obj := { cls := .none, data := .func { name := Str.ofString "is_float", qualname := Str.ofString "is_float", params := fA 21 0, body := FuncBody.stmts (fB 21 0), scope := fC 21 0, globals := 0, closure := [], defaults := .none, kwdefaults := .none } }
noncomputable def o136 (P : Params) : Obj := { cls := .type "code", data := .fields #[.str (.ofString "is_float") 373, .str (.ofString "is_float") 374, .str (.ofString "/claim/cut.py") 375, .int 102 0, .int 1 0, .int 0 0, .int 0 0, .int 3 0, .ref 131, .bool true, .int 181 0, .ref 132, .none, .ref 133, .ref 134, .ref 135, .int 384 0, .int 102 0, .str (.ofString "/claim/cut.py") 385] }
noncomputable def o137 (P : Params) : Obj := { cls := .type "function", data := .func { name := Str.ofString "is_float", qualname := Str.ofString "is_float", params := fA 21 0, body := FuncBody.stmts (fB 21 0), scope := fC 21 0, globals := 3, closure := [], defaults := .none, kwdefaults := .none, pyModule := .str (.ofString "emacs.lisptokens") 337, code := .ref 136 } }
noncomputable def o138 (P : Params) : Obj := { cls := .type "tuple", data := .seq #[] }
noncomputable def o139 (P : Params) : Obj := { cls := .type "builtin_function_or_method", data := .fields #[.builtin "type.__prepare__", .type "type"] }
noncomputable def o140 (P : Params) : Obj := { cls := .type "dict", data := .dict #[⟨PyData.keyHash P (.ofString "__module__"), .str (.ofString "__module__") 396, .str (.ofString "emacs.objects") 387⟩, ⟨PyData.keyHash P (.ofString "__qualname__"), .str (.ofString "__qualname__") 398, .str (.ofString "Symbol") 397⟩, ⟨PyData.keyHash P (.ofString "__firstlineno__"), .str (.ofString "__firstlineno__") 400, .int 112 399⟩, ⟨PyData.keyHash P (.ofString "__init__"), .str (.ofString "__init__") 409, .ref 151⟩, ⟨PyData.keyHash P (.ofString "__static_attributes__"), .str (.ofString "__static_attributes__") 412, .ref 152⟩] 5 }
noncomputable def o141 (P : Params) : Obj := { cls := .type "tuple", data := .seq #[] }
noncomputable def o142 (P : Params) : Obj := { cls := .none, data := .fields #[.int 114 0, .int 4 0, .ref 150] }
noncomputable def o143 (P : Params) : Obj := { cls := .type "code", data := .fields #[.str (.ofString "Symbol") 391, .str (.ofString "Symbol") 392, .str (.ofString "/claim/cut.py") 393, .int 112 0, .int 0 0, .int 0 0, .int 0 0, .int 0 0, .ref 141, .bool false, .int 181 0, .ref 142, .none, .none, .none, .none, .int 394 0, .int 112 0, .str (.ofString "/claim/cut.py") 395] }
noncomputable def o144 (P : Params) : Obj := { cls := .type "frame", slots := #[some (.ref 143), some (.ref 3), some (.ref 140), none, some (.str (.ofString "emacs.objects") 387), none, some (.ref 0)] }
noncomputable def o145 (P : Params) : Obj := { cls := .type "tuple", data := .seq #[] }
noncomputable def o146 (P : Params) : Obj := { cls := .none, data := .fields #[] }
noncomputable def o147 (P : Params) : Obj := { cls := .type "tuple", data := .seq #[.str (.ofString "self") 404, .str (.ofString "number") 405, .str (.ofString "name") 406] }
noncomputable def o148 (P : Params) : Obj := { cls := .type "tuple", data := .seq #[] }
noncomputable def o149 (P : Params) : Obj := { cls := .none, data := .func { name := Str.ofString "__init__", qualname := Str.ofString "Symbol.__init__", params := fA 23 0, body := FuncBody.stmts (fB 23 0), scope := fC 23 0, globals := 0, closure := [], defaults := .none, kwdefaults := .none } }
noncomputable def o150 (P : Params) : Obj := { cls := .type "code", data := .fields #[.str (.ofString "__init__") 401, .str (.ofString "Symbol.__init__") 402, .str (.ofString "/claim/cut.py") 403, .int 114 0, .int 3 0, .int 0 0, .int 0 0, .int 3 0, .ref 145, .bool true, .int 181 0, .ref 146, .none, .ref 147, .ref 148, .ref 149, .int 407 0, .int 114 0, .str (.ofString "/claim/cut.py") 408] }
noncomputable def o151 (P : Params) : Obj := { cls := .type "function", data := .func { name := Str.ofString "__init__", qualname := Str.ofString "Symbol.__init__", params := fA 23 0, body := FuncBody.stmts (fB 23 0), scope := fC 23 0, globals := 3, closure := [], defaults := .none, kwdefaults := .none, pyModule := .str (.ofString "emacs.objects") 387, code := .ref 150 } }
noncomputable def o152 (P : Params) : Obj := { cls := .type "tuple", data := .seq #[.str (.ofString "name") 410, .str (.ofString "number") 411] }
noncomputable def o153 (P : Params) : Obj := { cls := .type "dict", data := .dict #[⟨PyData.keyHash P (.ofString "__module__"), .str (.ofString "__module__") 396, .str (.ofString "emacs.objects") 387⟩, ⟨PyData.keyHash P (.ofString "__firstlineno__"), .str (.ofString "__firstlineno__") 400, .int 112 399⟩, ⟨PyData.keyHash P (.ofString "__init__"), .str (.ofString "__init__") 409, .ref 151⟩, ⟨PyData.keyHash P (.ofString "__static_attributes__"), .str (.ofString "__static_attributes__") 412, .ref 152⟩, ⟨PyData.keyHash P (.ofString "__dict__"), .str (.ofString "__dict__") 414, .ref 155⟩, ⟨PyData.keyHash P (.ofString "__weakref__"), .str (.ofString "__weakref__") 416, .ref 156⟩, ⟨PyData.keyHash P (.ofString "__doc__"), .str (.ofString "__doc__") 417, .none⟩] 4 }
noncomputable def o154 (P : Params) : Obj := { cls := .type "type", data := .cls { name := Str.ofString "Symbol", bases := [.type "object"], mro := [.ref 154, .type "object"], ns := 153, qualname := Str.ofString "Symbol" }, slots := #[none, none, some (.str (.ofString "Symbol") 389), some (.str (.ofString "Symbol") 397), some (.builtin "object.__new__"), some (.bool true)] }
noncomputable def o155 (P : Params) : Obj := { cls := .type "getset_descriptor", data := .fields #[.str (.ofString "__dict__") 413, .ref 154, .builtin "function.__dict__", .builtin "function.__dict__#set"] }
noncomputable def o156 (P : Params) : Obj := { cls := .type "getset_descriptor", data := .fields #[.str (.ofString "__weakref__") 415, .ref 154, .builtin "ExceptionGroup.__weakref__", .none] }
noncomputable def o157 (P : Params) : Obj := { cls := .type "super", data := .fields #[.ref 154, .ref 154, .ref 154] }
noncomputable def o158 (P : Params) : Obj := { cls := .type "builtin_function_or_method", data := .fields #[.builtin "object.__init_subclass__", .ref 154] }
noncomputable def o159 (P : Params) : Obj := { cls := .type "dict", data := .dict #[⟨PyData.keyHash P (.ofString "number"), .str (.ofString "number") 426, .int 0 420⟩, ⟨PyData.keyHash P (.ofString "name"), .str (.ofString "name") 428, .str (.ofString "nil") 421⟩] 2 }
noncomputable def o160 (P : Params) : Obj := { cls := .ref 154, dict := some 159 }
noncomputable def o161 (P : Params) : Obj := { cls := .type "frame", data := .dict #[⟨PyData.keyHash P (.ofString "self"), .str (.ofString "self") 422, .ref 160⟩, ⟨PyData.keyHash P (.ofString "number"), .str (.ofString "number") 423, .int 0 420⟩, ⟨PyData.keyHash P (.ofString "name"), .str (.ofString "name") 424, .str (.ofString "nil") 421⟩] 3 }
noncomputable def o162 (P : Params) : Obj := { cls := .type "tuple", data := .seq #[] }
noncomputable def o163 (P : Params) : Obj := { cls := .type "builtin_function_or_method", data := .fields #[.builtin "type.__prepare__", .type "type"] }
noncomputable def o164 (P : Params) : Obj := { cls := .type "dict", data := .dict #[⟨PyData.keyHash P (.ofString "__module__"), .str (.ofString "__module__") 437, .str (.ofString "emacs.objects") 387⟩, ⟨PyData.keyHash P (.ofString "__qualname__"), .str (.ofString "__qualname__") 439, .str (.ofString "Cons") 438⟩, ⟨PyData.keyHash P (.ofString "__firstlineno__"), .str (.ofString "__firstlineno__") 441, .int 118 440⟩, ⟨PyData.keyHash P (.ofString "__init__"), .str (.ofString "__init__") 450, .ref 175⟩, ⟨PyData.keyHash P (.ofString "__static_attributes__"), .str (.ofString "__static_attributes__") 453, .ref 176⟩] 5 }
noncomputable def o165 (P : Params) : Obj := { cls := .type "tuple", data := .seq #[] }
noncomputable def o166 (P : Params) : Obj := { cls := .none, data := .fields #[.int 120 0, .int 4 0, .ref 174] }
noncomputable def o167 (P : Params) : Obj := { cls := .type "code", data := .fields #[.str (.ofString "Cons") 432, .str (.ofString "Cons") 433, .str (.ofString "/claim/cut.py") 434, .int 118 0, .int 0 0, .int 0 0, .int 0 0, .int 0 0, .ref 165, .bool false, .int 181 0, .ref 166, .none, .none, .none, .none, .int 435 0, .int 118 0, .str (.ofString "/claim/cut.py") 436] }
noncomputable def o168 (P : Params) : Obj := { cls := .type "frame", slots := #[some (.ref 167), some (.ref 3), some (.ref 164), none, some (.str (.ofString "emacs.objects") 387), none, some (.ref 0)] }
noncomputable def o169 (P : Params) : Obj := { cls := .type "tuple", data := .seq #[] }
noncomputable def o170 (P : Params) : Obj := { cls := .none, data := .fields #[] }
noncomputable def o171 (P : Params) : Obj := { cls := .type "tuple", data := .seq #[.str (.ofString "self") 445, .str (.ofString "car") 446, .str (.ofString "cdr") 447] }
noncomputable def o172 (P : Params) : Obj := { cls := .type "tuple", data := .seq #[] }
noncomputable def o173 (P : Params) : Obj := { cls := .none, data := .func { name := Str.ofString "__init__", qualname := Str.ofString "Cons.__init__", params := fA 25 0, body := FuncBody.stmts (fB 25 0), scope := fC 25 0, globals := 0, closure := [], defaults := .none, kwdefaults := .none } }
noncomputable def o174 (P : Params) : Obj := { cls := .type "code", data := .fields #[.str (.ofString "__init__") 442, .str (.ofString "Cons.__init__") 443, .str (.ofString "/claim/cut.py") 444, .int 120 0, .int 3 0, .int 0 0, .int 0 0, .int 3 0, .ref 169, .bool true, .int 181 0, .ref 170, .none, .ref 171, .ref 172, .ref 173, .int 448 0, .int 120 0, .str (.ofString "/claim/cut.py") 449] }
noncomputable def o175 (P : Params) : Obj := { cls := .type "function", data := .func { name := Str.ofString "__init__", qualname := Str.ofString "Cons.__init__", params := fA 25 0, body := FuncBody.stmts (fB 25 0), scope := fC 25 0, globals := 3, closure := [], defaults := .none, kwdefaults := .none, pyModule := .str (.ofString "emacs.objects") 387, code := .ref 174 } }
noncomputable def o176 (P : Params) : Obj := { cls := .type "tuple", data := .seq #[.str (.ofString "car") 451, .str (.ofString "cdr") 452] }
noncomputable def o177 (P : Params) : Obj := { cls := .type "dict", data := .dict #[⟨PyData.keyHash P (.ofString "__module__"), .str (.ofString "__module__") 437, .str (.ofString "emacs.objects") 387⟩, ⟨PyData.keyHash P (.ofString "__firstlineno__"), .str (.ofString "__firstlineno__") 441, .int 118 440⟩, ⟨PyData.keyHash P (.ofString "__init__"), .str (.ofString "__init__") 450, .ref 175⟩, ⟨PyData.keyHash P (.ofString "__static_attributes__"), .str (.ofString "__static_attributes__") 453, .ref 176⟩, ⟨PyData.keyHash P (.ofString "__dict__"), .str (.ofString "__dict__") 455, .ref 179⟩, ⟨PyData.keyHash P (.ofString "__weakref__"), .str (.ofString "__weakref__") 457, .ref 180⟩, ⟨PyData.keyHash P (.ofString "__doc__"), .str (.ofString "__doc__") 458, .none⟩] 4 }
noncomputable def o178 (P : Params) : Obj := { cls := .type "type", data := .cls { name := Str.ofString "Cons", bases := [.type "object"], mro := [.ref 178, .type "object"], ns := 177, qualname := Str.ofString "Cons" }, slots := #[none, none, some (.str (.ofString "Cons") 430), some (.str (.ofString "Cons") 438), some (.builtin "object.__new__"), some (.bool true)] }
noncomputable def o179 (P : Params) : Obj := { cls := .type "getset_descriptor", data := .fields #[.str (.ofString "__dict__") 454, .ref 178, .builtin "function.__dict__", .builtin "function.__dict__#set"] }
noncomputable def o180 (P : Params) : Obj := { cls := .type "getset_descriptor", data := .fields #[.str (.ofString "__weakref__") 456, .ref 178, .builtin "ExceptionGroup.__weakref__", .none] }
noncomputable def o181 (P : Params) : Obj := { cls := .type "super", data := .fields #[.ref 178, .ref 178, .ref 178] }
noncomputable def o182 (P : Params) : Obj := { cls := .type "builtin_function_or_method", data := .fields #[.builtin "object.__init_subclass__", .ref 178] }
noncomputable def o183 (P : Params) : Obj := { cls := .type "tuple", data := .seq #[] }
noncomputable def o184 (P : Params) : Obj := { cls := .type "builtin_function_or_method", data := .fields #[.builtin "type.__prepare__", .type "type"] }
noncomputable def o185 (P : Params) : Obj := { cls := .type "dict", data := .dict #[⟨PyData.keyHash P (.ofString "__module__"), .str (.ofString "__module__") 468, .str (.ofString "emacs.objects") 387⟩, ⟨PyData.keyHash P (.ofString "__qualname__"), .str (.ofString "__qualname__") 470, .str (.ofString "Text") 469⟩, ⟨PyData.keyHash P (.ofString "__firstlineno__"), .str (.ofString "__firstlineno__") 472, .int 123 471⟩, ⟨PyData.keyHash P (.ofString "__init__"), .str (.ofString "__init__") 481, .ref 197⟩, ⟨PyData.keyHash P (.ofString "__static_attributes__"), .str (.ofString "__static_attributes__") 484, .ref 198⟩] 5 }
noncomputable def o186 (P : Params) : Obj := { cls := .type "tuple", data := .seq #[] }
noncomputable def o187 (P : Params) : Obj := { cls := .none, data := .fields #[.int 125 0, .int 4 0, .ref 196] }
noncomputable def o188 (P : Params) : Obj := { cls := .type "code", data := .fields #[.str (.ofString "Text") 463, .str (.ofString "Text") 464, .str (.ofString "/claim/cut.py") 465, .int 123 0, .int 0 0, .int 0 0, .int 0 0, .int 0 0, .ref 186, .bool false, .int 181 0, .ref 187, .none, .none, .none, .none, .int 466 0, .int 123 0, .str (.ofString "/claim/cut.py") 467] }
noncomputable def o189 (P : Params) : Obj := { cls := .type "frame", slots := #[some (.ref 188), some (.ref 3), some (.ref 185), none, some (.str (.ofString "emacs.objects") 387), none, some (.ref 0)] }
noncomputable def o190 (P : Params) : Obj := { cls := .type "tuple", data := .seq #[.none] }
noncomputable def o191 (P : Params) : Obj := { cls := .type "tuple", data := .seq #[] }
noncomputable def o192 (P : Params) : Obj := { cls := .none, data := .fields #[] }
noncomputable def o193 (P : Params) : Obj := { cls := .type "tuple", data := .seq #[.str (.ofString "self") 476, .str (.ofString "codes") 477, .str (.ofString "spans") 478] }
noncomputable def o194 (P : Params) : Obj := { cls := .type "tuple", data := .seq #[] }
noncomputable def o195 (P : Params) : Obj := { cls := .none, data := .func { name := Str.ofString "__init__", qualname := Str.ofString "Text.__init__", params := p197, body := FuncBody.stmts (b197), scope := s197, globals := 0, closure := [], defaults := .none, kwdefaults := .none } }
noncomputable def o196 (P : Params) : Obj := { cls := .type "code", data := .fields #[.str (.ofString "__init__") 473, .str (.ofString "Text.__init__") 474, .str (.ofString "/claim/cut.py") 475, .int 125 0, .int 3 0, .int 0 0, .int 0 0, .int 3 0, .ref 191, .bool true, .int 181 0, .ref 192, .none, .ref 193, .ref 194, .ref 195, .int 479 0, .int 125 0, .str (.ofString "/claim/cut.py") 480] }
noncomputable def o197 (P : Params) : Obj := { cls := .type "function", data := .func { name := Str.ofString "__init__", qualname := Str.ofString "Text.__init__", params := p197, body := FuncBody.stmts (b197), scope := s197, globals := 3, closure := [], defaults := .ref 190, kwdefaults := .none, pyModule := .str (.ofString "emacs.objects") 387, code := .ref 196 } }
noncomputable def o198 (P : Params) : Obj := { cls := .type "tuple", data := .seq #[.str (.ofString "codes") 482, .str (.ofString "spans") 483] }
noncomputable def o199 (P : Params) : Obj := { cls := .type "dict", data := .dict #[⟨PyData.keyHash P (.ofString "__module__"), .str (.ofString "__module__") 468, .str (.ofString "emacs.objects") 387⟩, ⟨PyData.keyHash P (.ofString "__firstlineno__"), .str (.ofString "__firstlineno__") 472, .int 123 471⟩, ⟨PyData.keyHash P (.ofString "__init__"), .str (.ofString "__init__") 481, .ref 197⟩, ⟨PyData.keyHash P (.ofString "__static_attributes__"), .str (.ofString "__static_attributes__") 484, .ref 198⟩, ⟨PyData.keyHash P (.ofString "__dict__"), .str (.ofString "__dict__") 486, .ref 201⟩, ⟨PyData.keyHash P (.ofString "__weakref__"), .str (.ofString "__weakref__") 488, .ref 202⟩, ⟨PyData.keyHash P (.ofString "__doc__"), .str (.ofString "__doc__") 489, .none⟩] 4 }
noncomputable def o200 (P : Params) : Obj := { cls := .type "type", data := .cls { name := Str.ofString "Text", bases := [.type "object"], mro := [.ref 200, .type "object"], ns := 199, qualname := Str.ofString "Text" }, slots := #[none, none, some (.str (.ofString "Text") 461), some (.str (.ofString "Text") 469), some (.builtin "object.__new__"), some (.bool true)] }
noncomputable def o201 (P : Params) : Obj := { cls := .type "getset_descriptor", data := .fields #[.str (.ofString "__dict__") 485, .ref 200, .builtin "function.__dict__", .builtin "function.__dict__#set"] }
noncomputable def o202 (P : Params) : Obj := { cls := .type "getset_descriptor", data := .fields #[.str (.ofString "__weakref__") 487, .ref 200, .builtin "ExceptionGroup.__weakref__", .none] }
noncomputable def o203 (P : Params) : Obj := { cls := .type "super", data := .fields #[.ref 200, .ref 200, .ref 200] }
noncomputable def o204 (P : Params) : Obj := { cls := .type "builtin_function_or_method", data := .fields #[.builtin "object.__init_subclass__", .ref 200] }
noncomputable def o205 (P : Params) : Obj := { cls := .type "tuple", data := .seq #[] }
noncomputable def o206 (P : Params) : Obj := { cls := .type "builtin_function_or_method", data := .fields #[.builtin "type.__prepare__", .type "type"] }
noncomputable def o207 (P : Params) : Obj := { cls := .type "dict", data := .dict #[⟨PyData.keyHash P (.ofString "__module__"), .str (.ofString "__module__") 499, .str (.ofString "emacs.objects") 387⟩, ⟨PyData.keyHash P (.ofString "__qualname__"), .str (.ofString "__qualname__") 501, .str (.ofString "Vector") 500⟩, ⟨PyData.keyHash P (.ofString "__firstlineno__"), .str (.ofString "__firstlineno__") 503, .int 128 502⟩, ⟨PyData.keyHash P (.ofString "__init__"), .str (.ofString "__init__") 511, .ref 218⟩, ⟨PyData.keyHash P (.ofString "__static_attributes__"), .str (.ofString "__static_attributes__") 513, .ref 219⟩] 5 }
noncomputable def o208 (P : Params) : Obj := { cls := .type "tuple", data := .seq #[] }
noncomputable def o209 (P : Params) : Obj := { cls := .none, data := .fields #[.int 130 0, .int 4 0, .ref 217] }
noncomputable def o210 (P : Params) : Obj := { cls := .type "code", data := .fields #[.str (.ofString "Vector") 494, .str (.ofString "Vector") 495, .str (.ofString "/claim/cut.py") 496, .int 128 0, .int 0 0, .int 0 0, .int 0 0, .int 0 0, .ref 208, .bool false, .int 181 0, .ref 209, .none, .none, .none, .none, .int 497 0, .int 128 0, .str (.ofString "/claim/cut.py") 498] }
noncomputable def o211 (P : Params) : Obj := { cls := .type "frame", slots := #[some (.ref 210), some (.ref 3), some (.ref 207), none, some (.str (.ofString "emacs.objects") 387), none, some (.ref 0)] }
noncomputable def o212 (P : Params) : Obj := { cls := .type "tuple", data := .seq #[] }
noncomputable def o213 (P : Params) : Obj := { cls := .none, data := .fields #[] }
noncomputable def o214 (P : Params) : Obj := { cls := .type "tuple", data := .seq #[.str (.ofString "self") 507, .str (.ofString "things") 508] }
noncomputable def o215 (P : Params) : Obj := { cls := .type "tuple", data := .seq #[] }
noncomputable def o216 (P : Params) : Obj := { cls := .none, data := .func { name := Str.ofString "__init__", qualname := Str.ofString "Vector.__init__", params := fA 27 0, body := FuncBody.stmts (fB 27 0), scope := fC 27 0, globals := 0, closure := [], defaults := .none, kwdefaults := .none } }
noncomputable def o217 (P : Params) : Obj := { cls := .type "code", data := .fields #[.str (.ofString "__init__") 504, .str (.ofString "Vector.__init__") 505, .str (.ofString "/claim/cut.py") 506, .int 130 0, .int 2 0, .int 0 0, .int 0 0, .int 3 0, .ref 212, .bool true, .int 181 0, .ref 213, .none, .ref 214, .ref 215, .ref 216, .int 509 0, .int 130 0, .str (.ofString "/claim/cut.py") 510] }
noncomputable def o218 (P : Params) : Obj := { cls := .type "function", data := .func { name := Str.ofString "__init__", qualname := Str.ofString "Vector.__init__", params := fA 27 0, body := FuncBody.stmts (fB 27 0), scope := fC 27 0, globals := 3, closure := [], defaults := .none, kwdefaults := .none, pyModule := .str (.ofString "emacs.objects") 387, code := .ref 217 } }
noncomputable def o219 (P : Params) : Obj := { cls := .type "tuple", data := .seq #[.str (.ofString "things") 512] }
noncomputable def o220 (P : Params) : Obj := { cls := .type "dict", data := .dict #[⟨PyData.keyHash P (.ofString "__module__"), .str (.ofString "__module__") 499, .str (.ofString "emacs.objects") 387⟩, ⟨PyData.keyHash P (.ofString "__firstlineno__"), .str (.ofString "__firstlineno__") 503, .int 128 502⟩, ⟨PyData.keyHash P (.ofString "__init__"), .str (.ofString "__init__") 511, .ref 218⟩, ⟨PyData.keyHash P (.ofString "__static_attributes__"), .str (.ofString "__static_attributes__") 513, .ref 219⟩, ⟨PyData.keyHash P (.ofString "__dict__"), .str (.ofString "__dict__") 515, .ref 222⟩, ⟨PyData.keyHash P (.ofString "__weakref__"), .str (.ofString "__weakref__") 517, .ref 223⟩, ⟨PyData.keyHash P (.ofString "__doc__"), .str (.ofString "__doc__") 518, .none⟩] 4 }
noncomputable def o221 (P : Params) : Obj := { cls := .type "type", data := .cls { name := Str.ofString "Vector", bases := [.type "object"], mro := [.ref 221, .type "object"], ns := 220, qualname := Str.ofString "Vector" }, slots := #[none, none, some (.str (.ofString "Vector") 492), some (.str (.ofString "Vector") 500), some (.builtin "object.__new__"), some (.bool true)] }
noncomputable def o222 (P : Params) : Obj := { cls := .type "getset_descriptor", data := .fields #[.str (.ofString "__dict__") 514, .ref 221, .builtin "function.__dict__", .builtin "function.__dict__#set"] }
noncomputable def o223 (P : Params) : Obj := { cls := .type "getset_descriptor", data := .fields #[.str (.ofString "__weakref__") 516, .ref 221, .builtin "ExceptionGroup.__weakref__", .none] }
noncomputable def o224 (P : Params) : Obj := { cls := .type "super", data := .fields #[.ref 221, .ref 221, .ref 221] }
noncomputable def o225 (P : Params) : Obj := { cls := .type "builtin_function_or_method", data := .fields #[.builtin "object.__init_subclass__", .ref 221] }
noncomputable def o226 (P : Params) : Obj := { cls := .type "tuple", data := .seq #[] }
noncomputable def o227 (P : Params) : Obj := { cls := .type "builtin_function_or_method", data := .fields #[.builtin "type.__prepare__", .type "type"] }
noncomputable def o228 (P : Params) : Obj := { cls := .type "dict", data := .dict #[⟨PyData.keyHash P (.ofString "__module__"), .str (.ofString "__module__") 528, .str (.ofString "emacs.objects") 387⟩, ⟨PyData.keyHash P (.ofString "__qualname__"), .str (.ofString "__qualname__") 530, .str (.ofString "Subr") 529⟩, ⟨PyData.keyHash P (.ofString "__firstlineno__"), .str (.ofString "__firstlineno__") 532, .int 132 531⟩, ⟨PyData.keyHash P (.ofString "__init__"), .str (.ofString "__init__") 544, .ref 239⟩, ⟨PyData.keyHash P (.ofString "__static_attributes__"), .str (.ofString "__static_attributes__") 550, .ref 240⟩] 5 }
noncomputable def o229 (P : Params) : Obj := { cls := .type "tuple", data := .seq #[] }
noncomputable def o230 (P : Params) : Obj := { cls := .none, data := .fields #[.int 134 0, .int 4 0, .ref 238] }
noncomputable def o231 (P : Params) : Obj := { cls := .type "code", data := .fields #[.str (.ofString "Subr") 523, .str (.ofString "Subr") 524, .str (.ofString "/claim/cut.py") 525, .int 132 0, .int 0 0, .int 0 0, .int 0 0, .int 0 0, .ref 229, .bool false, .int 181 0, .ref 230, .none, .none, .none, .none, .int 526 0, .int 132 0, .str (.ofString "/claim/cut.py") 527] }
noncomputable def o232 (P : Params) : Obj := { cls := .type "frame", slots := #[some (.ref 231), some (.ref 3), some (.ref 228), none, some (.str (.ofString "emacs.objects") 387), none, some (.ref 0)] }
noncomputable def o233 (P : Params) : Obj := { cls := .type "tuple", data := .seq #[] }
noncomputable def o234 (P : Params) : Obj := { cls := .none, data := .fields #[] }
noncomputable def o235 (P : Params) : Obj := { cls := .type "tuple", data := .seq #[.str (.ofString "self") 536, .str (.ofString "number") 537, .str (.ofString "name") 538, .str (.ofString "least") 539, .str (.ofString "most") 540, .str (.ofString "deed") 541] }
noncomputable def o236 (P : Params) : Obj := { cls := .type "tuple", data := .seq #[] }
noncomputable def o237 (P : Params) : Obj := { cls := .none, data := .func { name := Str.ofString "__init__", qualname := Str.ofString "Subr.__init__", params := fA 28 0, body := FuncBody.stmts (fB 28 0), scope := fC 28 0, globals := 0, closure := [], defaults := .none, kwdefaults := .none } }
noncomputable def o238 (P : Params) : Obj := { cls := .type "code", data := .fields #[.str (.ofString "__init__") 533, .str (.ofString "Subr.__init__") 534, .str (.ofString "/claim/cut.py") 535, .int 134 0, .int 6 0, .int 0 0, .int 0 0, .int 3 0, .ref 233, .bool true, .int 181 0, .ref 234, .none, .ref 235, .ref 236, .ref 237, .int 542 0, .int 134 0, .str (.ofString "/claim/cut.py") 543] }
noncomputable def o239 (P : Params) : Obj := { cls := .type "function", data := .func { name := Str.ofString "__init__", qualname := Str.ofString "Subr.__init__", params := fA 28 0, body := FuncBody.stmts (fB 28 0), scope := fC 28 0, globals := 3, closure := [], defaults := .none, kwdefaults := .none, pyModule := .str (.ofString "emacs.objects") 387, code := .ref 238 } }
noncomputable def o240 (P : Params) : Obj := { cls := .type "tuple", data := .seq #[.str (.ofString "deed") 545, .str (.ofString "least") 546, .str (.ofString "most") 547, .str (.ofString "name") 548, .str (.ofString "number") 549] }
noncomputable def o241 (P : Params) : Obj := { cls := .type "dict", data := .dict #[⟨PyData.keyHash P (.ofString "__module__"), .str (.ofString "__module__") 528, .str (.ofString "emacs.objects") 387⟩, ⟨PyData.keyHash P (.ofString "__firstlineno__"), .str (.ofString "__firstlineno__") 532, .int 132 531⟩, ⟨PyData.keyHash P (.ofString "__init__"), .str (.ofString "__init__") 544, .ref 239⟩, ⟨PyData.keyHash P (.ofString "__static_attributes__"), .str (.ofString "__static_attributes__") 550, .ref 240⟩, ⟨PyData.keyHash P (.ofString "__dict__"), .str (.ofString "__dict__") 552, .ref 243⟩, ⟨PyData.keyHash P (.ofString "__weakref__"), .str (.ofString "__weakref__") 554, .ref 244⟩, ⟨PyData.keyHash P (.ofString "__doc__"), .str (.ofString "__doc__") 555, .none⟩] 4 }
noncomputable def o242 (P : Params) : Obj := { cls := .type "type", data := .cls { name := Str.ofString "Subr", bases := [.type "object"], mro := [.ref 242, .type "object"], ns := 241, qualname := Str.ofString "Subr" }, slots := #[none, none, some (.str (.ofString "Subr") 521), some (.str (.ofString "Subr") 529), some (.builtin "object.__new__"), some (.bool true)] }
noncomputable def o243 (P : Params) : Obj := { cls := .type "getset_descriptor", data := .fields #[.str (.ofString "__dict__") 551, .ref 242, .builtin "function.__dict__", .builtin "function.__dict__#set"] }
noncomputable def o244 (P : Params) : Obj := { cls := .type "getset_descriptor", data := .fields #[.str (.ofString "__weakref__") 553, .ref 242, .builtin "ExceptionGroup.__weakref__", .none] }
noncomputable def o245 (P : Params) : Obj := { cls := .type "super", data := .fields #[.ref 242, .ref 242, .ref 242] }
noncomputable def o246 (P : Params) : Obj := { cls := .type "builtin_function_or_method", data := .fields #[.builtin "object.__init_subclass__", .ref 242] }
noncomputable def o247 (P : Params) : Obj := { cls := .type "tuple", data := .seq #[] }
noncomputable def o248 (P : Params) : Obj := { cls := .type "builtin_function_or_method", data := .fields #[.builtin "type.__prepare__", .type "type"] }
noncomputable def o249 (P : Params) : Obj := { cls := .type "dict", data := .dict #[⟨PyData.keyHash P (.ofString "__module__"), .str (.ofString "__module__") 565, .str (.ofString "emacs.objects") 387⟩, ⟨PyData.keyHash P (.ofString "__qualname__"), .str (.ofString "__qualname__") 567, .str (.ofString "ByteCode") 566⟩, ⟨PyData.keyHash P (.ofString "__firstlineno__"), .str (.ofString "__firstlineno__") 569, .int 140 568⟩, ⟨PyData.keyHash P (.ofString "__init__"), .str (.ofString "__init__") 577, .ref 260⟩, ⟨PyData.keyHash P (.ofString "__static_attributes__"), .str (.ofString "__static_attributes__") 579, .ref 261⟩] 5 }
noncomputable def o250 (P : Params) : Obj := { cls := .type "tuple", data := .seq #[] }
noncomputable def o251 (P : Params) : Obj := { cls := .none, data := .fields #[.int 142 0, .int 4 0, .ref 259] }
noncomputable def o252 (P : Params) : Obj := { cls := .type "code", data := .fields #[.str (.ofString "ByteCode") 560, .str (.ofString "ByteCode") 561, .str (.ofString "/claim/cut.py") 562, .int 140 0, .int 0 0, .int 0 0, .int 0 0, .int 0 0, .ref 250, .bool false, .int 181 0, .ref 251, .none, .none, .none, .none, .int 563 0, .int 140 0, .str (.ofString "/claim/cut.py") 564] }
noncomputable def o253 (P : Params) : Obj := { cls := .type "frame", slots := #[some (.ref 252), some (.ref 3), some (.ref 249), none, some (.str (.ofString "emacs.objects") 387), none, some (.ref 0)] }
noncomputable def o254 (P : Params) : Obj := { cls := .type "tuple", data := .seq #[] }
noncomputable def o255 (P : Params) : Obj := { cls := .none, data := .fields #[] }
noncomputable def o256 (P : Params) : Obj := { cls := .type "tuple", data := .seq #[.str (.ofString "self") 573, .str (.ofString "things") 574] }
noncomputable def o257 (P : Params) : Obj := { cls := .type "tuple", data := .seq #[] }
noncomputable def o258 (P : Params) : Obj := { cls := .none, data := .func { name := Str.ofString "__init__", qualname := Str.ofString "ByteCode.__init__", params := fA 29 0, body := FuncBody.stmts (fB 29 0), scope := fC 29 0, globals := 0, closure := [], defaults := .none, kwdefaults := .none } }
noncomputable def o259 (P : Params) : Obj := { cls := .type "code", data := .fields #[.str (.ofString "__init__") 570, .str (.ofString "ByteCode.__init__") 571, .str (.ofString "/claim/cut.py") 572, .int 142 0, .int 2 0, .int 0 0, .int 0 0, .int 3 0, .ref 254, .bool true, .int 181 0, .ref 255, .none, .ref 256, .ref 257, .ref 258, .int 575 0, .int 142 0, .str (.ofString "/claim/cut.py") 576] }
noncomputable def o260 (P : Params) : Obj := { cls := .type "function", data := .func { name := Str.ofString "__init__", qualname := Str.ofString "ByteCode.__init__", params := fA 29 0, body := FuncBody.stmts (fB 29 0), scope := fC 29 0, globals := 3, closure := [], defaults := .none, kwdefaults := .none, pyModule := .str (.ofString "emacs.objects") 387, code := .ref 259 } }
noncomputable def o261 (P : Params) : Obj := { cls := .type "tuple", data := .seq #[.str (.ofString "things") 578] }
noncomputable def o262 (P : Params) : Obj := { cls := .type "dict", data := .dict #[⟨PyData.keyHash P (.ofString "__module__"), .str (.ofString "__module__") 565, .str (.ofString "emacs.objects") 387⟩, ⟨PyData.keyHash P (.ofString "__firstlineno__"), .str (.ofString "__firstlineno__") 569, .int 140 568⟩, ⟨PyData.keyHash P (.ofString "__init__"), .str (.ofString "__init__") 577, .ref 260⟩, ⟨PyData.keyHash P (.ofString "__static_attributes__"), .str (.ofString "__static_attributes__") 579, .ref 261⟩, ⟨PyData.keyHash P (.ofString "__dict__"), .str (.ofString "__dict__") 581, .ref 264⟩, ⟨PyData.keyHash P (.ofString "__weakref__"), .str (.ofString "__weakref__") 583, .ref 265⟩, ⟨PyData.keyHash P (.ofString "__doc__"), .str (.ofString "__doc__") 584, .none⟩] 4 }
noncomputable def o263 (P : Params) : Obj := { cls := .type "type", data := .cls { name := Str.ofString "ByteCode", bases := [.type "object"], mro := [.ref 263, .type "object"], ns := 262, qualname := Str.ofString "ByteCode" }, slots := #[none, none, some (.str (.ofString "ByteCode") 558), some (.str (.ofString "ByteCode") 566), some (.builtin "object.__new__"), some (.bool true)] }
noncomputable def o264 (P : Params) : Obj := { cls := .type "getset_descriptor", data := .fields #[.str (.ofString "__dict__") 580, .ref 263, .builtin "function.__dict__", .builtin "function.__dict__#set"] }
noncomputable def o265 (P : Params) : Obj := { cls := .type "getset_descriptor", data := .fields #[.str (.ofString "__weakref__") 582, .ref 263, .builtin "ExceptionGroup.__weakref__", .none] }
noncomputable def o266 (P : Params) : Obj := { cls := .type "super", data := .fields #[.ref 263, .ref 263, .ref 263] }
noncomputable def o267 (P : Params) : Obj := { cls := .type "builtin_function_or_method", data := .fields #[.builtin "object.__init_subclass__", .ref 263] }
noncomputable def o268 (P : Params) : Obj := { cls := .type "tuple", data := .seq #[] }
noncomputable def o269 (P : Params) : Obj := { cls := .type "builtin_function_or_method", data := .fields #[.builtin "type.__prepare__", .type "type"] }
noncomputable def o270 (P : Params) : Obj := { cls := .type "dict", data := .dict #[⟨PyData.keyHash P (.ofString "__module__"), .str (.ofString "__module__") 594, .str (.ofString "emacs.objects") 387⟩, ⟨PyData.keyHash P (.ofString "__qualname__"), .str (.ofString "__qualname__") 596, .str (.ofString "Opaque") 595⟩, ⟨PyData.keyHash P (.ofString "__firstlineno__"), .str (.ofString "__firstlineno__") 598, .int 144 597⟩, ⟨PyData.keyHash P (.ofString "shown"), .str (.ofString "shown") 605, .ref 281⟩, ⟨PyData.keyHash P (.ofString "kind"), .str (.ofString "kind") 612, .ref 288⟩, ⟨PyData.keyHash P (.ofString "same_as"), .str (.ofString "same_as") 620, .ref 295⟩, ⟨PyData.keyHash P (.ofString "__static_attributes__"), .str (.ofString "__static_attributes__") 621, .ref 296⟩] 7 }
noncomputable def o271 (P : Params) : Obj := { cls := .type "tuple", data := .seq #[] }
noncomputable def o272 (P : Params) : Obj := { cls := .none, data := .fields #[.int 146 0, .int 4 0, .ref 280, .int 149 0, .int 4 0, .ref 287, .int 152 0, .int 4 0, .ref 294] }
noncomputable def o273 (P : Params) : Obj := { cls := .type "code", data := .fields #[.str (.ofString "Opaque") 589, .str (.ofString "Opaque") 590, .str (.ofString "/claim/cut.py") 591, .int 144 0, .int 0 0, .int 0 0, .int 0 0, .int 0 0, .ref 271, .bool false, .int 181 0, .ref 272, .none, .none, .none, .none, .int 592 0, .int 144 0, .str (.ofString "/claim/cut.py") 593] }
noncomputable def o274 (P : Params) : Obj := { cls := .type "frame", slots := #[some (.ref 273), some (.ref 3), some (.ref 270), none, some (.str (.ofString "emacs.objects") 387), none, some (.ref 0)] }
noncomputable def o275 (P : Params) : Obj := { cls := .type "tuple", data := .seq #[] }
noncomputable def o276 (P : Params) : Obj := { cls := .none, data := .fields #[] }
noncomputable def o277 (P : Params) : Obj := { cls := .type "tuple", data := .seq #[.str (.ofString "self") 602] }
noncomputable def o278 (P : Params) : Obj := { cls := .type "tuple", data := .seq #[] }
noncomputable def o279 (P : Params) : Obj := { cls := .none, data := .func { name := Str.ofString "shown", qualname := Str.ofString "Opaque.shown", params := fA 30 0, body := FuncBody.stmts (fB 30 0), scope := fC 30 0, globals := 0, closure := [], defaults := .none, kwdefaults := .none } }
noncomputable def o280 (P : Params) : Obj := { cls := .type "code", data := .fields #[.str (.ofString "shown") 599, .str (.ofString "Opaque.shown") 600, .str (.ofString "/claim/cut.py") 601, .int 146 0, .int 1 0, .int 0 0, .int 0 0, .int 3 0, .ref 275, .bool true, .int 181 0, .ref 276, .none, .ref 277, .ref 278, .ref 279, .int 603 0, .int 146 0, .str (.ofString "/claim/cut.py") 604] }
noncomputable def o281 (P : Params) : Obj := { cls := .type "function", data := .func { name := Str.ofString "shown", qualname := Str.ofString "Opaque.shown", params := fA 30 0, body := FuncBody.stmts (fB 30 0), scope := fC 30 0, globals := 3, closure := [], defaults := .none, kwdefaults := .none, pyModule := .str (.ofString "emacs.objects") 387, code := .ref 280 } }
noncomputable def o282 (P : Params) : Obj := { cls := .type "tuple", data := .seq #[] }
noncomputable def o283 (P : Params) : Obj := { cls := .none, data := .fields #[] }
noncomputable def o284 (P : Params) : Obj := { cls := .type "tuple", data := .seq #[.str (.ofString "self") 609] }
noncomputable def o285 (P : Params) : Obj := { cls := .type "tuple", data := .seq #[] }
noncomputable def o286 (P : Params) : Obj := { cls := .none, data := .func { name := Str.ofString "kind", qualname := Str.ofString "Opaque.kind", params := fA 30 1, body := FuncBody.stmts (fB 30 1), scope := fC 30 1, globals := 0, closure := [], defaults := .none, kwdefaults := .none } }
noncomputable def o287 (P : Params) : Obj := { cls := .type "code", data := .fields #[.str (.ofString "kind") 606, .str (.ofString "Opaque.kind") 607, .str (.ofString "/claim/cut.py") 608, .int 149 0, .int 1 0, .int 0 0, .int 0 0, .int 3 0, .ref 282, .bool true, .int 181 0, .ref 283, .none, .ref 284, .ref 285, .ref 286, .int 610 0, .int 149 0, .str (.ofString "/claim/cut.py") 611] }
noncomputable def o288 (P : Params) : Obj := { cls := .type "function", data := .func { name := Str.ofString "kind", qualname := Str.ofString "Opaque.kind", params := fA 30 1, body := FuncBody.stmts (fB 30 1), scope := fC 30 1, globals := 3, closure := [], defaults := .none, kwdefaults := .none, pyModule := .str (.ofString "emacs.objects") 387, code := .ref 287 } }
noncomputable def o289 (P : Params) : Obj := { cls := .type "tuple", data := .seq #[] }
noncomputable def o290 (P : Params) : Obj := { cls := .none, data := .fields #[] }
noncomputable def o291 (P : Params) : Obj := { cls := .type "tuple", data := .seq #[.str (.ofString "self") 616, .str (.ofString "other") 617] }
noncomputable def o292 (P : Params) : Obj := { cls := .type "tuple", data := .seq #[] }
noncomputable def o293 (P : Params) : Obj := { cls := .none, data := .func { name := Str.ofString "same_as", qualname := Str.ofString "Opaque.same_as", params := fA 30 2, body := FuncBody.stmts (fB 30 2), scope := fC 30 2, globals := 0, closure := [], defaults := .none, kwdefaults := .none } }
noncomputable def o294 (P : Params) : Obj := { cls := .type "code", data := .fields #[.str (.ofString "same_as") 613, .str (.ofString "Opaque.same_as") 614, .str (.ofString "/claim/cut.py") 615, .int 152 0, .int 2 0, .int 0 0, .int 0 0, .int 3 0, .ref 289, .bool true, .int 181 0, .ref 290, .none, .ref 291, .ref 292, .ref 293, .int 618 0, .int 152 0, .str (.ofString "/claim/cut.py") 619] }
noncomputable def o295 (P : Params) : Obj := { cls := .type "function", data := .func { name := Str.ofString "same_as", qualname := Str.ofString "Opaque.same_as", params := fA 30 2, body := FuncBody.stmts (fB 30 2), scope := fC 30 2, globals := 3, closure := [], defaults := .none, kwdefaults := .none, pyModule := .str (.ofString "emacs.objects") 387, code := .ref 294 } }
noncomputable def o296 (P : Params) : Obj := { cls := .type "tuple", data := .seq #[] }
noncomputable def o297 (P : Params) : Obj := { cls := .type "dict", data := .dict #[⟨PyData.keyHash P (.ofString "__module__"), .str (.ofString "__module__") 594, .str (.ofString "emacs.objects") 387⟩, ⟨PyData.keyHash P (.ofString "__firstlineno__"), .str (.ofString "__firstlineno__") 598, .int 144 597⟩, ⟨PyData.keyHash P (.ofString "shown"), .str (.ofString "shown") 605, .ref 281⟩, ⟨PyData.keyHash P (.ofString "kind"), .str (.ofString "kind") 612, .ref 288⟩, ⟨PyData.keyHash P (.ofString "same_as"), .str (.ofString "same_as") 620, .ref 295⟩, ⟨PyData.keyHash P (.ofString "__static_attributes__"), .str (.ofString "__static_attributes__") 621, .ref 296⟩, ⟨PyData.keyHash P (.ofString "__dict__"), .str (.ofString "__dict__") 623, .ref 299⟩, ⟨PyData.keyHash P (.ofString "__weakref__"), .str (.ofString "__weakref__") 625, .ref 300⟩, ⟨PyData.keyHash P (.ofString "__doc__"), .str (.ofString "__doc__") 626, .none⟩] 4 }
noncomputable def o298 (P : Params) : Obj := { cls := .type "type", data := .cls { name := Str.ofString "Opaque", bases := [.type "object"], mro := [.ref 298, .type "object"], ns := 297, qualname := Str.ofString "Opaque" }, slots := #[none, none, some (.str (.ofString "Opaque") 587), some (.str (.ofString "Opaque") 595), some (.builtin "object.__new__"), some (.bool true)] }
noncomputable def o299 (P : Params) : Obj := { cls := .type "getset_descriptor", data := .fields #[.str (.ofString "__dict__") 622, .ref 298, .builtin "function.__dict__", .builtin "function.__dict__#set"] }
noncomputable def o300 (P : Params) : Obj := { cls := .type "getset_descriptor", data := .fields #[.str (.ofString "__weakref__") 624, .ref 298, .builtin "ExceptionGroup.__weakref__", .none] }
noncomputable def o301 (P : Params) : Obj := { cls := .type "super", data := .fields #[.ref 298, .ref 298, .ref 298] }
noncomputable def o302 (P : Params) : Obj := { cls := .type "builtin_function_or_method", data := .fields #[.builtin "object.__init_subclass__", .ref 298] }
noncomputable def o303 (P : Params) : Obj := { cls := .type "tuple", data := .seq #[] }
noncomputable def o304 (P : Params) : Obj := { cls := .none, data := .fields #[] }
noncomputable def o305 (P : Params) : Obj := { cls := .type "tuple", data := .seq #[.str (.ofString "datum") 632] }
noncomputable def o306 (P : Params) : Obj := { cls := .type "tuple", data := .seq #[] }
noncomputable def o307 (P : Params) : Obj := { cls := .none, data := .func { name := Str.ofString "is_whole", qualname := Str.ofString "is_whole", params := p309, body := FuncBody.stmts (b309), scope := s309, globals := 0, closure := [], defaults := .none, kwdefaults := .none } }
noncomputable def o308 (P : Params) : Obj := { cls := .type "code", data := .fields #[.str (.ofString "is_whole") 629, .str (.ofString "is_whole") 630, .str (.ofString "/claim/cut.py") 631, .int 154 0, .int 1 0, .int 0 0, .int 0 0, .int 3 0, .ref 303, .bool true, .int 181 0, .ref 304, .none, .ref 305, .ref 306, .ref 307, .int 633 0, .int 154 0, .str (.ofString "/claim/cut.py") 634] }
noncomputable def o309 (P : Params) : Obj := { cls := .type "function", data := .func { name := Str.ofString "is_whole", qualname := Str.ofString "is_whole", params := p309, body := FuncBody.stmts (b309), scope := s309, globals := 3, closure := [], defaults := .none, kwdefaults := .none, pyModule := .str (.ofString "emacs.objects") 387, code := .ref 308 } }
noncomputable def o310 (P : Params) : Obj := { cls := .type "tuple", data := .seq #[] }
noncomputable def o311 (P : Params) : Obj := { cls := .none, data := .fields #[] }
noncomputable def o312 (P : Params) : Obj := { cls := .type "tuple", data := .seq #[.str (.ofString "datum") 641] }
noncomputable def o313 (P : Params) : Obj := { cls := .type "tuple", data := .seq #[] }
noncomputable def o314 (P : Params) : Obj := { cls := .none, data := .func { name := Str.ofString "is_shared", qualname := Str.ofString "is_shared", params := p316, body := FuncBody.stmts (b316), scope := s316, globals := 0, closure := [], defaults := .none, kwdefaults := .none } }
noncomputable def o315 (P : Params) : Obj := { cls := .type "code", data := .fields #[.str (.ofString "is_shared") 638, .str (.ofString "is_shared") 639, .str (.ofString "/claim/cut.py") 640, .int 157 0, .int 1 0, .int 0 0, .int 0 0, .int 3 0, .ref 310, .bool true, .int 181 0, .ref 311, .none, .ref 312, .ref 313, .ref 314, .int 642 0, .int 157 0, .str (.ofString "/claim/cut.py") 643] }
noncomputable def o316 (P : Params) : Obj := { cls := .type "function", data := .func { name := Str.ofString "is_shared", qualname := Str.ofString "is_shared", params := p316, body := FuncBody.stmts (b316), scope := s316, globals := 3, closure := [], defaults := .none, kwdefaults := .none, pyModule := .str (.ofString "emacs.printlabels") 636, code := .ref 315 } }
noncomputable def o317 (P : Params) : Obj := { cls := .type "tuple", data := .seq #[] }
noncomputable def o318 (P : Params) : Obj := { cls := .none, data := .fields #[] }
noncomputable def o319 (P : Params) : Obj := { cls := .type "tuple", data := .seq #[.str (.ofString "datum") 648] }
noncomputable def o320 (P : Params) : Obj := { cls := .type "tuple", data := .seq #[] }
noncomputable def o321 (P : Params) : Obj := { cls := .none, data := .func { name := Str.ofString "parts_of", qualname := Str.ofString "parts_of", params := fA 34 0, body := FuncBody.stmts (fB 34 0), scope := fC 34 0, globals := 0, closure := [], defaults := .none, kwdefaults := .none } }
noncomputable def o322 (P : Params) : Obj := { cls := .type "code", data := .fields #[.str (.ofString "parts_of") 645, .str (.ofString "parts_of") 646, .str (.ofString "/claim/cut.py") 647, .int 159 0, .int 1 0, .int 0 0, .int 0 0, .int 3 0, .ref 317, .bool true, .int 181 0, .ref 318, .none, .ref 319, .ref 320, .ref 321, .int 649 0, .int 159 0, .str (.ofString "/claim/cut.py") 650] }
noncomputable def o323 (P : Params) : Obj := { cls := .type "function", data := .func { name := Str.ofString "parts_of", qualname := Str.ofString "parts_of", params := fA 34 0, body := FuncBody.stmts (fB 34 0), scope := fC 34 0, globals := 3, closure := [], defaults := .none, kwdefaults := .none, pyModule := .str (.ofString "emacs.printlabels") 636, code := .ref 322 } }
noncomputable def o324 (P : Params) : Obj := { cls := .type "tuple", data := .seq #[] }
noncomputable def o325 (P : Params) : Obj := { cls := .none, data := .fields #[] }
noncomputable def o326 (P : Params) : Obj := { cls := .type "tuple", data := .seq #[.str (.ofString "datum") 655, .str (.ofString "things") 656, .str (.ofString "place") 657] }
noncomputable def o327 (P : Params) : Obj := { cls := .type "tuple", data := .seq #[] }
noncomputable def o328 (P : Params) : Obj := { cls := .none, data := .func { name := Str.ofString "stands_in", qualname := Str.ofString "stands_in", params := fA 35 0, body := FuncBody.stmts (fB 35 0), scope := fC 35 0, globals := 0, closure := [], defaults := .none, kwdefaults := .none } }
noncomputable def o329 (P : Params) : Obj := { cls := .type "code", data := .fields #[.str (.ofString "stands_in") 652, .str (.ofString "stands_in") 653, .str (.ofString "/claim/cut.py") 654, .int 163 0, .int 2 0, .int 0 0, .int 0 0, .int 3 0, .ref 324, .bool true, .int 181 0, .ref 325, .none, .ref 326, .ref 327, .ref 328, .int 658 0, .int 163 0, .str (.ofString "/claim/cut.py") 659] }
noncomputable def o330 (P : Params) : Obj := { cls := .type "function", data := .func { name := Str.ofString "stands_in", qualname := Str.ofString "stands_in", params := fA 35 0, body := FuncBody.stmts (fB 35 0), scope := fC 35 0, globals := 3, closure := [], defaults := .none, kwdefaults := .none, pyModule := .str (.ofString "emacs.printlabels") 636, code := .ref 329 } }
noncomputable def o331 (P : Params) : Obj := { cls := .type "tuple", data := .seq #[] }
noncomputable def o332 (P : Params) : Obj := { cls := .type "builtin_function_or_method", data := .fields #[.builtin "type.__prepare__", .type "type"] }
noncomputable def o333 (P : Params) : Obj := { cls := .type "dict", data := .dict #[⟨PyData.keyHash P (.ofString "__module__"), .str (.ofString "__module__") 668, .str (.ofString "emacs.printlabels") 636⟩, ⟨PyData.keyHash P (.ofString "__qualname__"), .str (.ofString "__qualname__") 670, .str (.ofString "Labels") 669⟩, ⟨PyData.keyHash P (.ofString "__firstlineno__"), .str (.ofString "__firstlineno__") 672, .int 168 671⟩, ⟨PyData.keyHash P (.ofString "__init__"), .str (.ofString "__init__") 683, .ref 344⟩, ⟨PyData.keyHash P (.ofString "has"), .str (.ofString "has") 691, .ref 351⟩, ⟨PyData.keyHash P (.ofString "met"), .str (.ofString "met") 700, .ref 358⟩, ⟨PyData.keyHash P (.ofString "__static_attributes__"), .str (.ofString "__static_attributes__") 704, .ref 359⟩] 7 }
noncomputable def o334 (P : Params) : Obj := { cls := .type "tuple", data := .seq #[] }
noncomputable def o335 (P : Params) : Obj := { cls := .none, data := .fields #[.int 170 0, .int 4 0, .ref 343, .int 187 0, .int 4 0, .ref 350, .int 190 0, .int 4 0, .ref 357] }
noncomputable def o336 (P : Params) : Obj := { cls := .type "code", data := .fields #[.str (.ofString "Labels") 663, .str (.ofString "Labels") 664, .str (.ofString "/claim/cut.py") 665, .int 168 0, .int 0 0, .int 0 0, .int 0 0, .int 0 0, .ref 334, .bool false, .int 181 0, .ref 335, .none, .none, .none, .none, .int 666 0, .int 168 0, .str (.ofString "/claim/cut.py") 667] }
noncomputable def o337 (P : Params) : Obj := { cls := .type "frame", slots := #[some (.ref 336), some (.ref 3), some (.ref 333), none, some (.str (.ofString "emacs.printlabels") 636), none, some (.ref 0)] }
noncomputable def o338 (P : Params) : Obj := { cls := .type "tuple", data := .seq #[] }
noncomputable def o339 (P : Params) : Obj := { cls := .none, data := .fields #[] }
noncomputable def o340 (P : Params) : Obj := { cls := .type "tuple", data := .seq #[.str (.ofString "self") 676, .str (.ofString "datum") 677, .str (.ofString "seen") 678, .str (.ofString "waiting") 679, .str (.ofString "at") 680] }
noncomputable def o341 (P : Params) : Obj := { cls := .type "tuple", data := .seq #[] }
noncomputable def o342 (P : Params) : Obj := { cls := .none, data := .func { name := Str.ofString "__init__", qualname := Str.ofString "Labels.__init__", params := p344, body := FuncBody.stmts (b344), scope := s344, globals := 0, closure := [], defaults := .none, kwdefaults := .none } }
noncomputable def o343 (P : Params) : Obj := { cls := .type "code", data := .fields #[.str (.ofString "__init__") 673, .str (.ofString "Labels.__init__") 674, .str (.ofString "/claim/cut.py") 675, .int 170 0, .int 2 0, .int 0 0, .int 0 0, .int 3 0, .ref 338, .bool true, .int 181 0, .ref 339, .none, .ref 340, .ref 341, .ref 342, .int 681 0, .int 170 0, .str (.ofString "/claim/cut.py") 682] }
noncomputable def o344 (P : Params) : Obj := { cls := .type "function", data := .func { name := Str.ofString "__init__", qualname := Str.ofString "Labels.__init__", params := p344, body := FuncBody.stmts (b344), scope := s344, globals := 3, closure := [], defaults := .none, kwdefaults := .none, pyModule := .str (.ofString "emacs.printlabels") 636, code := .ref 343 } }
noncomputable def o345 (P : Params) : Obj := { cls := .type "tuple", data := .seq #[] }
noncomputable def o346 (P : Params) : Obj := { cls := .none, data := .fields #[] }
noncomputable def o347 (P : Params) : Obj := { cls := .type "tuple", data := .seq #[.str (.ofString "self") 687, .str (.ofString "datum") 688] }
noncomputable def o348 (P : Params) : Obj := { cls := .type "tuple", data := .seq #[] }
noncomputable def o349 (P : Params) : Obj := { cls := .none, data := .func { name := Str.ofString "has", qualname := Str.ofString "Labels.has", params := fA 36 1, body := FuncBody.stmts (fB 36 1), scope := fC 36 1, globals := 0, closure := [], defaults := .none, kwdefaults := .none } }
noncomputable def o350 (P : Params) : Obj := { cls := .type "code", data := .fields #[.str (.ofString "has") 684, .str (.ofString "Labels.has") 685, .str (.ofString "/claim/cut.py") 686, .int 187 0, .int 2 0, .int 0 0, .int 0 0, .int 3 0, .ref 345, .bool true, .int 181 0, .ref 346, .none, .ref 347, .ref 348, .ref 349, .int 689 0, .int 187 0, .str (.ofString "/claim/cut.py") 690] }
noncomputable def o351 (P : Params) : Obj := { cls := .type "function", data := .func { name := Str.ofString "has", qualname := Str.ofString "Labels.has", params := fA 36 1, body := FuncBody.stmts (fB 36 1), scope := fC 36 1, globals := 3, closure := [], defaults := .none, kwdefaults := .none, pyModule := .str (.ofString "emacs.printlabels") 636, code := .ref 350 } }
noncomputable def o352 (P : Params) : Obj := { cls := .type "tuple", data := .seq #[] }
noncomputable def o353 (P : Params) : Obj := { cls := .none, data := .fields #[] }
noncomputable def o354 (P : Params) : Obj := { cls := .type "tuple", data := .seq #[.str (.ofString "self") 695, .str (.ofString "datum") 696, .str (.ofString "place") 697] }
noncomputable def o355 (P : Params) : Obj := { cls := .type "tuple", data := .seq #[] }
noncomputable def o356 (P : Params) : Obj := { cls := .none, data := .func { name := Str.ofString "met", qualname := Str.ofString "Labels.met", params := fA 36 2, body := FuncBody.stmts (fB 36 2), scope := fC 36 2, globals := 0, closure := [], defaults := .none, kwdefaults := .none } }
noncomputable def o357 (P : Params) : Obj := { cls := .type "code", data := .fields #[.str (.ofString "met") 692, .str (.ofString "Labels.met") 693, .str (.ofString "/claim/cut.py") 694, .int 190 0, .int 2 0, .int 0 0, .int 0 0, .int 3 0, .ref 352, .bool true, .int 181 0, .ref 353, .none, .ref 354, .ref 355, .ref 356, .int 698 0, .int 190 0, .str (.ofString "/claim/cut.py") 699] }
noncomputable def o358 (P : Params) : Obj := { cls := .type "function", data := .func { name := Str.ofString "met", qualname := Str.ofString "Labels.met", params := fA 36 2, body := FuncBody.stmts (fB 36 2), scope := fC 36 2, globals := 3, closure := [], defaults := .none, kwdefaults := .none, pyModule := .str (.ofString "emacs.printlabels") 636, code := .ref 357 } }
noncomputable def o359 (P : Params) : Obj := { cls := .type "tuple", data := .seq #[.str (.ofString "last") 701, .str (.ofString "numbers") 702, .str (.ofString "shared") 703] }
noncomputable def o360 (P : Params) : Obj := { cls := .type "dict", data := .dict #[⟨PyData.keyHash P (.ofString "__module__"), .str (.ofString "__module__") 668, .str (.ofString "emacs.printlabels") 636⟩, ⟨PyData.keyHash P (.ofString "__firstlineno__"), .str (.ofString "__firstlineno__") 672, .int 168 671⟩, ⟨PyData.keyHash P (.ofString "__init__"), .str (.ofString "__init__") 683, .ref 344⟩, ⟨PyData.keyHash P (.ofString "has"), .str (.ofString "has") 691, .ref 351⟩, ⟨PyData.keyHash P (.ofString "met"), .str (.ofString "met") 700, .ref 358⟩, ⟨PyData.keyHash P (.ofString "__static_attributes__"), .str (.ofString "__static_attributes__") 704, .ref 359⟩, ⟨PyData.keyHash P (.ofString "__dict__"), .str (.ofString "__dict__") 706, .ref 362⟩, ⟨PyData.keyHash P (.ofString "__weakref__"), .str (.ofString "__weakref__") 708, .ref 363⟩, ⟨PyData.keyHash P (.ofString "__doc__"), .str (.ofString "__doc__") 709, .none⟩] 4 }
noncomputable def o361 (P : Params) : Obj := { cls := .type "type", data := .cls { name := Str.ofString "Labels", bases := [.type "object"], mro := [.ref 361, .type "object"], ns := 360, qualname := Str.ofString "Labels" }, slots := #[none, none, some (.str (.ofString "Labels") 661), some (.str (.ofString "Labels") 669), some (.builtin "object.__new__"), some (.bool true)] }
noncomputable def o362 (P : Params) : Obj := { cls := .type "getset_descriptor", data := .fields #[.str (.ofString "__dict__") 705, .ref 361, .builtin "function.__dict__", .builtin "function.__dict__#set"] }
noncomputable def o363 (P : Params) : Obj := { cls := .type "getset_descriptor", data := .fields #[.str (.ofString "__weakref__") 707, .ref 361, .builtin "ExceptionGroup.__weakref__", .none] }
noncomputable def o364 (P : Params) : Obj := { cls := .type "super", data := .fields #[.ref 361, .ref 361, .ref 361] }
noncomputable def o365 (P : Params) : Obj := { cls := .type "builtin_function_or_method", data := .fields #[.builtin "object.__init_subclass__", .ref 361] }
noncomputable def o366 (P : Params) : Obj := { cls := .type "dict", data := .dict #[⟨PyData.keyHash P (.ofString "quote"), .str (.ofString "quote") 724, .str (.ofString "'") 725⟩, ⟨PyData.keyHash P (.ofString "function"), .str (.ofString "function") 726, .str (.ofString "#'") 727⟩, ⟨PyData.keyHash P (.ofString "`"), .str (.ofString "`") 728, .str (.ofString "`") 729⟩, ⟨PyData.keyHash P (.ofString ","), .str (.ofString ",") 730, .str (.ofString ",") 731⟩, ⟨PyData.keyHash P (.ofString ",@"), .str (.ofString ",@") 732, .str (.ofString ",@") 733⟩] 5 }
noncomputable def o367 (P : Params) : Obj := { cls := .type "tuple", data := .seq #[.int 34 740, .int 92 741, .int 39 742, .int 59 743, .int 35 744, .int 40 745, .int 41 746, .int 44 747, .int 96 748, .int 91 749, .int 93 750] }
noncomputable def o368 (P : Params) : Obj := { cls := .type "tuple", data := .seq #[] }
noncomputable def o369 (P : Params) : Obj := { cls := .type "builtin_function_or_method", data := .fields #[.builtin "type.__prepare__", .type "type"] }
noncomputable def o370 (P : Params) : Obj := { cls := .type "dict", data := .dict #[⟨PyData.keyHash P (.ofString "__module__"), .str (.ofString "__module__") 759, .str (.ofString "emacs.lispprinter") 712⟩, ⟨PyData.keyHash P (.ofString "__qualname__"), .str (.ofString "__qualname__") 761, .str (.ofString "PrintOptions") 760⟩, ⟨PyData.keyHash P (.ofString "__firstlineno__"), .str (.ofString "__firstlineno__") 763, .int 207 762⟩, ⟨PyData.keyHash P (.ofString "__init__"), .str (.ofString "__init__") 771, .ref 381⟩, ⟨PyData.keyHash P (.ofString "__static_attributes__"), .str (.ofString "__static_attributes__") 780, .ref 382⟩] 5 }
noncomputable def o371 (P : Params) : Obj := { cls := .type "tuple", data := .seq #[] }
noncomputable def o372 (P : Params) : Obj := { cls := .none, data := .fields #[.int 209 0, .int 4 0, .ref 380] }
noncomputable def o373 (P : Params) : Obj := { cls := .type "code", data := .fields #[.str (.ofString "PrintOptions") 754, .str (.ofString "PrintOptions") 755, .str (.ofString "/claim/cut.py") 756, .int 207 0, .int 0 0, .int 0 0, .int 0 0, .int 0 0, .ref 371, .bool false, .int 181 0, .ref 372, .none, .none, .none, .none, .int 757 0, .int 207 0, .str (.ofString "/claim/cut.py") 758] }
noncomputable def o374 (P : Params) : Obj := { cls := .type "frame", slots := #[some (.ref 373), some (.ref 3), some (.ref 370), none, some (.str (.ofString "emacs.lispprinter") 712), none, some (.ref 0)] }
noncomputable def o375 (P : Params) : Obj := { cls := .type "tuple", data := .seq #[] }
noncomputable def o376 (P : Params) : Obj := { cls := .none, data := .fields #[] }
noncomputable def o377 (P : Params) : Obj := { cls := .type "tuple", data := .seq #[.str (.ofString "self") 767, .str (.ofString "is_quoting") 768] }
noncomputable def o378 (P : Params) : Obj := { cls := .type "tuple", data := .seq #[] }
noncomputable def o379 (P : Params) : Obj := { cls := .none, data := .func { name := Str.ofString "__init__", qualname := Str.ofString "PrintOptions.__init__", params := p381, body := FuncBody.stmts (b381), scope := s381, globals := 0, closure := [], defaults := .none, kwdefaults := .none } }
noncomputable def o380 (P : Params) : Obj := { cls := .type "code", data := .fields #[.str (.ofString "__init__") 764, .str (.ofString "PrintOptions.__init__") 765, .str (.ofString "/claim/cut.py") 766, .int 209 0, .int 2 0, .int 0 0, .int 0 0, .int 3 0, .ref 375, .bool true, .int 181 0, .ref 376, .none, .ref 377, .ref 378, .ref 379, .int 769 0, .int 209 0, .str (.ofString "/claim/cut.py") 770] }
noncomputable def o381 (P : Params) : Obj := { cls := .type "function", data := .func { name := Str.ofString "__init__", qualname := Str.ofString "PrintOptions.__init__", params := p381, body := FuncBody.stmts (b381), scope := s381, globals := 3, closure := [], defaults := .none, kwdefaults := .none, pyModule := .str (.ofString "emacs.lispprinter") 712, code := .ref 380 } }
noncomputable def o382 (P : Params) : Obj := { cls := .type "tuple", data := .seq #[.str (.ofString "circle") 772, .str (.ofString "escape_newlines") 773, .str (.ofString "gensym") 774, .str (.ofString "is_quoting") 775, .str (.ofString "length") 776, .str (.ofString "level") 777, .str (.ofString "quoted") 778, .str (.ofString "spans_rows") 779] }
noncomputable def o383 (P : Params) : Obj := { cls := .type "dict", data := .dict #[⟨PyData.keyHash P (.ofString "__module__"), .str (.ofString "__module__") 759, .str (.ofString "emacs.lispprinter") 712⟩, ⟨PyData.keyHash P (.ofString "__firstlineno__"), .str (.ofString "__firstlineno__") 763, .int 207 762⟩, ⟨PyData.keyHash P (.ofString "__init__"), .str (.ofString "__init__") 771, .ref 381⟩, ⟨PyData.keyHash P (.ofString "__static_attributes__"), .str (.ofString "__static_attributes__") 780, .ref 382⟩, ⟨PyData.keyHash P (.ofString "__dict__"), .str (.ofString "__dict__") 782, .ref 385⟩, ⟨PyData.keyHash P (.ofString "__weakref__"), .str (.ofString "__weakref__") 784, .ref 386⟩, ⟨PyData.keyHash P (.ofString "__doc__"), .str (.ofString "__doc__") 785, .none⟩] 4 }
noncomputable def o384 (P : Params) : Obj := { cls := .type "type", data := .cls { name := Str.ofString "PrintOptions", bases := [.type "object"], mro := [.ref 384, .type "object"], ns := 383, qualname := Str.ofString "PrintOptions" }, slots := #[none, none, some (.str (.ofString "PrintOptions") 752), some (.str (.ofString "PrintOptions") 760), some (.builtin "object.__new__"), some (.bool true)] }
noncomputable def o385 (P : Params) : Obj := { cls := .type "getset_descriptor", data := .fields #[.str (.ofString "__dict__") 781, .ref 384, .builtin "function.__dict__", .builtin "function.__dict__#set"] }
noncomputable def o386 (P : Params) : Obj := { cls := .type "getset_descriptor", data := .fields #[.str (.ofString "__weakref__") 783, .ref 384, .builtin "ExceptionGroup.__weakref__", .none] }
noncomputable def o387 (P : Params) : Obj := { cls := .type "super", data := .fields #[.ref 384, .ref 384, .ref 384] }
noncomputable def o388 (P : Params) : Obj := { cls := .type "builtin_function_or_method", data := .fields #[.builtin "object.__init_subclass__", .ref 384] }
noncomputable def o389 (P : Params) : Obj := { cls := .type "tuple", data := .seq #[] }
noncomputable def o390 (P : Params) : Obj := { cls := .none, data := .fields #[] }
noncomputable def o391 (P : Params) : Obj := { cls := .none, data := .func { name := Str.ofString "codes_of", qualname := Str.ofString "codes_of", params := fA 46 0, body := FuncBody.stmts (fB 46 0), scope := fC 46 0, globals := 0, closure := [], defaults := .none, kwdefaults := .none } }
noncomputable def o392 (P : Params) : Obj := { cls := .type "code", data := .fields #[.str (.ofString "codes_of") 788, .str (.ofString "codes_of") 789, .str (.ofString "/claim/cut.py") 790, .int 218 0, .int 1 0, .int 0 0, .int 0 0, .int 3 0, .ref 389, .bool true, .int 181 0, .ref 390, .none, .none, .none, .ref 391, .int 791 0, .int 218 0, .str (.ofString "/claim/cut.py") 792] }
noncomputable def o393 (P : Params) : Obj := { cls := .type "function", data := .func { name := Str.ofString "codes_of", qualname := Str.ofString "codes_of", params := fA 46 0, body := FuncBody.stmts (fB 46 0), scope := fC 46 0, globals := 3, closure := [], defaults := .none, kwdefaults := .none, pyModule := .str (.ofString "emacs.lispprinter") 712, code := .ref 392 } }
noncomputable def o394 (P : Params) : Obj := { cls := .type "tuple", data := .seq #[] }
noncomputable def o395 (P : Params) : Obj := { cls := .none, data := .fields #[] }
noncomputable def o396 (P : Params) : Obj := { cls := .type "tuple", data := .seq #[.str (.ofString "number") 797, .str (.ofString "limb") 798, .str (.ofString "found") 799, .str (.ofString "rest") 800, .str (.ofString "low") 801] }
noncomputable def o397 (P : Params) : Obj := { cls := .type "tuple", data := .seq #[] }
noncomputable def o398 (P : Params) : Obj := { cls := .none, data := .func { name := Str.ofString "figures_of", qualname := Str.ofString "figures_of", params := fA 47 0, body := FuncBody.stmts (fB 47 0), scope := fC 47 0, globals := 0, closure := [], defaults := .none, kwdefaults := .none } }
noncomputable def o399 (P : Params) : Obj := { cls := .type "code", data := .fields #[.str (.ofString "figures_of") 794, .str (.ofString "figures_of") 795, .str (.ofString "/claim/cut.py") 796, .int 220 0, .int 1 0, .int 0 0, .int 0 0, .int 3 0, .ref 394, .bool true, .int 181 0, .ref 395, .none, .ref 396, .ref 397, .ref 398, .int 802 0, .int 220 0, .str (.ofString "/claim/cut.py") 803] }
noncomputable def o400 (P : Params) : Obj := { cls := .type "function", data := .func { name := Str.ofString "figures_of", qualname := Str.ofString "figures_of", params := fA 47 0, body := FuncBody.stmts (fB 47 0), scope := fC 47 0, globals := 3, closure := [], defaults := .none, kwdefaults := .none, pyModule := .str (.ofString "emacs.lispprinter") 712, code := .ref 399 } }
noncomputable def o401 (P : Params) : Obj := { cls := .type "tuple", data := .seq #[] }
noncomputable def o402 (P : Params) : Obj := { cls := .none, data := .fields #[] }
noncomputable def o403 (P : Params) : Obj := { cls := .type "tuple", data := .seq #[.str (.ofString "name") 809] }
noncomputable def o404 (P : Params) : Obj := { cls := .type "tuple", data := .seq #[] }
noncomputable def o405 (P : Params) : Obj := { cls := .none, data := .func { name := Str.ofString "is_confusing", qualname := Str.ofString "is_confusing", params := fA 49 0, body := FuncBody.stmts (fB 49 0), scope := fC 49 0, globals := 0, closure := [], defaults := .none, kwdefaults := .none } }
noncomputable def o406 (P : Params) : Obj := { cls := .type "code", data := .fields #[.str (.ofString "is_confusing") 806, .str (.ofString "is_confusing") 807, .str (.ofString "/claim/cut.py") 808, .int 231 0, .int 1 0, .int 0 0, .int 0 0, .int 3 0, .ref 401, .bool true, .int 181 0, .ref 402, .none, .ref 403, .ref 404, .ref 405, .int 810 0, .int 231 0, .str (.ofString "/claim/cut.py") 811] }
noncomputable def o407 (P : Params) : Obj := { cls := .type "function", data := .func { name := Str.ofString "is_confusing", qualname := Str.ofString "is_confusing", params := fA 49 0, body := FuncBody.stmts (fB 49 0), scope := fC 49 0, globals := 3, closure := [], defaults := .none, kwdefaults := .none, pyModule := .str (.ofString "emacs.lispprinter") 712, code := .ref 406 } }
noncomputable def o408 (P : Params) : Obj := { cls := .type "tuple", data := .seq #[] }
noncomputable def o409 (P : Params) : Obj := { cls := .none, data := .fields #[] }
noncomputable def o410 (P : Params) : Obj := { cls := .type "tuple", data := .seq #[.str (.ofString "symbol") 816, .str (.ofString "obarray") 817, .str (.ofString "options") 818, .str (.ofString "name") 819, .str (.ofString "is_marked") 820, .str (.ofString "found") 821, .str (.ofString "is_turned") 822, .str (.ofString "place") 823, .str (.ofString "code") 824, .str (.ofString "is_first") 825] }
noncomputable def o411 (P : Params) : Obj := { cls := .type "tuple", data := .seq #[] }
noncomputable def o412 (P : Params) : Obj := { cls := .none, data := .func { name := Str.ofString "symbol_codes", qualname := Str.ofString "symbol_codes", params := fA 50 0, body := FuncBody.stmts (fB 50 0), scope := fC 50 0, globals := 0, closure := [], defaults := .none, kwdefaults := .none } }
noncomputable def o413 (P : Params) : Obj := { cls := .type "code", data := .fields #[.str (.ofString "symbol_codes") 813, .str (.ofString "symbol_codes") 814, .str (.ofString "/claim/cut.py") 815, .int 233 0, .int 3 0, .int 0 0, .int 0 0, .int 3 0, .ref 408, .bool true, .int 181 0, .ref 409, .none, .ref 410, .ref 411, .ref 412, .int 826 0, .int 233 0, .str (.ofString "/claim/cut.py") 827] }
noncomputable def o414 (P : Params) : Obj := { cls := .type "function", data := .func { name := Str.ofString "symbol_codes", qualname := Str.ofString "symbol_codes", params := fA 50 0, body := FuncBody.stmts (fB 50 0), scope := fC 50 0, globals := 3, closure := [], defaults := .none, kwdefaults := .none, pyModule := .str (.ofString "emacs.lispprinter") 712, code := .ref 413 } }
noncomputable def o415 (P : Params) : Obj := { cls := .type "tuple", data := .seq #[] }
noncomputable def o416 (P : Params) : Obj := { cls := .none, data := .fields #[] }
noncomputable def o417 (P : Params) : Obj := { cls := .type "tuple", data := .seq #[.str (.ofString "codes") 832, .str (.ofString "options") 833, .str (.ofString "found") 834, .str (.ofString "code") 835] }
noncomputable def o418 (P : Params) : Obj := { cls := .type "tuple", data := .seq #[] }
noncomputable def o419 (P : Params) : Obj := { cls := .none, data := .func { name := Str.ofString "string_codes", qualname := Str.ofString "string_codes", params := fA 51 0, body := FuncBody.stmts (fB 51 0), scope := fC 51 0, globals := 0, closure := [], defaults := .none, kwdefaults := .none } }
noncomputable def o420 (P : Params) : Obj := { cls := .type "code", data := .fields #[.str (.ofString "string_codes") 829, .str (.ofString "string_codes") 830, .str (.ofString "/claim/cut.py") 831, .int 249 0, .int 2 0, .int 0 0, .int 0 0, .int 3 0, .ref 415, .bool true, .int 181 0, .ref 416, .none, .ref 417, .ref 418, .ref 419, .int 836 0, .int 249 0, .str (.ofString "/claim/cut.py") 837] }
noncomputable def o421 (P : Params) : Obj := { cls := .type "function", data := .func { name := Str.ofString "string_codes", qualname := Str.ofString "string_codes", params := fA 51 0, body := FuncBody.stmts (fB 51 0), scope := fC 51 0, globals := 3, closure := [], defaults := .none, kwdefaults := .none, pyModule := .str (.ofString "emacs.lispprinter") 712, code := .ref 420 } }
noncomputable def o422 (P : Params) : Obj := { cls := .type "tuple", data := .seq #[] }
noncomputable def o423 (P : Params) : Obj := { cls := .none, data := .fields #[] }
noncomputable def o424 (P : Params) : Obj := { cls := .type "tuple", data := .seq #[.str (.ofString "datum") 842] }
noncomputable def o425 (P : Params) : Obj := { cls := .type "tuple", data := .seq #[] }
noncomputable def o426 (P : Params) : Obj := { cls := .none, data := .func { name := Str.ofString "short_quote", qualname := Str.ofString "short_quote", params := fA 52 0, body := FuncBody.stmts (fB 52 0), scope := fC 52 0, globals := 0, closure := [], defaults := .none, kwdefaults := .none } }
noncomputable def o427 (P : Params) : Obj := { cls := .type "code", data := .fields #[.str (.ofString "short_quote") 839, .str (.ofString "short_quote") 840, .str (.ofString "/claim/cut.py") 841, .int 259 0, .int 1 0, .int 0 0, .int 0 0, .int 3 0, .ref 422, .bool true, .int 181 0, .ref 423, .none, .ref 424, .ref 425, .ref 426, .int 843 0, .int 259 0, .str (.ofString "/claim/cut.py") 844] }
noncomputable def o428 (P : Params) : Obj := { cls := .type "function", data := .func { name := Str.ofString "short_quote", qualname := Str.ofString "short_quote", params := fA 52 0, body := FuncBody.stmts (fB 52 0), scope := fC 52 0, globals := 3, closure := [], defaults := .none, kwdefaults := .none, pyModule := .str (.ofString "emacs.lispprinter") 712, code := .ref 427 } }
noncomputable def o429 (P : Params) : Obj := { cls := .type "tuple", data := .seq #[] }
noncomputable def o430 (P : Params) : Obj := { cls := .type "builtin_function_or_method", data := .fields #[.builtin "type.__prepare__", .type "type"] }
noncomputable def o431 (P : Params) : Obj := { cls := .type "dict", data := .dict #[⟨PyData.keyHash P (.ofString "__module__"), .str (.ofString "__module__") 853, .str (.ofString "emacs.lispprinter") 712⟩, ⟨PyData.keyHash P (.ofString "__qualname__"), .str (.ofString "__qualname__") 855, .str (.ofString "Printer") 854⟩, ⟨PyData.keyHash P (.ofString "__firstlineno__"), .str (.ofString "__firstlineno__") 857, .int 265 856⟩, ⟨PyData.keyHash P (.ofString "__init__"), .str (.ofString "__init__") 867, .ref 442⟩, ⟨PyData.keyHash P (.ofString "printed"), .str (.ofString "printed") 876, .ref 449⟩, ⟨PyData.keyHash P (.ofString "do_datum"), .str (.ofString "do_datum") 884, .ref 456⟩, ⟨PyData.keyHash P (.ofString "is_labelled"), .str (.ofString "is_labelled") 894, .ref 463⟩, ⟨PyData.keyHash P (.ofString "do_whole"), .str (.ofString "do_whole") 904, .ref 470⟩, ⟨PyData.keyHash P (.ofString "do_text"), .str (.ofString "do_text") 916, .ref 477⟩, ⟨PyData.keyHash P (.ofString "do_row"), .str (.ofString "do_row") 926, .ref 484⟩, ⟨PyData.keyHash P (.ofString "is_dotted"), .str (.ofString "is_dotted") 936, .ref 491⟩, ⟨PyData.keyHash P (.ofString "do_cells"), .str (.ofString "do_cells") 945, .ref 498⟩, ⟨PyData.keyHash P (.ofString "__static_attributes__"), .str (.ofString "__static_attributes__") 952, .ref 499⟩] 13 }
noncomputable def o432 (P : Params) : Obj := { cls := .type "tuple", data := .seq #[] }
noncomputable def o433 (P : Params) : Obj := { cls := .none, data := .fields #[.int 267 0, .int 4 0, .ref 441, .int 275 0, .int 4 0, .ref 448, .int 291 0, .int 4 0, .ref 455, .int 303 0, .int 4 0, .ref 462, .int 311 0, .int 4 0, .ref 469, .int 336 0, .int 4 0, .ref 476, .int 350 0, .int 4 0, .ref 483, .int 370 0, .int 4 0, .ref 490, .int 373 0, .int 4 0, .ref 497] }
noncomputable def o434 (P : Params) : Obj := { cls := .type "code", data := .fields #[.str (.ofString "Printer") 848, .str (.ofString "Printer") 849, .str (.ofString "/claim/cut.py") 850, .int 265 0, .int 0 0, .int 0 0, .int 0 0, .int 0 0, .ref 432, .bool false, .int 181 0, .ref 433, .none, .none, .none, .none, .int 851 0, .int 265 0, .str (.ofString "/claim/cut.py") 852] }
noncomputable def o435 (P : Params) : Obj := { cls := .type "frame", slots := #[some (.ref 434), some (.ref 3), some (.ref 431), none, some (.str (.ofString "emacs.lispprinter") 712), none, some (.ref 0)] }
noncomputable def o436 (P : Params) : Obj := { cls := .type "tuple", data := .seq #[] }
noncomputable def o437 (P : Params) : Obj := { cls := .none, data := .fields #[] }
noncomputable def o438 (P : Params) : Obj := { cls := .type "tuple", data := .seq #[.str (.ofString "self") 861, .str (.ofString "options") 862, .str (.ofString "obarray") 863, .str (.ofString "labels") 864] }
noncomputable def o439 (P : Params) : Obj := { cls := .type "tuple", data := .seq #[] }
noncomputable def o440 (P : Params) : Obj := { cls := .none, data := .func { name := Str.ofString "__init__", qualname := Str.ofString "Printer.__init__", params := p442, body := FuncBody.stmts (b442), scope := s442, globals := 0, closure := [], defaults := .none, kwdefaults := .none } }
noncomputable def o441 (P : Params) : Obj := { cls := .type "code", data := .fields #[.str (.ofString "__init__") 858, .str (.ofString "Printer.__init__") 859, .str (.ofString "/claim/cut.py") 860, .int 267 0, .int 4 0, .int 0 0, .int 0 0, .int 3 0, .ref 436, .bool true, .int 181 0, .ref 437, .none, .ref 438, .ref 439, .ref 440, .int 865 0, .int 267 0, .str (.ofString "/claim/cut.py") 866] }
noncomputable def o442 (P : Params) : Obj := { cls := .type "function", data := .func { name := Str.ofString "__init__", qualname := Str.ofString "Printer.__init__", params := p442, body := FuncBody.stmts (b442), scope := s442, globals := 3, closure := [], defaults := .none, kwdefaults := .none, pyModule := .str (.ofString "emacs.lispprinter") 712, code := .ref 441 } }
noncomputable def o443 (P : Params) : Obj := { cls := .type "tuple", data := .seq #[] }
noncomputable def o444 (P : Params) : Obj := { cls := .none, data := .fields #[] }
noncomputable def o445 (P : Params) : Obj := { cls := .type "tuple", data := .seq #[.str (.ofString "self") 871, .str (.ofString "datum") 872, .str (.ofString "job") 873] }
noncomputable def o446 (P : Params) : Obj := { cls := .type "tuple", data := .seq #[] }
noncomputable def o447 (P : Params) : Obj := { cls := .none, data := .func { name := Str.ofString "printed", qualname := Str.ofString "Printer.printed", params := p449, body := FuncBody.stmts (b449), scope := s449, globals := 0, closure := [], defaults := .none, kwdefaults := .none } }
noncomputable def o448 (P : Params) : Obj := { cls := .type "code", data := .fields #[.str (.ofString "printed") 868, .str (.ofString "Printer.printed") 869, .str (.ofString "/claim/cut.py") 870, .int 275 0, .int 2 0, .int 0 0, .int 0 0, .int 3 0, .ref 443, .bool true, .int 181 0, .ref 444, .none, .ref 445, .ref 446, .ref 447, .int 874 0, .int 275 0, .str (.ofString "/claim/cut.py") 875] }
noncomputable def o449 (P : Params) : Obj := { cls := .type "function", data := .func { name := Str.ofString "printed", qualname := Str.ofString "Printer.printed", params := p449, body := FuncBody.stmts (b449), scope := s449, globals := 3, closure := [], defaults := .none, kwdefaults := .none, pyModule := .str (.ofString "emacs.lispprinter") 712, code := .ref 448 } }
noncomputable def o450 (P : Params) : Obj := { cls := .type "tuple", data := .seq #[] }
noncomputable def o451 (P : Params) : Obj := { cls := .none, data := .fields #[] }
noncomputable def o452 (P : Params) : Obj := { cls := .type "tuple", data := .seq #[.str (.ofString "self") 880, .str (.ofString "datum") 881] }
noncomputable def o453 (P : Params) : Obj := { cls := .type "tuple", data := .seq #[] }
noncomputable def o454 (P : Params) : Obj := { cls := .none, data := .func { name := Str.ofString "do_datum", qualname := Str.ofString "Printer.do_datum", params := p456, body := FuncBody.stmts (b456), scope := s456, globals := 0, closure := [], defaults := .none, kwdefaults := .none } }
noncomputable def o455 (P : Params) : Obj := { cls := .type "code", data := .fields #[.str (.ofString "do_datum") 877, .str (.ofString "Printer.do_datum") 878, .str (.ofString "/claim/cut.py") 879, .int 291 0, .int 2 0, .int 0 0, .int 0 0, .int 3 0, .ref 450, .bool true, .int 181 0, .ref 451, .none, .ref 452, .ref 453, .ref 454, .int 882 0, .int 291 0, .str (.ofString "/claim/cut.py") 883] }
noncomputable def o456 (P : Params) : Obj := { cls := .type "function", data := .func { name := Str.ofString "do_datum", qualname := Str.ofString "Printer.do_datum", params := p456, body := FuncBody.stmts (b456), scope := s456, globals := 3, closure := [], defaults := .none, kwdefaults := .none, pyModule := .str (.ofString "emacs.lispprinter") 712, code := .ref 455 } }
noncomputable def o457 (P : Params) : Obj := { cls := .type "tuple", data := .seq #[] }
noncomputable def o458 (P : Params) : Obj := { cls := .none, data := .fields #[] }
noncomputable def o459 (P : Params) : Obj := { cls := .type "tuple", data := .seq #[.str (.ofString "self") 888, .str (.ofString "datum") 889, .str (.ofString "number") 890, .str (.ofString "is_known") 891] }
noncomputable def o460 (P : Params) : Obj := { cls := .type "tuple", data := .seq #[] }
noncomputable def o461 (P : Params) : Obj := { cls := .none, data := .func { name := Str.ofString "is_labelled", qualname := Str.ofString "Printer.is_labelled", params := p463, body := FuncBody.stmts (b463), scope := s463, globals := 0, closure := [], defaults := .none, kwdefaults := .none } }
noncomputable def o462 (P : Params) : Obj := { cls := .type "code", data := .fields #[.str (.ofString "is_labelled") 885, .str (.ofString "Printer.is_labelled") 886, .str (.ofString "/claim/cut.py") 887, .int 303 0, .int 2 0, .int 0 0, .int 0 0, .int 3 0, .ref 457, .bool true, .int 181 0, .ref 458, .none, .ref 459, .ref 460, .ref 461, .int 892 0, .int 303 0, .str (.ofString "/claim/cut.py") 893] }
noncomputable def o463 (P : Params) : Obj := { cls := .type "function", data := .func { name := Str.ofString "is_labelled", qualname := Str.ofString "Printer.is_labelled", params := p463, body := FuncBody.stmts (b463), scope := s463, globals := 3, closure := [], defaults := .none, kwdefaults := .none, pyModule := .str (.ofString "emacs.lispprinter") 712, code := .ref 462 } }
noncomputable def o464 (P : Params) : Obj := { cls := .type "tuple", data := .seq #[] }
noncomputable def o465 (P : Params) : Obj := { cls := .none, data := .fields #[] }
noncomputable def o466 (P : Params) : Obj := { cls := .type "tuple", data := .seq #[.str (.ofString "self") 898, .str (.ofString "datum") 899, .str (.ofString "depth") 900, .str (.ofString "words") 901] }
noncomputable def o467 (P : Params) : Obj := { cls := .type "tuple", data := .seq #[] }
noncomputable def o468 (P : Params) : Obj := { cls := .none, data := .func { name := Str.ofString "do_whole", qualname := Str.ofString "Printer.do_whole", params := p470, body := FuncBody.stmts (b470), scope := s470, globals := 0, closure := [], defaults := .none, kwdefaults := .none } }
noncomputable def o469 (P : Params) : Obj := { cls := .type "code", data := .fields #[.str (.ofString "do_whole") 895, .str (.ofString "Printer.do_whole") 896, .str (.ofString "/claim/cut.py") 897, .int 311 0, .int 2 0, .int 0 0, .int 0 0, .int 3 0, .ref 464, .bool true, .int 181 0, .ref 465, .none, .ref 466, .ref 467, .ref 468, .int 902 0, .int 311 0, .str (.ofString "/claim/cut.py") 903] }
noncomputable def o470 (P : Params) : Obj := { cls := .type "function", data := .func { name := Str.ofString "do_whole", qualname := Str.ofString "Printer.do_whole", params := p470, body := FuncBody.stmts (b470), scope := s470, globals := 3, closure := [], defaults := .none, kwdefaults := .none, pyModule := .str (.ofString "emacs.lispprinter") 712, code := .ref 469 } }
noncomputable def o471 (P : Params) : Obj := { cls := .type "tuple", data := .seq #[] }
noncomputable def o472 (P : Params) : Obj := { cls := .none, data := .fields #[] }
noncomputable def o473 (P : Params) : Obj := { cls := .type "tuple", data := .seq #[.str (.ofString "self") 908, .str (.ofString "text") 909, .str (.ofString "rows") 910, .str (.ofString "start") 911, .str (.ofString "end") 912, .str (.ofString "plist") 913] }
noncomputable def o474 (P : Params) : Obj := { cls := .type "tuple", data := .seq #[] }
noncomputable def o475 (P : Params) : Obj := { cls := .none, data := .func { name := Str.ofString "do_text", qualname := Str.ofString "Printer.do_text", params := p477, body := FuncBody.stmts (b477), scope := s477, globals := 0, closure := [], defaults := .none, kwdefaults := .none } }
noncomputable def o476 (P : Params) : Obj := { cls := .type "code", data := .fields #[.str (.ofString "do_text") 905, .str (.ofString "Printer.do_text") 906, .str (.ofString "/claim/cut.py") 907, .int 336 0, .int 2 0, .int 0 0, .int 0 0, .int 3 0, .ref 471, .bool true, .int 181 0, .ref 472, .none, .ref 473, .ref 474, .ref 475, .int 914 0, .int 336 0, .str (.ofString "/claim/cut.py") 915] }
noncomputable def o477 (P : Params) : Obj := { cls := .type "function", data := .func { name := Str.ofString "do_text", qualname := Str.ofString "Printer.do_text", params := p477, body := FuncBody.stmts (b477), scope := s477, globals := 3, closure := [], defaults := .none, kwdefaults := .none, pyModule := .str (.ofString "emacs.lispprinter") 712, code := .ref 476 } }
noncomputable def o478 (P : Params) : Obj := { cls := .type "tuple", data := .seq #[] }
noncomputable def o479 (P : Params) : Obj := { cls := .none, data := .fields #[] }
noncomputable def o480 (P : Params) : Obj := { cls := .type "tuple", data := .seq #[.str (.ofString "self") 920, .str (.ofString "at") 921, .str (.ofString "place") 922, .str (.ofString "half") 923] }
noncomputable def o481 (P : Params) : Obj := { cls := .type "tuple", data := .seq #[] }
noncomputable def o482 (P : Params) : Obj := { cls := .none, data := .func { name := Str.ofString "do_row", qualname := Str.ofString "Printer.do_row", params := fA 53 6, body := FuncBody.stmts (fB 53 6), scope := fC 53 6, globals := 0, closure := [], defaults := .none, kwdefaults := .none } }
noncomputable def o483 (P : Params) : Obj := { cls := .type "code", data := .fields #[.str (.ofString "do_row") 917, .str (.ofString "Printer.do_row") 918, .str (.ofString "/claim/cut.py") 919, .int 350 0, .int 4 0, .int 0 0, .int 0 0, .int 3 0, .ref 478, .bool true, .int 181 0, .ref 479, .none, .ref 480, .ref 481, .ref 482, .int 924 0, .int 350 0, .str (.ofString "/claim/cut.py") 925] }
noncomputable def o484 (P : Params) : Obj := { cls := .type "function", data := .func { name := Str.ofString "do_row", qualname := Str.ofString "Printer.do_row", params := fA 53 6, body := FuncBody.stmts (fB 53 6), scope := fC 53 6, globals := 3, closure := [], defaults := .none, kwdefaults := .none, pyModule := .str (.ofString "emacs.lispprinter") 712, code := .ref 483 } }
noncomputable def o485 (P : Params) : Obj := { cls := .type "tuple", data := .seq #[] }
noncomputable def o486 (P : Params) : Obj := { cls := .none, data := .fields #[] }
noncomputable def o487 (P : Params) : Obj := { cls := .type "tuple", data := .seq #[.str (.ofString "self") 930, .str (.ofString "at") 931, .str (.ofString "place") 932, .str (.ofString "half") 933] }
noncomputable def o488 (P : Params) : Obj := { cls := .type "tuple", data := .seq #[] }
noncomputable def o489 (P : Params) : Obj := { cls := .none, data := .func { name := Str.ofString "is_dotted", qualname := Str.ofString "Printer.is_dotted", params := fA 53 7, body := FuncBody.stmts (fB 53 7), scope := fC 53 7, globals := 0, closure := [], defaults := .none, kwdefaults := .none } }
noncomputable def o490 (P : Params) : Obj := { cls := .type "code", data := .fields #[.str (.ofString "is_dotted") 927, .str (.ofString "Printer.is_dotted") 928, .str (.ofString "/claim/cut.py") 929, .int 370 0, .int 4 0, .int 0 0, .int 0 0, .int 3 0, .ref 485, .bool true, .int 181 0, .ref 486, .none, .ref 487, .ref 488, .ref 489, .int 934 0, .int 370 0, .str (.ofString "/claim/cut.py") 935] }
noncomputable def o491 (P : Params) : Obj := { cls := .type "function", data := .func { name := Str.ofString "is_dotted", qualname := Str.ofString "Printer.is_dotted", params := fA 53 7, body := FuncBody.stmts (fB 53 7), scope := fC 53 7, globals := 3, closure := [], defaults := .none, kwdefaults := .none, pyModule := .str (.ofString "emacs.lispprinter") 712, code := .ref 490 } }
noncomputable def o492 (P : Params) : Obj := { cls := .type "tuple", data := .seq #[] }
noncomputable def o493 (P : Params) : Obj := { cls := .none, data := .fields #[] }
noncomputable def o494 (P : Params) : Obj := { cls := .type "tuple", data := .seq #[.str (.ofString "self") 940, .str (.ofString "things") 941, .str (.ofString "place") 942] }
noncomputable def o495 (P : Params) : Obj := { cls := .type "tuple", data := .seq #[] }
noncomputable def o496 (P : Params) : Obj := { cls := .none, data := .func { name := Str.ofString "do_cells", qualname := Str.ofString "Printer.do_cells", params := fA 53 8, body := FuncBody.stmts (fB 53 8), scope := fC 53 8, globals := 0, closure := [], defaults := .none, kwdefaults := .none } }
noncomputable def o497 (P : Params) : Obj := { cls := .type "code", data := .fields #[.str (.ofString "do_cells") 937, .str (.ofString "Printer.do_cells") 938, .str (.ofString "/claim/cut.py") 939, .int 373 0, .int 3 0, .int 0 0, .int 0 0, .int 3 0, .ref 492, .bool true, .int 181 0, .ref 493, .none, .ref 494, .ref 495, .ref 496, .int 943 0, .int 373 0, .str (.ofString "/claim/cut.py") 944] }
noncomputable def o498 (P : Params) : Obj := { cls := .type "function", data := .func { name := Str.ofString "do_cells", qualname := Str.ofString "Printer.do_cells", params := fA 53 8, body := FuncBody.stmts (fB 53 8), scope := fC 53 8, globals := 3, closure := [], defaults := .none, kwdefaults := .none, pyModule := .str (.ofString "emacs.lispprinter") 712, code := .ref 497 } }
noncomputable def o499 (P : Params) : Obj := { cls := .type "tuple", data := .seq #[.str (.ofString "around") 946, .str (.ofString "codes") 947, .str (.ofString "jobs") 948, .str (.ofString "labels") 949, .str (.ofString "obarray") 950, .str (.ofString "options") 951] }
noncomputable def o500 (P : Params) : Obj := { cls := .type "dict", data := .dict #[⟨PyData.keyHash P (.ofString "__module__"), .str (.ofString "__module__") 853, .str (.ofString "emacs.lispprinter") 712⟩, ⟨PyData.keyHash P (.ofString "__firstlineno__"), .str (.ofString "__firstlineno__") 857, .int 265 856⟩, ⟨PyData.keyHash P (.ofString "__init__"), .str (.ofString "__init__") 867, .ref 442⟩, ⟨PyData.keyHash P (.ofString "printed"), .str (.ofString "printed") 876, .ref 449⟩, ⟨PyData.keyHash P (.ofString "do_datum"), .str (.ofString "do_datum") 884, .ref 456⟩, ⟨PyData.keyHash P (.ofString "is_labelled"), .str (.ofString "is_labelled") 894, .ref 463⟩, ⟨PyData.keyHash P (.ofString "do_whole"), .str (.ofString "do_whole") 904, .ref 470⟩, ⟨PyData.keyHash P (.ofString "do_text"), .str (.ofString "do_text") 916, .ref 477⟩, ⟨PyData.keyHash P (.ofString "do_row"), .str (.ofString "do_row") 926, .ref 484⟩, ⟨PyData.keyHash P (.ofString "is_dotted"), .str (.ofString "is_dotted") 936, .ref 491⟩, ⟨PyData.keyHash P (.ofString "do_cells"), .str (.ofString "do_cells") 945, .ref 498⟩, ⟨PyData.keyHash P (.ofString "__static_attributes__"), .str (.ofString "__static_attributes__") 952, .ref 499⟩, ⟨PyData.keyHash P (.ofString "__dict__"), .str (.ofString "__dict__") 954, .ref 502⟩, ⟨PyData.keyHash P (.ofString "__weakref__"), .str (.ofString "__weakref__") 956, .ref 503⟩, ⟨PyData.keyHash P (.ofString "__doc__"), .str (.ofString "__doc__") 957, .none⟩] 4 }
noncomputable def o501 (P : Params) : Obj := { cls := .type "type", data := .cls { name := Str.ofString "Printer", bases := [.type "object"], mro := [.ref 501, .type "object"], ns := 500, qualname := Str.ofString "Printer" }, slots := #[none, none, some (.str (.ofString "Printer") 846), some (.str (.ofString "Printer") 854), some (.builtin "object.__new__"), some (.bool true)] }
noncomputable def o502 (P : Params) : Obj := { cls := .type "getset_descriptor", data := .fields #[.str (.ofString "__dict__") 953, .ref 501, .builtin "function.__dict__", .builtin "function.__dict__#set"] }
noncomputable def o503 (P : Params) : Obj := { cls := .type "getset_descriptor", data := .fields #[.str (.ofString "__weakref__") 955, .ref 501, .builtin "ExceptionGroup.__weakref__", .none] }
noncomputable def o504 (P : Params) : Obj := { cls := .type "super", data := .fields #[.ref 501, .ref 501, .ref 501] }
noncomputable def o505 (P : Params) : Obj := { cls := .type "builtin_function_or_method", data := .fields #[.builtin "object.__init_subclass__", .ref 501] }
noncomputable def o506 (P : Params) : Obj := { cls := .type "tuple", data := .seq #[] }
noncomputable def o507 (P : Params) : Obj := { cls := .none, data := .fields #[] }
noncomputable def o508 (P : Params) : Obj := { cls := .type "tuple", data := .seq #[.str (.ofString "datum") 963, .str (.ofString "options") 964, .str (.ofString "obarray") 965, .str (.ofString "labels") 966] }
noncomputable def o509 (P : Params) : Obj := { cls := .type "tuple", data := .seq #[] }
noncomputable def o510 (P : Params) : Obj := { cls := .none, data := .func { name := Str.ofString "printed", qualname := Str.ofString "printed", params := p512, body := FuncBody.stmts (b512), scope := s512, globals := 0, closure := [], defaults := .none, kwdefaults := .none } }
noncomputable def o511 (P : Params) : Obj := { cls := .type "code", data := .fields #[.str (.ofString "printed") 960, .str (.ofString "printed") 961, .str (.ofString "/claim/cut.py") 962, .int 384 0, .int 3 0, .int 0 0, .int 0 0, .int 3 0, .ref 506, .bool true, .int 181 0, .ref 507, .none, .ref 508, .ref 509, .ref 510, .int 967 0, .int 384 0, .str (.ofString "/claim/cut.py") 968] }
noncomputable def o512 (P : Params) : Obj := { cls := .type "function", data := .func { name := Str.ofString "printed", qualname := Str.ofString "printed", params := p512, body := FuncBody.stmts (b512), scope := s512, globals := 3, closure := [], defaults := .none, kwdefaults := .none, pyModule := .str (.ofString "emacs.lispprinter") 712, code := .ref 511 } }
noncomputable def o513 (P : Params) : Obj := { cls := .type "tuple", data := .seq #[] }
noncomputable def o514 (P : Params) : Obj := { cls := .none, data := .fields #[] }
noncomputable def o515 (P : Params) : Obj := { cls := .type "tuple", data := .seq #[.str (.ofString "datum") 973, .str (.ofString "obarray") 974] }
noncomputable def o516 (P : Params) : Obj := { cls := .type "tuple", data := .seq #[] }
noncomputable def o517 (P : Params) : Obj := { cls := .none, data := .func { name := Str.ofString "prin1", qualname := Str.ofString "prin1", params := fA 55 0, body := FuncBody.stmts (fB 55 0), scope := fC 55 0, globals := 0, closure := [], defaults := .none, kwdefaults := .none } }
noncomputable def o518 (P : Params) : Obj := { cls := .type "code", data := .fields #[.str (.ofString "prin1") 970, .str (.ofString "prin1") 971, .str (.ofString "/claim/cut.py") 972, .int 387 0, .int 2 0, .int 0 0, .int 0 0, .int 3 0, .ref 513, .bool true, .int 181 0, .ref 514, .none, .ref 515, .ref 516, .ref 517, .int 975 0, .int 387 0, .str (.ofString "/claim/cut.py") 976] }
noncomputable def o519 (P : Params) : Obj := { cls := .type "function", data := .func { name := Str.ofString "prin1", qualname := Str.ofString "prin1", params := fA 55 0, body := FuncBody.stmts (fB 55 0), scope := fC 55 0, globals := 3, closure := [], defaults := .none, kwdefaults := .none, pyModule := .str (.ofString "emacs.lispprinter") 712, code := .ref 518 } }
noncomputable def o520 (P : Params) : Obj := { cls := .type "tuple", data := .seq #[] }
noncomputable def o521 (P : Params) : Obj := { cls := .none, data := .fields #[] }
noncomputable def o522 (P : Params) : Obj := { cls := .type "tuple", data := .seq #[.str (.ofString "datum") 981, .str (.ofString "obarray") 982] }
noncomputable def o523 (P : Params) : Obj := { cls := .type "tuple", data := .seq #[] }
noncomputable def o524 (P : Params) : Obj := { cls := .none, data := .func { name := Str.ofString "princ", qualname := Str.ofString "princ", params := p526, body := FuncBody.stmts (b526), scope := s526, globals := 0, closure := [], defaults := .none, kwdefaults := .none } }
noncomputable def o525 (P : Params) : Obj := { cls := .type "code", data := .fields #[.str (.ofString "princ") 978, .str (.ofString "princ") 979, .str (.ofString "/claim/cut.py") 980, .int 389 0, .int 2 0, .int 0 0, .int 0 0, .int 3 0, .ref 520, .bool true, .int 181 0, .ref 521, .none, .ref 522, .ref 523, .ref 524, .int 983 0, .int 389 0, .str (.ofString "/claim/cut.py") 984] }
noncomputable def o526 (P : Params) : Obj := { cls := .type "function", data := .func { name := Str.ofString "princ", qualname := Str.ofString "princ", params := p526, body := FuncBody.stmts (b526), scope := s526, globals := 3, closure := [], defaults := .none, kwdefaults := .none, pyModule := .str (.ofString "emacs.lispprinter") 712, code := .ref 525 } }
noncomputable def o527 (P : Params) : Obj := { cls := .type "tuple", data := .seq #[] }
noncomputable def o528 (P : Params) : Obj := { cls := .none, data := .fields #[] }
noncomputable def o529 (P : Params) : Obj := { cls := .type "tuple", data := .seq #[.str (.ofString "spec") 991, .str (.ofString "things") 992, .str (.ofString "at") 993, .str (.ofString "place") 994] }
noncomputable def o530 (P : Params) : Obj := { cls := .type "tuple", data := .seq #[] }
noncomputable def o531 (P : Params) : Obj := { cls := .none, data := .func { name := Str.ofString "thing_for", qualname := Str.ofString "thing_for", params := p533, body := FuncBody.stmts (b533), scope := s533, globals := 0, closure := [], defaults := .none, kwdefaults := .none } }
noncomputable def o532 (P : Params) : Obj := { cls := .type "code", data := .fields #[.str (.ofString "thing_for") 988, .str (.ofString "thing_for") 989, .str (.ofString "/claim/cut.py") 990, .int 392 0, .int 3 0, .int 0 0, .int 0 0, .int 3 0, .ref 527, .bool true, .int 181 0, .ref 528, .none, .ref 529, .ref 530, .ref 531, .int 995 0, .int 392 0, .str (.ofString "/claim/cut.py") 996] }
noncomputable def o533 (P : Params) : Obj := { cls := .type "function", data := .func { name := Str.ofString "thing_for", qualname := Str.ofString "thing_for", params := p533, body := FuncBody.stmts (b533), scope := s533, globals := 3, closure := [], defaults := .none, kwdefaults := .none, pyModule := .str (.ofString "emacs.formatprims") 986, code := .ref 532 } }
noncomputable def o534 (P : Params) : Obj := { cls := .type "tuple", data := .seq #[] }
noncomputable def o535 (P : Params) : Obj := { cls := .none, data := .fields #[] }
noncomputable def o536 (P : Params) : Obj := { cls := .type "tuple", data := .seq #[.str (.ofString "spec") 1001, .str (.ofString "thing") 1002, .str (.ofString "obarray") 1003, .str (.ofString "codes") 1004] }
noncomputable def o537 (P : Params) : Obj := { cls := .type "tuple", data := .seq #[] }
noncomputable def o538 (P : Params) : Obj := { cls := .none, data := .func { name := Str.ofString "told_codes", qualname := Str.ofString "told_codes", params := p540, body := FuncBody.stmts (b540), scope := s540, globals := 0, closure := [], defaults := .none, kwdefaults := .none } }
noncomputable def o539 (P : Params) : Obj := { cls := .type "code", data := .fields #[.str (.ofString "told_codes") 998, .str (.ofString "told_codes") 999, .str (.ofString "/claim/cut.py") 1000, .int 397 0, .int 3 0, .int 0 0, .int 0 0, .int 3 0, .ref 534, .bool true, .int 181 0, .ref 535, .none, .ref 536, .ref 537, .ref 538, .int 1005 0, .int 397 0, .str (.ofString "/claim/cut.py") 1006] }
noncomputable def o540 (P : Params) : Obj := { cls := .type "function", data := .func { name := Str.ofString "told_codes", qualname := Str.ofString "told_codes", params := p540, body := FuncBody.stmts (b540), scope := s540, globals := 3, closure := [], defaults := .none, kwdefaults := .none, pyModule := .str (.ofString "emacs.formatprims") 986, code := .ref 539 } }
noncomputable def o541 (P : Params) : Obj := { cls := .type "tuple", data := .seq #[] }
noncomputable def o542 (P : Params) : Obj := { cls := .none, data := .fields #[] }
noncomputable def o543 (P : Params) : Obj := { cls := .type "tuple", data := .seq #[.str (.ofString "codes") 1011, .str (.ofString "things") 1012, .str (.ofString "obarray") 1013, .str (.ofString "found") 1014, .str (.ofString "at") 1015, .str (.ofString "next_one") 1016, .str (.ofString "spec") 1017, .str (.ofString "thing") 1018] }
noncomputable def o544 (P : Params) : Obj := { cls := .type "tuple", data := .seq #[] }
noncomputable def o545 (P : Params) : Obj := { cls := .none, data := .func { name := Str.ofString "formatted", qualname := Str.ofString "formatted", params := p547, body := FuncBody.stmts (b547), scope := s547, globals := 0, closure := [], defaults := .none, kwdefaults := .none } }
noncomputable def o546 (P : Params) : Obj := { cls := .type "code", data := .fields #[.str (.ofString "formatted") 1008, .str (.ofString "formatted") 1009, .str (.ofString "/claim/cut.py") 1010, .int 408 0, .int 3 0, .int 0 0, .int 0 0, .int 3 0, .ref 541, .bool true, .int 181 0, .ref 542, .none, .ref 543, .ref 544, .ref 545, .int 1019 0, .int 408 0, .str (.ofString "/claim/cut.py") 1020] }
noncomputable def o547 (P : Params) : Obj := { cls := .type "function", data := .func { name := Str.ofString "formatted", qualname := Str.ofString "formatted", params := p547, body := FuncBody.stmts (b547), scope := s547, globals := 3, closure := [], defaults := .none, kwdefaults := .none, pyModule := .str (.ofString "emacs.formatprims") 986, code := .ref 546 } }
noncomputable def o548 (P : Params) : Obj := { cls := .type "tuple", data := .seq #[] }
noncomputable def o549 (P : Params) : Obj := { cls := .none, data := .fields #[] }
noncomputable def o550 (P : Params) : Obj := { cls := .none, data := .func { name := Str.ofString "_law_deck", qualname := Str.ofString "_law_deck", params := p552, body := FuncBody.stmts (b552), scope := s552, globals := 0, closure := [], defaults := .none, kwdefaults := .none } }
noncomputable def o551 (P : Params) : Obj := { cls := .type "code", data := .fields #[.str (.ofString "_law_deck") 1024, .str (.ofString "_law_deck") 1025, .str (.ofString "/claim/cut.py") 1026, .int 425 0, .int 1 0, .int 0 0, .int 0 0, .int 3 0, .ref 548, .bool true, .int 181 0, .ref 549, .none, .none, .none, .ref 550, .int 1027 0, .int 425 0, .str (.ofString "/claim/cut.py") 1028] }
noncomputable def o552 (P : Params) : Obj := { cls := .type "function", data := .func { name := Str.ofString "_law_deck", qualname := Str.ofString "_law_deck", params := p552, body := FuncBody.stmts (b552), scope := s552, globals := 3, closure := [], defaults := .none, kwdefaults := .none, pyModule := .str (.ofString "law_np0086_01") 1022, code := .ref 551 } }
noncomputable def o553 (P : Params) : Obj := { cls := .type "tuple", data := .seq #[] }
noncomputable def o554 (P : Params) : Obj := { cls := .none, data := .fields #[] }
noncomputable def o555 (P : Params) : Obj := { cls := .type "tuple", data := .seq #[.str (.ofString "deck") 1033, .str (.ofString "many") 1034, .str (.ofString "found") 1035] }
noncomputable def o556 (P : Params) : Obj := { cls := .type "tuple", data := .seq #[] }
noncomputable def o557 (P : Params) : Obj := { cls := .none, data := .func { name := Str.ofString "_law_draw", qualname := Str.ofString "_law_draw", params := p559, body := FuncBody.stmts (b559), scope := s559, globals := 0, closure := [], defaults := .none, kwdefaults := .none } }
noncomputable def o558 (P : Params) : Obj := { cls := .type "code", data := .fields #[.str (.ofString "_law_draw") 1030, .str (.ofString "_law_draw") 1031, .str (.ofString "/claim/cut.py") 1032, .int 427 0, .int 2 0, .int 0 0, .int 0 0, .int 3 0, .ref 553, .bool true, .int 181 0, .ref 554, .none, .ref 555, .ref 556, .ref 557, .int 1036 0, .int 427 0, .str (.ofString "/claim/cut.py") 1037] }
noncomputable def o559 (P : Params) : Obj := { cls := .type "function", data := .func { name := Str.ofString "_law_draw", qualname := Str.ofString "_law_draw", params := p559, body := FuncBody.stmts (b559), scope := s559, globals := 3, closure := [], defaults := .none, kwdefaults := .none, pyModule := .str (.ofString "law_np0086_01") 1022, code := .ref 558 } }
noncomputable def o560 (P : Params) : Obj := { cls := .type "tuple", data := .seq #[] }
noncomputable def o561 (P : Params) : Obj := { cls := .none, data := .fields #[] }
noncomputable def o562 (P : Params) : Obj := { cls := .none, data := .func { name := Str.ofString "_law_codes", qualname := Str.ofString "_law_codes", params := p564, body := FuncBody.stmts (b564), scope := s564, globals := 0, closure := [], defaults := .none, kwdefaults := .none } }
noncomputable def o563 (P : Params) : Obj := { cls := .type "code", data := .fields #[.str (.ofString "_law_codes") 1039, .str (.ofString "_law_codes") 1040, .str (.ofString "/claim/cut.py") 1041, .int 435 0, .int 1 0, .int 0 0, .int 0 0, .int 3 0, .ref 560, .bool true, .int 181 0, .ref 561, .none, .none, .none, .ref 562, .int 1042 0, .int 435 0, .str (.ofString "/claim/cut.py") 1043] }
noncomputable def o564 (P : Params) : Obj := { cls := .type "function", data := .func { name := Str.ofString "_law_codes", qualname := Str.ofString "_law_codes", params := p564, body := FuncBody.stmts (b564), scope := s564, globals := 3, closure := [], defaults := .none, kwdefaults := .none, pyModule := .str (.ofString "law_np0086_01") 1022, code := .ref 563 } }
noncomputable def o565 (P : Params) : Obj := { cls := .type "tuple", data := .seq #[] }
noncomputable def o566 (P : Params) : Obj := { cls := .none, data := .fields #[] }
noncomputable def o567 (P : Params) : Obj := { cls := .none, data := .func { name := Str.ofString "_law_figures", qualname := Str.ofString "_law_figures", params := p569, body := FuncBody.stmts (b569), scope := s569, globals := 0, closure := [], defaults := .none, kwdefaults := .none } }
noncomputable def o568 (P : Params) : Obj := { cls := .type "code", data := .fields #[.str (.ofString "_law_figures") 1045, .str (.ofString "_law_figures") 1046, .str (.ofString "/claim/cut.py") 1047, .int 437 0, .int 3 0, .int 0 0, .int 0 0, .int 3 0, .ref 565, .bool true, .int 181 0, .ref 566, .none, .none, .none, .ref 567, .int 1048 0, .int 437 0, .str (.ofString "/claim/cut.py") 1049] }
noncomputable def o569 (P : Params) : Obj := { cls := .type "function", data := .func { name := Str.ofString "_law_figures", qualname := Str.ofString "_law_figures", params := p569, body := FuncBody.stmts (b569), scope := s569, globals := 3, closure := [], defaults := .none, kwdefaults := .none, pyModule := .str (.ofString "law_np0086_01") 1022, code := .ref 568 } }
noncomputable def o570 (P : Params) : Obj := { cls := .type "tuple", data := .seq #[] }
noncomputable def o571 (P : Params) : Obj := { cls := .none, data := .fields #[] }
noncomputable def o572 (P : Params) : Obj := { cls := .type "tuple", data := .seq #[.str (.ofString "codes") 1054, .str (.ofString "flags") 1055, .str (.ofString "width") 1056, .str (.ofString "blanks") 1057] }
noncomputable def o573 (P : Params) : Obj := { cls := .type "tuple", data := .seq #[] }
noncomputable def o574 (P : Params) : Obj := { cls := .none, data := .func { name := Str.ofString "_law_wide", qualname := Str.ofString "_law_wide", params := p576, body := FuncBody.stmts (b576), scope := s576, globals := 0, closure := [], defaults := .none, kwdefaults := .none } }
noncomputable def o575 (P : Params) : Obj := { cls := .type "code", data := .fields #[.str (.ofString "_law_wide") 1051, .str (.ofString "_law_wide") 1052, .str (.ofString "/claim/cut.py") 1053, .int 443 0, .int 3 0, .int 0 0, .int 0 0, .int 3 0, .ref 570, .bool true, .int 181 0, .ref 571, .none, .ref 572, .ref 573, .ref 574, .int 1058 0, .int 443 0, .str (.ofString "/claim/cut.py") 1059] }
noncomputable def o576 (P : Params) : Obj := { cls := .type "function", data := .func { name := Str.ofString "_law_wide", qualname := Str.ofString "_law_wide", params := p576, body := FuncBody.stmts (b576), scope := s576, globals := 3, closure := [], defaults := .none, kwdefaults := .none, pyModule := .str (.ofString "law_np0086_01") 1022, code := .ref 575 } }
noncomputable def o577 (P : Params) : Obj := { cls := .type "tuple", data := .seq #[] }
noncomputable def o578 (P : Params) : Obj := { cls := .none, data := .fields #[] }
noncomputable def o579 (P : Params) : Obj := { cls := .type "tuple", data := .seq #[.str (.ofString "number") 1064, .str (.ofString "letter") 1065, .str (.ofString "flags") 1066, .str (.ofString "width") 1067, .str (.ofString "size") 1068, .str (.ofString "numerals") 1069, .str (.ofString "front") 1070] }
noncomputable def o580 (P : Params) : Obj := { cls := .type "tuple", data := .seq #[] }
noncomputable def o581 (P : Params) : Obj := { cls := .none, data := .func { name := Str.ofString "_law_number", qualname := Str.ofString "_law_number", params := p583, body := FuncBody.stmts (b583), scope := s583, globals := 0, closure := [], defaults := .none, kwdefaults := .none } }
noncomputable def o582 (P : Params) : Obj := { cls := .type "code", data := .fields #[.str (.ofString "_law_number") 1061, .str (.ofString "_law_number") 1062, .str (.ofString "/claim/cut.py") 1063, .int 446 0, .int 5 0, .int 0 0, .int 0 0, .int 3 0, .ref 577, .bool true, .int 181 0, .ref 578, .none, .ref 579, .ref 580, .ref 581, .int 1071 0, .int 446 0, .str (.ofString "/claim/cut.py") 1072] }
noncomputable def o583 (P : Params) : Obj := { cls := .type "function", data := .func { name := Str.ofString "_law_number", qualname := Str.ofString "_law_number", params := p583, body := FuncBody.stmts (b583), scope := s583, globals := 3, closure := [], defaults := .none, kwdefaults := .none, pyModule := .str (.ofString "law_np0086_01") 1022, code := .ref 582 } }
noncomputable def o584 (P : Params) : Obj := { cls := .type "tuple", data := .seq #[] }
noncomputable def o585 (P : Params) : Obj := { cls := .none, data := .fields #[] }
noncomputable def o586 (P : Params) : Obj := { cls := .none, data := .func { name := Str.ofString "_law_part", qualname := Str.ofString "_law_part", params := p588, body := FuncBody.stmts (b588), scope := s588, globals := 0, closure := [], defaults := .none, kwdefaults := .none } }
noncomputable def o587 (P : Params) : Obj := { cls := .type "code", data := .fields #[.str (.ofString "_law_part") 1074, .str (.ofString "_law_part") 1075, .str (.ofString "/claim/cut.py") 1076, .int 458 0, .int 1 0, .int 0 0, .int 0 0, .int 3 0, .ref 584, .bool true, .int 181 0, .ref 585, .none, .none, .none, .ref 586, .int 1077 0, .int 458 0, .str (.ofString "/claim/cut.py") 1078] }
noncomputable def o588 (P : Params) : Obj := { cls := .type "function", data := .func { name := Str.ofString "_law_part", qualname := Str.ofString "_law_part", params := p588, body := FuncBody.stmts (b588), scope := s588, globals := 3, closure := [], defaults := .none, kwdefaults := .none, pyModule := .str (.ofString "law_np0086_01") 1022, code := .ref 587 } }
noncomputable def o589 (P : Params) : Obj := { cls := .type "tuple", data := .seq #[] }
noncomputable def o590 (P : Params) : Obj := { cls := .none, data := .fields #[] }
noncomputable def o591 (P : Params) : Obj := { cls := .type "tuple", data := .seq #[.str (.ofString "codes") 1083, .str (.ofString "things") 1084, .str (.ofString "error") 1085] }
noncomputable def o592 (P : Params) : Obj := { cls := .type "tuple", data := .seq #[] }
noncomputable def o593 (P : Params) : Obj := { cls := .none, data := .func { name := Str.ofString "_law_told", qualname := Str.ofString "_law_told", params := p595, body := FuncBody.stmts (b595), scope := s595, globals := 0, closure := [], defaults := .none, kwdefaults := .none } }
noncomputable def o594 (P : Params) : Obj := { cls := .type "code", data := .fields #[.str (.ofString "_law_told") 1080, .str (.ofString "_law_told") 1081, .str (.ofString "/claim/cut.py") 1082, .int 476 0, .int 2 0, .int 0 0, .int 0 0, .int 3 0, .ref 589, .bool true, .int 181 0, .ref 590, .none, .ref 591, .ref 592, .ref 593, .int 1086 0, .int 476 0, .str (.ofString "/claim/cut.py") 1087] }
noncomputable def o595 (P : Params) : Obj := { cls := .type "function", data := .func { name := Str.ofString "_law_told", qualname := Str.ofString "_law_told", params := p595, body := FuncBody.stmts (b595), scope := s595, globals := 3, closure := [], defaults := .none, kwdefaults := .none, pyModule := .str (.ofString "law_np0086_01") 1022, code := .ref 594 } }
noncomputable def o596 (P : Params) : Obj := { cls := .type "tuple", data := .seq #[] }
noncomputable def o597 (P : Params) : Obj := { cls := .none, data := .fields #[] }
noncomputable def o598 (P : Params) : Obj := { cls := .none, data := .func { name := Str.ofString "law", qualname := Str.ofString "law", params := p600, body := FuncBody.stmts (b600), scope := s600, globals := 0, closure := [], defaults := .none, kwdefaults := .none } }
noncomputable def o599 (P : Params) : Obj := { cls := .type "code", data := .fields #[.str (.ofString "law") 1089, .str (.ofString "law") 1090, .str (.ofString "/claim/cut.py") 1091, .int 481 0, .int 1 0, .int 0 0, .int 0 0, .int 3 0, .ref 596, .bool true, .int 181 0, .ref 597, .none, .none, .none, .ref 598, .int 1092 0, .int 481 0, .str (.ofString "/claim/cut.py") 1093] }
noncomputable def o600 (P : Params) : Obj := { cls := .type "function", data := .func { name := Str.ofString "law", qualname := Str.ofString "law", params := p600, body := FuncBody.stmts (b600), scope := s600, globals := 3, closure := [], defaults := .none, kwdefaults := .none, pyModule := .str (.ofString "law_np0086_01") 1022, code := .ref 599 } }
noncomputable def treeF (P : Params) : BT := (.node (o0 P) (.node (o1 P) (.node (o3 P) (.node (o7 P) (.node (o15 P) (.node (o31 P) (.node (o63 P) (.node (o127 P) (.node (o255 P) (.node (o511 P) .nil .nil) .nil) (.node (o383 P) .nil .nil)) (.node (o191 P) (.node (o319 P) (.node (o575 P) .nil .nil) .nil) (.node (o447 P) .nil .nil))) (.node (o95 P) (.node (o159 P) (.node (o287 P) (.node (o543 P) .nil .nil) .nil) (.node (o415 P) .nil .nil)) (.node (o223 P) (.node (o351 P) .nil .nil) (.node (o479 P) .nil .nil)))) (.node (o47 P) (.node (o79 P) (.node (o143 P) (.node (o271 P) (.node (o527 P) .nil .nil) .nil) (.node (o399 P) .nil .nil)) (.node (o207 P) (.node (o335 P) (.node (o591 P) .nil .nil) .nil) (.node (o463 P) .nil .nil))) (.node (o111 P) (.node (o175 P) (.node (o303 P) (.node (o559 P) .nil .nil) .nil) (.node (o431 P) .nil .nil)) (.node (o239 P) (.node (o367 P) .nil .nil) (.node (o495 P) .nil .nil))))) (.node (o23 P) (.node (o39 P) (.node (o71 P) (.node (o135 P) (.node (o263 P) (.node (o519 P) .nil .nil) .nil) (.node (o391 P) .nil .nil)) (.node (o199 P) (.node (o327 P) (.node (o583 P) .nil .nil) .nil) (.node (o455 P) .nil .nil))) (.node (o103 P) (.node (o167 P) (.node (o295 P) (.node (o551 P) .nil .nil) .nil) (.node (o423 P) .nil .nil)) (.node (o231 P) (.node (o359 P) .nil .nil) (.node (o487 P) .nil .nil)))) (.node (o55 P) (.node (o87 P) (.node (o151 P) (.node (o279 P) (.node (o535 P) .nil .nil) .nil) (.node (o407 P) .nil .nil)) (.node (o215 P) (.node (o343 P) (.node (o599 P) .nil .nil) .nil) (.node (o471 P) .nil .nil))) (.node (o119 P) (.node (o183 P) (.node (o311 P) (.node (o567 P) .nil .nil) .nil) (.node (o439 P) .nil .nil)) (.node (o247 P) (.node (o375 P) .nil .nil) (.node (o503 P) .nil .nil)))))) (.node (o11 P) (.node (o19 P) (.node (o35 P) (.node (o67 P) (.node (o131 P) (.node (o259 P) (.node (o515 P) .nil .nil) .nil) (.node (o387 P) .nil .nil)) (.node (o195 P) (.node (o323 P) (.node (o579 P) .nil .nil) .nil) (.node (o451 P) .nil .nil))) (.node (o99 P) (.node (o163 P) (.node (o291 P) (.node (o547 P) .nil .nil) .nil) (.node (o419 P) .nil .nil)) (.node (o227 P) (.node (o355 P) .nil .nil) (.node (o483 P) .nil .nil)))) (.node (o51 P) (.node (o83 P) (.node (o147 P) (.node (o275 P) (.node (o531 P) .nil .nil) .nil) (.node (o403 P) .nil .nil)) (.node (o211 P) (.node (o339 P) (.node (o595 P) .nil .nil) .nil) (.node (o467 P) .nil .nil))) (.node (o115 P) (.node (o179 P) (.node (o307 P) (.node (o563 P) .nil .nil) .nil) (.node (o435 P) .nil .nil)) (.node (o243 P) (.node (o371 P) .nil .nil) (.node (o499 P) .nil .nil))))) (.node (o27 P) (.node (o43 P) (.node (o75 P) (.node (o139 P) (.node (o267 P) (.node (o523 P) .nil .nil) .nil) (.node (o395 P) .nil .nil)) (.node (o203 P) (.node (o331 P) (.node (o587 P) .nil .nil) .nil) (.node (o459 P) .nil .nil))) (.node (o107 P) (.node (o171 P) (.node (o299 P) (.node (o555 P) .nil .nil) .nil) (.node (o427 P) .nil .nil)) (.node (o235 P) (.node (o363 P) .nil .nil) (.node (o491 P) .nil .nil)))) (.node (o59 P) (.node (o91 P) (.node (o155 P) (.node (o283 P) (.node (o539 P) .nil .nil) .nil) (.node (o411 P) .nil .nil)) (.node (o219 P) (.node (o347 P) .nil .nil) (.node (o475 P) .nil .nil))) (.node (o123 P) (.node (o187 P) (.node (o315 P) (.node (o571 P) .nil .nil) .nil) (.node (o443 P) .nil .nil)) (.node (o251 P) (.node (o379 P) .nil .nil) (.node (o507 P) .nil .nil))))))) (.node (o5 P) (.node (o9 P) (.node (o17 P) (.node (o33 P) (.node (o65 P) (.node (o129 P) (.node (o257 P) (.node (o513 P) .nil .nil) .nil) (.node (o385 P) .nil .nil)) (.node (o193 P) (.node (o321 P) (.node (o577 P) .nil .nil) .nil) (.node (o449 P) .nil .nil))) (.node (o97 P) (.node (o161 P) (.node (o289 P) (.node (o545 P) .nil .nil) .nil) (.node (o417 P) .nil .nil)) (.node (o225 P) (.node (o353 P) .nil .nil) (.node (o481 P) .nil .nil)))) (.node (o49 P) (.node (o81 P) (.node (o145 P) (.node (o273 P) (.node (o529 P) .nil .nil) .nil) (.node (o401 P) .nil .nil)) (.node (o209 P) (.node (o337 P) (.node (o593 P) .nil .nil) .nil) (.node (o465 P) .nil .nil))) (.node (o113 P) (.node (o177 P) (.node (o305 P) (.node (o561 P) .nil .nil) .nil) (.node (o433 P) .nil .nil)) (.node (o241 P) (.node (o369 P) .nil .nil) (.node (o497 P) .nil .nil))))) (.node (o25 P) (.node (o41 P) (.node (o73 P) (.node (o137 P) (.node (o265 P) (.node (o521 P) .nil .nil) .nil) (.node (o393 P) .nil .nil)) (.node (o201 P) (.node (o329 P) (.node (o585 P) .nil .nil) .nil) (.node (o457 P) .nil .nil))) (.node (o105 P) (.node (o169 P) (.node (o297 P) (.node (o553 P) .nil .nil) .nil) (.node (o425 P) .nil .nil)) (.node (o233 P) (.node (o361 P) .nil .nil) (.node (o489 P) .nil .nil)))) (.node (o57 P) (.node (o89 P) (.node (o153 P) (.node (o281 P) (.node (o537 P) .nil .nil) .nil) (.node (o409 P) .nil .nil)) (.node (o217 P) (.node (o345 P) .nil .nil) (.node (o473 P) .nil .nil))) (.node (o121 P) (.node (o185 P) (.node (o313 P) (.node (o569 P) .nil .nil) .nil) (.node (o441 P) .nil .nil)) (.node (o249 P) (.node (o377 P) .nil .nil) (.node (o505 P) .nil .nil)))))) (.node (o13 P) (.node (o21 P) (.node (o37 P) (.node (o69 P) (.node (o133 P) (.node (o261 P) (.node (o517 P) .nil .nil) .nil) (.node (o389 P) .nil .nil)) (.node (o197 P) (.node (o325 P) (.node (o581 P) .nil .nil) .nil) (.node (o453 P) .nil .nil))) (.node (o101 P) (.node (o165 P) (.node (o293 P) (.node (o549 P) .nil .nil) .nil) (.node (o421 P) .nil .nil)) (.node (o229 P) (.node (o357 P) .nil .nil) (.node (o485 P) .nil .nil)))) (.node (o53 P) (.node (o85 P) (.node (o149 P) (.node (o277 P) (.node (o533 P) .nil .nil) .nil) (.node (o405 P) .nil .nil)) (.node (o213 P) (.node (o341 P) (.node (o597 P) .nil .nil) .nil) (.node (o469 P) .nil .nil))) (.node (o117 P) (.node (o181 P) (.node (o309 P) (.node (o565 P) .nil .nil) .nil) (.node (o437 P) .nil .nil)) (.node (o245 P) (.node (o373 P) .nil .nil) (.node (o501 P) .nil .nil))))) (.node (o29 P) (.node (o45 P) (.node (o77 P) (.node (o141 P) (.node (o269 P) (.node (o525 P) .nil .nil) .nil) (.node (o397 P) .nil .nil)) (.node (o205 P) (.node (o333 P) (.node (o589 P) .nil .nil) .nil) (.node (o461 P) .nil .nil))) (.node (o109 P) (.node (o173 P) (.node (o301 P) (.node (o557 P) .nil .nil) .nil) (.node (o429 P) .nil .nil)) (.node (o237 P) (.node (o365 P) .nil .nil) (.node (o493 P) .nil .nil)))) (.node (o61 P) (.node (o93 P) (.node (o157 P) (.node (o285 P) (.node (o541 P) .nil .nil) .nil) (.node (o413 P) .nil .nil)) (.node (o221 P) (.node (o349 P) .nil .nil) (.node (o477 P) .nil .nil))) (.node (o125 P) (.node (o189 P) (.node (o317 P) (.node (o573 P) .nil .nil) .nil) (.node (o445 P) .nil .nil)) (.node (o253 P) (.node (o381 P) .nil .nil) (.node (o509 P) .nil .nil)))))))) (.node (o2 P) (.node (o4 P) (.node (o8 P) (.node (o16 P) (.node (o32 P) (.node (o64 P) (.node (o128 P) (.node (o256 P) (.node (o512 P) .nil .nil) .nil) (.node (o384 P) .nil .nil)) (.node (o192 P) (.node (o320 P) (.node (o576 P) .nil .nil) .nil) (.node (o448 P) .nil .nil))) (.node (o96 P) (.node (o160 P) (.node (o288 P) (.node (o544 P) .nil .nil) .nil) (.node (o416 P) .nil .nil)) (.node (o224 P) (.node (o352 P) .nil .nil) (.node (o480 P) .nil .nil)))) (.node (o48 P) (.node (o80 P) (.node (o144 P) (.node (o272 P) (.node (o528 P) .nil .nil) .nil) (.node (o400 P) .nil .nil)) (.node (o208 P) (.node (o336 P) (.node (o592 P) .nil .nil) .nil) (.node (o464 P) .nil .nil))) (.node (o112 P) (.node (o176 P) (.node (o304 P) (.node (o560 P) .nil .nil) .nil) (.node (o432 P) .nil .nil)) (.node (o240 P) (.node (o368 P) .nil .nil) (.node (o496 P) .nil .nil))))) (.node (o24 P) (.node (o40 P) (.node (o72 P) (.node (o136 P) (.node (o264 P) (.node (o520 P) .nil .nil) .nil) (.node (o392 P) .nil .nil)) (.node (o200 P) (.node (o328 P) (.node (o584 P) .nil .nil) .nil) (.node (o456 P) .nil .nil))) (.node (o104 P) (.node (o168 P) (.node (o296 P) (.node (o552 P) .nil .nil) .nil) (.node (o424 P) .nil .nil)) (.node (o232 P) (.node (o360 P) .nil .nil) (.node (o488 P) .nil .nil)))) (.node (o56 P) (.node (o88 P) (.node (o152 P) (.node (o280 P) (.node (o536 P) .nil .nil) .nil) (.node (o408 P) .nil .nil)) (.node (o216 P) (.node (o344 P) (.node (o600 P) .nil .nil) .nil) (.node (o472 P) .nil .nil))) (.node (o120 P) (.node (o184 P) (.node (o312 P) (.node (o568 P) .nil .nil) .nil) (.node (o440 P) .nil .nil)) (.node (o248 P) (.node (o376 P) .nil .nil) (.node (o504 P) .nil .nil)))))) (.node (o12 P) (.node (o20 P) (.node (o36 P) (.node (o68 P) (.node (o132 P) (.node (o260 P) (.node (o516 P) .nil .nil) .nil) (.node (o388 P) .nil .nil)) (.node (o196 P) (.node (o324 P) (.node (o580 P) .nil .nil) .nil) (.node (o452 P) .nil .nil))) (.node (o100 P) (.node (o164 P) (.node (o292 P) (.node (o548 P) .nil .nil) .nil) (.node (o420 P) .nil .nil)) (.node (o228 P) (.node (o356 P) .nil .nil) (.node (o484 P) .nil .nil)))) (.node (o52 P) (.node (o84 P) (.node (o148 P) (.node (o276 P) (.node (o532 P) .nil .nil) .nil) (.node (o404 P) .nil .nil)) (.node (o212 P) (.node (o340 P) (.node (o596 P) .nil .nil) .nil) (.node (o468 P) .nil .nil))) (.node (o116 P) (.node (o180 P) (.node (o308 P) (.node (o564 P) .nil .nil) .nil) (.node (o436 P) .nil .nil)) (.node (o244 P) (.node (o372 P) .nil .nil) (.node (o500 P) .nil .nil))))) (.node (o28 P) (.node (o44 P) (.node (o76 P) (.node (o140 P) (.node (o268 P) (.node (o524 P) .nil .nil) .nil) (.node (o396 P) .nil .nil)) (.node (o204 P) (.node (o332 P) (.node (o588 P) .nil .nil) .nil) (.node (o460 P) .nil .nil))) (.node (o108 P) (.node (o172 P) (.node (o300 P) (.node (o556 P) .nil .nil) .nil) (.node (o428 P) .nil .nil)) (.node (o236 P) (.node (o364 P) .nil .nil) (.node (o492 P) .nil .nil)))) (.node (o60 P) (.node (o92 P) (.node (o156 P) (.node (o284 P) (.node (o540 P) .nil .nil) .nil) (.node (o412 P) .nil .nil)) (.node (o220 P) (.node (o348 P) .nil .nil) (.node (o476 P) .nil .nil))) (.node (o124 P) (.node (o188 P) (.node (o316 P) (.node (o572 P) .nil .nil) .nil) (.node (o444 P) .nil .nil)) (.node (o252 P) (.node (o380 P) .nil .nil) (.node (o508 P) .nil .nil))))))) (.node (o6 P) (.node (o10 P) (.node (o18 P) (.node (o34 P) (.node (o66 P) (.node (o130 P) (.node (o258 P) (.node (o514 P) .nil .nil) .nil) (.node (o386 P) .nil .nil)) (.node (o194 P) (.node (o322 P) (.node (o578 P) .nil .nil) .nil) (.node (o450 P) .nil .nil))) (.node (o98 P) (.node (o162 P) (.node (o290 P) (.node (o546 P) .nil .nil) .nil) (.node (o418 P) .nil .nil)) (.node (o226 P) (.node (o354 P) .nil .nil) (.node (o482 P) .nil .nil)))) (.node (o50 P) (.node (o82 P) (.node (o146 P) (.node (o274 P) (.node (o530 P) .nil .nil) .nil) (.node (o402 P) .nil .nil)) (.node (o210 P) (.node (o338 P) (.node (o594 P) .nil .nil) .nil) (.node (o466 P) .nil .nil))) (.node (o114 P) (.node (o178 P) (.node (o306 P) (.node (o562 P) .nil .nil) .nil) (.node (o434 P) .nil .nil)) (.node (o242 P) (.node (o370 P) .nil .nil) (.node (o498 P) .nil .nil))))) (.node (o26 P) (.node (o42 P) (.node (o74 P) (.node (o138 P) (.node (o266 P) (.node (o522 P) .nil .nil) .nil) (.node (o394 P) .nil .nil)) (.node (o202 P) (.node (o330 P) (.node (o586 P) .nil .nil) .nil) (.node (o458 P) .nil .nil))) (.node (o106 P) (.node (o170 P) (.node (o298 P) (.node (o554 P) .nil .nil) .nil) (.node (o426 P) .nil .nil)) (.node (o234 P) (.node (o362 P) .nil .nil) (.node (o490 P) .nil .nil)))) (.node (o58 P) (.node (o90 P) (.node (o154 P) (.node (o282 P) (.node (o538 P) .nil .nil) .nil) (.node (o410 P) .nil .nil)) (.node (o218 P) (.node (o346 P) .nil .nil) (.node (o474 P) .nil .nil))) (.node (o122 P) (.node (o186 P) (.node (o314 P) (.node (o570 P) .nil .nil) .nil) (.node (o442 P) .nil .nil)) (.node (o250 P) (.node (o378 P) .nil .nil) (.node (o506 P) .nil .nil)))))) (.node (o14 P) (.node (o22 P) (.node (o38 P) (.node (o70 P) (.node (o134 P) (.node (o262 P) (.node (o518 P) .nil .nil) .nil) (.node (o390 P) .nil .nil)) (.node (o198 P) (.node (o326 P) (.node (o582 P) .nil .nil) .nil) (.node (o454 P) .nil .nil))) (.node (o102 P) (.node (o166 P) (.node (o294 P) (.node (o550 P) .nil .nil) .nil) (.node (o422 P) .nil .nil)) (.node (o230 P) (.node (o358 P) .nil .nil) (.node (o486 P) .nil .nil)))) (.node (o54 P) (.node (o86 P) (.node (o150 P) (.node (o278 P) (.node (o534 P) .nil .nil) .nil) (.node (o406 P) .nil .nil)) (.node (o214 P) (.node (o342 P) (.node (o598 P) .nil .nil) .nil) (.node (o470 P) .nil .nil))) (.node (o118 P) (.node (o182 P) (.node (o310 P) (.node (o566 P) .nil .nil) .nil) (.node (o438 P) .nil .nil)) (.node (o246 P) (.node (o374 P) .nil .nil) (.node (o502 P) .nil .nil))))) (.node (o30 P) (.node (o46 P) (.node (o78 P) (.node (o142 P) (.node (o270 P) (.node (o526 P) .nil .nil) .nil) (.node (o398 P) .nil .nil)) (.node (o206 P) (.node (o334 P) (.node (o590 P) .nil .nil) .nil) (.node (o462 P) .nil .nil))) (.node (o110 P) (.node (o174 P) (.node (o302 P) (.node (o558 P) .nil .nil) .nil) (.node (o430 P) .nil .nil)) (.node (o238 P) (.node (o366 P) .nil .nil) (.node (o494 P) .nil .nil)))) (.node (o62 P) (.node (o94 P) (.node (o158 P) (.node (o286 P) (.node (o542 P) .nil .nil) .nil) (.node (o414 P) .nil .nil)) (.node (o222 P) (.node (o350 P) .nil .nil) (.node (o478 P) .nil .nil))) (.node (o126 P) (.node (o190 P) (.node (o318 P) (.node (o574 P) .nil .nil) .nil) (.node (o446 P) .nil .nil)) (.node (o254 P) (.node (o382 P) .nil .nil) (.node (o510 P) .nil .nil)))))))))
noncomputable def m25_3 (P : Params) : Obj := { cls := .type "dict", data := .dict #[⟨PyData.keyHash P (.ofString "__name__"), .str (.ofString "__name__") 165, .str (.ofString "emacs.objects") 387⟩, ⟨PyData.keyHash P (.ofString "__doc__"), .str (.ofString "__doc__") 166, .none⟩, ⟨PyData.keyHash P (.ofString "__package__"), .str (.ofString "__package__") 167, .none⟩, ⟨PyData.keyHash P (.ofString "__loader__"), .str (.ofString "__loader__") 168, .builtin "__main__.__loader__#opaque"⟩, ⟨PyData.keyHash P (.ofString "__spec__"), .str (.ofString "__spec__") 169, .none⟩, ⟨PyData.keyHash P (.ofString "__annotations__"), .str (.ofString "__annotations__") 170, .ref 6⟩, ⟨PyData.keyHash P (.ofString "__builtins__"), .str (.ofString "__builtins__") 171, .ref 4⟩, ⟨PyData.keyHash P (.ofString "__file__"), .str (.ofString "__file__") 173, .str (.ofString "/claim/cut.py") 172⟩, ⟨PyData.keyHash P (.ofString "__cached__"), .str (.ofString "__cached__") 174, .none⟩, ⟨PyData.keyHash P (.ofString "_wall"), .str (.ofString "_wall") 193, .ref 21⟩, ⟨PyData.keyHash P (.ofString "LispSignal"), .str (.ofString "LispSignal") 226, .ref 38⟩, ⟨PyData.keyHash P (.ofString "PERCENT"), .str (.ofString "PERCENT") 230, .int 37 229⟩, ⟨PyData.keyHash P (.ofString "LETTERS"), .str (.ofString "LETTERS") 232, .str (.ofString "sSdoxXc") 231⟩, ⟨PyData.keyHash P (.ofString "LARGEST"), .str (.ofString "LARGEST") 236, .int 65536 235⟩, ⟨PyData.keyHash P (.ofString "Spec"), .str (.ofString "Spec") 272, .ref 58⟩, ⟨PyData.keyHash P (.ofString "number_from"), .str (.ofString "number_from") 281, .ref 69⟩, ⟨PyData.keyHash P (.ofString "take_flags"), .str (.ofString "take_flags") 291, .ref 76⟩, ⟨PyData.keyHash P (.ofString "read_spec"), .str (.ofString "read_spec") 302, .ref 83⟩, ⟨PyData.keyHash P (.ofString "padded"), .str (.ofString "padded") 311, .ref 90⟩, ⟨PyData.keyHash P (.ofString "figures_of"), .str (.ofString "figures_of") 325, .ref 97⟩, ⟨PyData.keyHash P (.ofString "figures_of_formatspecs"), .str (.ofString "figures_of_formatspecs") 326, .ref 97⟩, ⟨PyData.keyHash P (.ofString "number_codes"), .str (.ofString "number_codes") 336, .ref 104⟩, ⟨PyData.keyHash P (.ofString "DIGITS"), .str (.ofString "DIGITS") 340, .str (.ofString "0123456789abcdefghijklmnopqrstuvwxyz") 339⟩, ⟨PyData.keyHash P (.ofString "value_in"), .str (.ofString "value_in") 352, .ref 111⟩, ⟨PyData.keyHash P (.ofString "integer_of"), .str (.ofString "integer_of") 359, .ref 118⟩, ⟨PyData.keyHash P (.ofString "are_figures"), .str (.ofString "are_figures") 365, .ref 123⟩, ⟨PyData.keyHash P (.ofString "is_power"), .str (.ofString "is_power") 372, .ref 130⟩, ⟨PyData.keyHash P (.ofString "is_float"), .str (.ofString "is_float") 386, .ref 137⟩, ⟨PyData.keyHash P (.ofString "Symbol"), .str (.ofString "Symbol") 419, .ref 154⟩, ⟨PyData.keyHash P (.ofString "NIL"), .str (.ofString "NIL") 429, .ref 160⟩, ⟨PyData.keyHash P (.ofString "Cons"), .str (.ofString "Cons") 460, .ref 178⟩] 31 }
noncomputable def m25_12 (P : Params) : Obj := { cls := .none, data := .fields #[.int 1 0, .int 0 0, .ref 20, .int 5 0, .int 0 0, .ref 27, .int 14 0, .int 0 0, .ref 47, .int 26 0, .int 0 0, .ref 68, .int 33 0, .int 0 0, .ref 75, .int 43 0, .int 0 0, .ref 82, .int 58 0, .int 0 0, .ref 89, .int 61 0, .int 0 0, .ref 96, .int 72 0, .int 0 0, .ref 103, .int 85 0, .int 0 0, .ref 110, .int 96 0, .int 0 0, .ref 117, .int 98 0, .int 0 0, .ref 122, .int 100 0, .int 0 0, .ref 129, .int 102 0, .int 0 0, .ref 136, .int 112 0, .int 0 0, .ref 143, .int 118 0, .int 0 0, .ref 167] }
noncomputable def tree25 (P : Params) : BT := (.node (o0 P) (.node (o1 P) (.node (m25_3 P) (.node (o7 P) (.node (o15 P) (.node (o31 P) (.node (o63 P) (.node (o127 P) .nil .nil) .nil) (.node (o95 P) (.node (o159 P) .nil .nil) .nil)) (.node (o47 P) (.node (o79 P) (.node (o143 P) .nil .nil) .nil) (.node (o111 P) (.node (o175 P) .nil .nil) .nil))) (.node (o23 P) (.node (o39 P) (.node (o71 P) (.node (o135 P) .nil .nil) .nil) (.node (o103 P) (.node (o167 P) .nil .nil) .nil)) (.node (o55 P) (.node (o87 P) (.node (o151 P) .nil .nil) .nil) (.node (o119 P) .nil .nil)))) (.node (o11 P) (.node (o19 P) (.node (o35 P) (.node (o67 P) (.node (o131 P) .nil .nil) .nil) (.node (o99 P) (.node (o163 P) .nil .nil) .nil)) (.node (o51 P) (.node (o83 P) (.node (o147 P) .nil .nil) .nil) (.node (o115 P) (.node (o179 P) .nil .nil) .nil))) (.node (o27 P) (.node (o43 P) (.node (o75 P) (.node (o139 P) .nil .nil) .nil) (.node (o107 P) (.node (o171 P) .nil .nil) .nil)) (.node (o59 P) (.node (o91 P) (.node (o155 P) .nil .nil) .nil) (.node (o123 P) .nil .nil))))) (.node (o5 P) (.node (o9 P) (.node (o17 P) (.node (o33 P) (.node (o65 P) (.node (o129 P) .nil .nil) .nil) (.node (o97 P) (.node (o161 P) .nil .nil) .nil)) (.node (o49 P) (.node (o81 P) (.node (o145 P) .nil .nil) .nil) (.node (o113 P) (.node (o177 P) .nil .nil) .nil))) (.node (o25 P) (.node (o41 P) (.node (o73 P) (.node (o137 P) .nil .nil) .nil) (.node (o105 P) (.node (o169 P) .nil .nil) .nil)) (.node (o57 P) (.node (o89 P) (.node (o153 P) .nil .nil) .nil) (.node (o121 P) .nil .nil)))) (.node (o13 P) (.node (o21 P) (.node (o37 P) (.node (o69 P) (.node (o133 P) .nil .nil) .nil) (.node (o101 P) (.node (o165 P) .nil .nil) .nil)) (.node (o53 P) (.node (o85 P) (.node (o149 P) .nil .nil) .nil) (.node (o117 P) (.node (o181 P) .nil .nil) .nil))) (.node (o29 P) (.node (o45 P) (.node (o77 P) (.node (o141 P) .nil .nil) .nil) (.node (o109 P) (.node (o173 P) .nil .nil) .nil)) (.node (o61 P) (.node (o93 P) (.node (o157 P) .nil .nil) .nil) (.node (o125 P) .nil .nil)))))) (.node (o2 P) (.node (o4 P) (.node (o8 P) (.node (o16 P) (.node (o32 P) (.node (o64 P) (.node (o128 P) .nil .nil) .nil) (.node (o96 P) (.node (o160 P) .nil .nil) .nil)) (.node (o48 P) (.node (o80 P) (.node (o144 P) .nil .nil) .nil) (.node (o112 P) (.node (o176 P) .nil .nil) .nil))) (.node (o24 P) (.node (o40 P) (.node (o72 P) (.node (o136 P) .nil .nil) .nil) (.node (o104 P) (.node (o168 P) .nil .nil) .nil)) (.node (o56 P) (.node (o88 P) (.node (o152 P) .nil .nil) .nil) (.node (o120 P) .nil .nil)))) (.node (m25_12 P) (.node (o20 P) (.node (o36 P) (.node (o68 P) (.node (o132 P) .nil .nil) .nil) (.node (o100 P) (.node (o164 P) .nil .nil) .nil)) (.node (o52 P) (.node (o84 P) (.node (o148 P) .nil .nil) .nil) (.node (o116 P) (.node (o180 P) .nil .nil) .nil))) (.node (o28 P) (.node (o44 P) (.node (o76 P) (.node (o140 P) .nil .nil) .nil) (.node (o108 P) (.node (o172 P) .nil .nil) .nil)) (.node (o60 P) (.node (o92 P) (.node (o156 P) .nil .nil) .nil) (.node (o124 P) .nil .nil))))) (.node (o6 P) (.node (o10 P) (.node (o18 P) (.node (o34 P) (.node (o66 P) (.node (o130 P) .nil .nil) .nil) (.node (o98 P) (.node (o162 P) .nil .nil) .nil)) (.node (o50 P) (.node (o82 P) (.node (o146 P) .nil .nil) .nil) (.node (o114 P) (.node (o178 P) .nil .nil) .nil))) (.node (o26 P) (.node (o42 P) (.node (o74 P) (.node (o138 P) .nil .nil) .nil) (.node (o106 P) (.node (o170 P) .nil .nil) .nil)) (.node (o58 P) (.node (o90 P) (.node (o154 P) .nil .nil) .nil) (.node (o122 P) .nil .nil)))) (.node (o14 P) (.node (o22 P) (.node (o38 P) (.node (o70 P) (.node (o134 P) .nil .nil) .nil) (.node (o102 P) (.node (o166 P) .nil .nil) .nil)) (.node (o54 P) (.node (o86 P) (.node (o150 P) .nil .nil) .nil) (.node (o118 P) (.node (o182 P) .nil .nil) .nil))) (.node (o30 P) (.node (o46 P) (.node (o78 P) (.node (o142 P) .nil .nil) .nil) (.node (o110 P) (.node (o174 P) .nil .nil) .nil)) (.node (o62 P) (.node (o94 P) (.node (o158 P) .nil .nil) .nil) (.node (o126 P) .nil .nil)))))))
noncomputable def pos_25 : Pos := ⟨118, 0, 122, 22⟩
noncomputable def sT_25 (w : World) (os : OsState) : SharedT := { tree := tree25 w.params, n := 183, life := {}, gens := { toList := [] }, drawn := {}, toks := 461, os := os }
noncomputable def m42_3 (P : Params) : Obj := { cls := .type "dict", data := .dict #[⟨PyData.keyHash P (.ofString "__name__"), .str (.ofString "__name__") 165, .str (.ofString "emacs.lispprinter") 712⟩, ⟨PyData.keyHash P (.ofString "__doc__"), .str (.ofString "__doc__") 166, .none⟩, ⟨PyData.keyHash P (.ofString "__package__"), .str (.ofString "__package__") 167, .none⟩, ⟨PyData.keyHash P (.ofString "__loader__"), .str (.ofString "__loader__") 168, .builtin "__main__.__loader__#opaque"⟩, ⟨PyData.keyHash P (.ofString "__spec__"), .str (.ofString "__spec__") 169, .none⟩, ⟨PyData.keyHash P (.ofString "__annotations__"), .str (.ofString "__annotations__") 170, .ref 6⟩, ⟨PyData.keyHash P (.ofString "__builtins__"), .str (.ofString "__builtins__") 171, .ref 4⟩, ⟨PyData.keyHash P (.ofString "__file__"), .str (.ofString "__file__") 173, .str (.ofString "/claim/cut.py") 172⟩, ⟨PyData.keyHash P (.ofString "__cached__"), .str (.ofString "__cached__") 174, .none⟩, ⟨PyData.keyHash P (.ofString "_wall"), .str (.ofString "_wall") 193, .ref 21⟩, ⟨PyData.keyHash P (.ofString "LispSignal"), .str (.ofString "LispSignal") 226, .ref 38⟩, ⟨PyData.keyHash P (.ofString "PERCENT"), .str (.ofString "PERCENT") 230, .int 37 229⟩, ⟨PyData.keyHash P (.ofString "LETTERS"), .str (.ofString "LETTERS") 232, .str (.ofString "sSdoxXc") 231⟩, ⟨PyData.keyHash P (.ofString "LARGEST"), .str (.ofString "LARGEST") 236, .int 65536 235⟩, ⟨PyData.keyHash P (.ofString "Spec"), .str (.ofString "Spec") 272, .ref 58⟩, ⟨PyData.keyHash P (.ofString "number_from"), .str (.ofString "number_from") 281, .ref 69⟩, ⟨PyData.keyHash P (.ofString "take_flags"), .str (.ofString "take_flags") 291, .ref 76⟩, ⟨PyData.keyHash P (.ofString "read_spec"), .str (.ofString "read_spec") 302, .ref 83⟩, ⟨PyData.keyHash P (.ofString "padded"), .str (.ofString "padded") 311, .ref 90⟩, ⟨PyData.keyHash P (.ofString "figures_of"), .str (.ofString "figures_of") 325, .ref 97⟩, ⟨PyData.keyHash P (.ofString "figures_of_formatspecs"), .str (.ofString "figures_of_formatspecs") 326, .ref 97⟩, ⟨PyData.keyHash P (.ofString "number_codes"), .str (.ofString "number_codes") 336, .ref 104⟩, ⟨PyData.keyHash P (.ofString "DIGITS"), .str (.ofString "DIGITS") 340, .str (.ofString "0123456789abcdefghijklmnopqrstuvwxyz") 339⟩, ⟨PyData.keyHash P (.ofString "value_in"), .str (.ofString "value_in") 352, .ref 111⟩, ⟨PyData.keyHash P (.ofString "integer_of"), .str (.ofString "integer_of") 359, .ref 118⟩, ⟨PyData.keyHash P (.ofString "are_figures"), .str (.ofString "are_figures") 365, .ref 123⟩, ⟨PyData.keyHash P (.ofString "is_power"), .str (.ofString "is_power") 372, .ref 130⟩, ⟨PyData.keyHash P (.ofString "is_float"), .str (.ofString "is_float") 386, .ref 137⟩, ⟨PyData.keyHash P (.ofString "Symbol"), .str (.ofString "Symbol") 419, .ref 154⟩, ⟨PyData.keyHash P (.ofString "NIL"), .str (.ofString "NIL") 429, .ref 160⟩, ⟨PyData.keyHash P (.ofString "Cons"), .str (.ofString "Cons") 460, .ref 178⟩, ⟨PyData.keyHash P (.ofString "Text"), .str (.ofString "Text") 491, .ref 200⟩, ⟨PyData.keyHash P (.ofString "Vector"), .str (.ofString "Vector") 520, .ref 221⟩, ⟨PyData.keyHash P (.ofString "Subr"), .str (.ofString "Subr") 557, .ref 242⟩, ⟨PyData.keyHash P (.ofString "ByteCode"), .str (.ofString "ByteCode") 586, .ref 263⟩, ⟨PyData.keyHash P (.ofString "Opaque"), .str (.ofString "Opaque") 628, .ref 298⟩, ⟨PyData.keyHash P (.ofString "is_whole"), .str (.ofString "is_whole") 635, .ref 309⟩, ⟨PyData.keyHash P (.ofString "is_shared"), .str (.ofString "is_shared") 644, .ref 316⟩, ⟨PyData.keyHash P (.ofString "parts_of"), .str (.ofString "parts_of") 651, .ref 323⟩, ⟨PyData.keyHash P (.ofString "stands_in"), .str (.ofString "stands_in") 660, .ref 330⟩, ⟨PyData.keyHash P (.ofString "Labels"), .str (.ofString "Labels") 711, .ref 361⟩, ⟨PyData.keyHash P (.ofString "DATUM"), .str (.ofString "DATUM") 715, .int 0 714⟩, ⟨PyData.keyHash P (.ofString "SIGNS"), .str (.ofString "SIGNS") 717, .int 1 716⟩, ⟨PyData.keyHash P (.ofString "ROW"), .str (.ofString "ROW") 719, .int 2 718⟩, ⟨PyData.keyHash P (.ofString "CELLS"), .str (.ofString "CELLS") 721, .int 3 720⟩, ⟨PyData.keyHash P (.ofString "LEFT"), .str (.ofString "LEFT") 723, .int 4 722⟩] 46 }
noncomputable def m42_12 (P : Params) : Obj := { cls := .none, data := .fields #[.int 1 0, .int 0 0, .ref 20, .int 5 0, .int 0 0, .ref 27, .int 14 0, .int 0 0, .ref 47, .int 26 0, .int 0 0, .ref 68, .int 33 0, .int 0 0, .ref 75, .int 43 0, .int 0 0, .ref 82, .int 58 0, .int 0 0, .ref 89, .int 61 0, .int 0 0, .ref 96, .int 72 0, .int 0 0, .ref 103, .int 85 0, .int 0 0, .ref 110, .int 96 0, .int 0 0, .ref 117, .int 98 0, .int 0 0, .ref 122, .int 100 0, .int 0 0, .ref 129, .int 102 0, .int 0 0, .ref 136, .int 112 0, .int 0 0, .ref 143, .int 118 0, .int 0 0, .ref 167, .int 123 0, .int 0 0, .ref 188, .int 128 0, .int 0 0, .ref 210, .int 132 0, .int 0 0, .ref 231, .int 140 0, .int 0 0, .ref 252, .int 144 0, .int 0 0, .ref 273, .int 154 0, .int 0 0, .ref 308, .int 157 0, .int 0 0, .ref 315, .int 159 0, .int 0 0, .ref 322, .int 163 0, .int 0 0, .ref 329, .int 168 0, .int 0 0, .ref 336] }
noncomputable def tree42 (P : Params) : BT := (.node (o0 P) (.node (o1 P) (.node (m42_3 P) (.node (o7 P) (.node (o15 P) (.node (o31 P) (.node (o63 P) (.node (o127 P) (.node (o255 P) .nil .nil) .nil) (.node (o191 P) (.node (o319 P) .nil .nil) .nil)) (.node (o95 P) (.node (o159 P) (.node (o287 P) .nil .nil) .nil) (.node (o223 P) (.node (o351 P) .nil .nil) .nil))) (.node (o47 P) (.node (o79 P) (.node (o143 P) (.node (o271 P) .nil .nil) .nil) (.node (o207 P) (.node (o335 P) .nil .nil) .nil)) (.node (o111 P) (.node (o175 P) (.node (o303 P) .nil .nil) .nil) (.node (o239 P) .nil .nil)))) (.node (o23 P) (.node (o39 P) (.node (o71 P) (.node (o135 P) (.node (o263 P) .nil .nil) .nil) (.node (o199 P) (.node (o327 P) .nil .nil) .nil)) (.node (o103 P) (.node (o167 P) (.node (o295 P) .nil .nil) .nil) (.node (o231 P) (.node (o359 P) .nil .nil) .nil))) (.node (o55 P) (.node (o87 P) (.node (o151 P) (.node (o279 P) .nil .nil) .nil) (.node (o215 P) (.node (o343 P) .nil .nil) .nil)) (.node (o119 P) (.node (o183 P) (.node (o311 P) .nil .nil) .nil) (.node (o247 P) .nil .nil))))) (.node (o11 P) (.node (o19 P) (.node (o35 P) (.node (o67 P) (.node (o131 P) (.node (o259 P) .nil .nil) .nil) (.node (o195 P) (.node (o323 P) .nil .nil) .nil)) (.node (o99 P) (.node (o163 P) (.node (o291 P) .nil .nil) .nil) (.node (o227 P) (.node (o355 P) .nil .nil) .nil))) (.node (o51 P) (.node (o83 P) (.node (o147 P) (.node (o275 P) .nil .nil) .nil) (.node (o211 P) (.node (o339 P) .nil .nil) .nil)) (.node (o115 P) (.node (o179 P) (.node (o307 P) .nil .nil) .nil) (.node (o243 P) .nil .nil)))) (.node (o27 P) (.node (o43 P) (.node (o75 P) (.node (o139 P) (.node (o267 P) .nil .nil) .nil) (.node (o203 P) (.node (o331 P) .nil .nil) .nil)) (.node (o107 P) (.node (o171 P) (.node (o299 P) .nil .nil) .nil) (.node (o235 P) (.node (o363 P) .nil .nil) .nil))) (.node (o59 P) (.node (o91 P) (.node (o155 P) (.node (o283 P) .nil .nil) .nil) (.node (o219 P) (.node (o347 P) .nil .nil) .nil)) (.node (o123 P) (.node (o187 P) (.node (o315 P) .nil .nil) .nil) (.node (o251 P) .nil .nil)))))) (.node (o5 P) (.node (o9 P) (.node (o17 P) (.node (o33 P) (.node (o65 P) (.node (o129 P) (.node (o257 P) .nil .nil) .nil) (.node (o193 P) (.node (o321 P) .nil .nil) .nil)) (.node (o97 P) (.node (o161 P) (.node (o289 P) .nil .nil) .nil) (.node (o225 P) (.node (o353 P) .nil .nil) .nil))) (.node (o49 P) (.node (o81 P) (.node (o145 P) (.node (o273 P) .nil .nil) .nil) (.node (o209 P) (.node (o337 P) .nil .nil) .nil)) (.node (o113 P) (.node (o177 P) (.node (o305 P) .nil .nil) .nil) (.node (o241 P) .nil .nil)))) (.node (o25 P) (.node (o41 P) (.node (o73 P) (.node (o137 P) (.node (o265 P) .nil .nil) .nil) (.node (o201 P) (.node (o329 P) .nil .nil) .nil)) (.node (o105 P) (.node (o169 P) (.node (o297 P) .nil .nil) .nil) (.node (o233 P) (.node (o361 P) .nil .nil) .nil))) (.node (o57 P) (.node (o89 P) (.node (o153 P) (.node (o281 P) .nil .nil) .nil) (.node (o217 P) (.node (o345 P) .nil .nil) .nil)) (.node (o121 P) (.node (o185 P) (.node (o313 P) .nil .nil) .nil) (.node (o249 P) .nil .nil))))) (.node (o13 P) (.node (o21 P) (.node (o37 P) (.node (o69 P) (.node (o133 P) (.node (o261 P) .nil .nil) .nil) (.node (o197 P) (.node (o325 P) .nil .nil) .nil)) (.node (o101 P) (.node (o165 P) (.node (o293 P) .nil .nil) .nil) (.node (o229 P) (.node (o357 P) .nil .nil) .nil))) (.node (o53 P) (.node (o85 P) (.node (o149 P) (.node (o277 P) .nil .nil) .nil) (.node (o213 P) (.node (o341 P) .nil .nil) .nil)) (.node (o117 P) (.node (o181 P) (.node (o309 P) .nil .nil) .nil) (.node (o245 P) .nil .nil)))) (.node (o29 P) (.node (o45 P) (.node (o77 P) (.node (o141 P) (.node (o269 P) .nil .nil) .nil) (.node (o205 P) (.node (o333 P) .nil .nil) .nil)) (.node (o109 P) (.node (o173 P) (.node (o301 P) .nil .nil) .nil) (.node (o237 P) (.node (o365 P) .nil .nil) .nil))) (.node (o61 P) (.node (o93 P) (.node (o157 P) (.node (o285 P) .nil .nil) .nil) (.node (o221 P) (.node (o349 P) .nil .nil) .nil)) (.node (o125 P) (.node (o189 P) (.node (o317 P) .nil .nil) .nil) (.node (o253 P) .nil .nil))))))) (.node (o2 P) (.node (o4 P) (.node (o8 P) (.node (o16 P) (.node (o32 P) (.node (o64 P) (.node (o128 P) (.node (o256 P) .nil .nil) .nil) (.node (o192 P) (.node (o320 P) .nil .nil) .nil)) (.node (o96 P) (.node (o160 P) (.node (o288 P) .nil .nil) .nil) (.node (o224 P) (.node (o352 P) .nil .nil) .nil))) (.node (o48 P) (.node (o80 P) (.node (o144 P) (.node (o272 P) .nil .nil) .nil) (.node (o208 P) (.node (o336 P) .nil .nil) .nil)) (.node (o112 P) (.node (o176 P) (.node (o304 P) .nil .nil) .nil) (.node (o240 P) .nil .nil)))) (.node (o24 P) (.node (o40 P) (.node (o72 P) (.node (o136 P) (.node (o264 P) .nil .nil) .nil) (.node (o200 P) (.node (o328 P) .nil .nil) .nil)) (.node (o104 P) (.node (o168 P) (.node (o296 P) .nil .nil) .nil) (.node (o232 P) (.node (o360 P) .nil .nil) .nil))) (.node (o56 P) (.node (o88 P) (.node (o152 P) (.node (o280 P) .nil .nil) .nil) (.node (o216 P) (.node (o344 P) .nil .nil) .nil)) (.node (o120 P) (.node (o184 P) (.node (o312 P) .nil .nil) .nil) (.node (o248 P) .nil .nil))))) (.node (m42_12 P) (.node (o20 P) (.node (o36 P) (.node (o68 P) (.node (o132 P) (.node (o260 P) .nil .nil) .nil) (.node (o196 P) (.node (o324 P) .nil .nil) .nil)) (.node (o100 P) (.node (o164 P) (.node (o292 P) .nil .nil) .nil) (.node (o228 P) (.node (o356 P) .nil .nil) .nil))) (.node (o52 P) (.node (o84 P) (.node (o148 P) (.node (o276 P) .nil .nil) .nil) (.node (o212 P) (.node (o340 P) .nil .nil) .nil)) (.node (o116 P) (.node (o180 P) (.node (o308 P) .nil .nil) .nil) (.node (o244 P) .nil .nil)))) (.node (o28 P) (.node (o44 P) (.node (o76 P) (.node (o140 P) (.node (o268 P) .nil .nil) .nil) (.node (o204 P) (.node (o332 P) .nil .nil) .nil)) (.node (o108 P) (.node (o172 P) (.node (o300 P) .nil .nil) .nil) (.node (o236 P) (.node (o364 P) .nil .nil) .nil))) (.node (o60 P) (.node (o92 P) (.node (o156 P) (.node (o284 P) .nil .nil) .nil) (.node (o220 P) (.node (o348 P) .nil .nil) .nil)) (.node (o124 P) (.node (o188 P) (.node (o316 P) .nil .nil) .nil) (.node (o252 P) .nil .nil)))))) (.node (o6 P) (.node (o10 P) (.node (o18 P) (.node (o34 P) (.node (o66 P) (.node (o130 P) (.node (o258 P) .nil .nil) .nil) (.node (o194 P) (.node (o322 P) .nil .nil) .nil)) (.node (o98 P) (.node (o162 P) (.node (o290 P) .nil .nil) .nil) (.node (o226 P) (.node (o354 P) .nil .nil) .nil))) (.node (o50 P) (.node (o82 P) (.node (o146 P) (.node (o274 P) .nil .nil) .nil) (.node (o210 P) (.node (o338 P) .nil .nil) .nil)) (.node (o114 P) (.node (o178 P) (.node (o306 P) .nil .nil) .nil) (.node (o242 P) .nil .nil)))) (.node (o26 P) (.node (o42 P) (.node (o74 P) (.node (o138 P) (.node (o266 P) .nil .nil) .nil) (.node (o202 P) (.node (o330 P) .nil .nil) .nil)) (.node (o106 P) (.node (o170 P) (.node (o298 P) .nil .nil) .nil) (.node (o234 P) (.node (o362 P) .nil .nil) .nil))) (.node (o58 P) (.node (o90 P) (.node (o154 P) (.node (o282 P) .nil .nil) .nil) (.node (o218 P) (.node (o346 P) .nil .nil) .nil)) (.node (o122 P) (.node (o186 P) (.node (o314 P) .nil .nil) .nil) (.node (o250 P) .nil .nil))))) (.node (o14 P) (.node (o22 P) (.node (o38 P) (.node (o70 P) (.node (o134 P) (.node (o262 P) .nil .nil) .nil) (.node (o198 P) (.node (o326 P) .nil .nil) .nil)) (.node (o102 P) (.node (o166 P) (.node (o294 P) .nil .nil) .nil) (.node (o230 P) (.node (o358 P) .nil .nil) .nil))) (.node (o54 P) (.node (o86 P) (.node (o150 P) (.node (o278 P) .nil .nil) .nil) (.node (o214 P) (.node (o342 P) .nil .nil) .nil)) (.node (o118 P) (.node (o182 P) (.node (o310 P) .nil .nil) .nil) (.node (o246 P) .nil .nil)))) (.node (o30 P) (.node (o46 P) (.node (o78 P) (.node (o142 P) (.node (o270 P) .nil .nil) .nil) (.node (o206 P) (.node (o334 P) .nil .nil) .nil)) (.node (o110 P) (.node (o174 P) (.node (o302 P) .nil .nil) .nil) (.node (o238 P) .nil .nil))) (.node (o62 P) (.node (o94 P) (.node (o158 P) (.node (o286 P) .nil .nil) .nil) (.node (o222 P) (.node (o350 P) .nil .nil) .nil)) (.node (o126 P) (.node (o190 P) (.node (o318 P) .nil .nil) .nil) (.node (o254 P) .nil .nil))))))))
noncomputable def pos_42 : Pos := ⟨204, 0, 204, 4⟩
noncomputable def sT_42 (w : World) (os : OsState) : SharedT := { tree := tree42 w.params, n := 366, life := {}, gens := { toList := [] }, drawn := {}, toks := 724, os := os }
noncomputable def m43_3 (P : Params) : Obj := { cls := .type "dict", data := .dict #[⟨PyData.keyHash P (.ofString "__name__"), .str (.ofString "__name__") 165, .str (.ofString "emacs.lispprinter") 712⟩, ⟨PyData.keyHash P (.ofString "__doc__"), .str (.ofString "__doc__") 166, .none⟩, ⟨PyData.keyHash P (.ofString "__package__"), .str (.ofString "__package__") 167, .none⟩, ⟨PyData.keyHash P (.ofString "__loader__"), .str (.ofString "__loader__") 168, .builtin "__main__.__loader__#opaque"⟩, ⟨PyData.keyHash P (.ofString "__spec__"), .str (.ofString "__spec__") 169, .none⟩, ⟨PyData.keyHash P (.ofString "__annotations__"), .str (.ofString "__annotations__") 170, .ref 6⟩, ⟨PyData.keyHash P (.ofString "__builtins__"), .str (.ofString "__builtins__") 171, .ref 4⟩, ⟨PyData.keyHash P (.ofString "__file__"), .str (.ofString "__file__") 173, .str (.ofString "/claim/cut.py") 172⟩, ⟨PyData.keyHash P (.ofString "__cached__"), .str (.ofString "__cached__") 174, .none⟩, ⟨PyData.keyHash P (.ofString "_wall"), .str (.ofString "_wall") 193, .ref 21⟩, ⟨PyData.keyHash P (.ofString "LispSignal"), .str (.ofString "LispSignal") 226, .ref 38⟩, ⟨PyData.keyHash P (.ofString "PERCENT"), .str (.ofString "PERCENT") 230, .int 37 229⟩, ⟨PyData.keyHash P (.ofString "LETTERS"), .str (.ofString "LETTERS") 232, .str (.ofString "sSdoxXc") 231⟩, ⟨PyData.keyHash P (.ofString "LARGEST"), .str (.ofString "LARGEST") 236, .int 65536 235⟩, ⟨PyData.keyHash P (.ofString "Spec"), .str (.ofString "Spec") 272, .ref 58⟩, ⟨PyData.keyHash P (.ofString "number_from"), .str (.ofString "number_from") 281, .ref 69⟩, ⟨PyData.keyHash P (.ofString "take_flags"), .str (.ofString "take_flags") 291, .ref 76⟩, ⟨PyData.keyHash P (.ofString "read_spec"), .str (.ofString "read_spec") 302, .ref 83⟩, ⟨PyData.keyHash P (.ofString "padded"), .str (.ofString "padded") 311, .ref 90⟩, ⟨PyData.keyHash P (.ofString "figures_of"), .str (.ofString "figures_of") 325, .ref 97⟩, ⟨PyData.keyHash P (.ofString "figures_of_formatspecs"), .str (.ofString "figures_of_formatspecs") 326, .ref 97⟩, ⟨PyData.keyHash P (.ofString "number_codes"), .str (.ofString "number_codes") 336, .ref 104⟩, ⟨PyData.keyHash P (.ofString "DIGITS"), .str (.ofString "DIGITS") 340, .str (.ofString "0123456789abcdefghijklmnopqrstuvwxyz") 339⟩, ⟨PyData.keyHash P (.ofString "value_in"), .str (.ofString "value_in") 352, .ref 111⟩, ⟨PyData.keyHash P (.ofString "integer_of"), .str (.ofString "integer_of") 359, .ref 118⟩, ⟨PyData.keyHash P (.ofString "are_figures"), .str (.ofString "are_figures") 365, .ref 123⟩, ⟨PyData.keyHash P (.ofString "is_power"), .str (.ofString "is_power") 372, .ref 130⟩, ⟨PyData.keyHash P (.ofString "is_float"), .str (.ofString "is_float") 386, .ref 137⟩, ⟨PyData.keyHash P (.ofString "Symbol"), .str (.ofString "Symbol") 419, .ref 154⟩, ⟨PyData.keyHash P (.ofString "NIL"), .str (.ofString "NIL") 429, .ref 160⟩, ⟨PyData.keyHash P (.ofString "Cons"), .str (.ofString "Cons") 460, .ref 178⟩, ⟨PyData.keyHash P (.ofString "Text"), .str (.ofString "Text") 491, .ref 200⟩, ⟨PyData.keyHash P (.ofString "Vector"), .str (.ofString "Vector") 520, .ref 221⟩, ⟨PyData.keyHash P (.ofString "Subr"), .str (.ofString "Subr") 557, .ref 242⟩, ⟨PyData.keyHash P (.ofString "ByteCode"), .str (.ofString "ByteCode") 586, .ref 263⟩, ⟨PyData.keyHash P (.ofString "Opaque"), .str (.ofString "Opaque") 628, .ref 298⟩, ⟨PyData.keyHash P (.ofString "is_whole"), .str (.ofString "is_whole") 635, .ref 309⟩, ⟨PyData.keyHash P (.ofString "is_shared"), .str (.ofString "is_shared") 644, .ref 316⟩, ⟨PyData.keyHash P (.ofString "parts_of"), .str (.ofString "parts_of") 651, .ref 323⟩, ⟨PyData.keyHash P (.ofString "stands_in"), .str (.ofString "stands_in") 660, .ref 330⟩, ⟨PyData.keyHash P (.ofString "Labels"), .str (.ofString "Labels") 711, .ref 361⟩, ⟨PyData.keyHash P (.ofString "DATUM"), .str (.ofString "DATUM") 715, .int 0 714⟩, ⟨PyData.keyHash P (.ofString "SIGNS"), .str (.ofString "SIGNS") 717, .int 1 716⟩, ⟨PyData.keyHash P (.ofString "ROW"), .str (.ofString "ROW") 719, .int 2 718⟩, ⟨PyData.keyHash P (.ofString "CELLS"), .str (.ofString "CELLS") 721, .int 3 720⟩, ⟨PyData.keyHash P (.ofString "LEFT"), .str (.ofString "LEFT") 723, .int 4 722⟩, ⟨PyData.keyHash P (.ofString "QUOTES"), .str (.ofString "QUOTES") 739, .ref 366⟩] 47 }
noncomputable def m43_12 (P : Params) : Obj := { cls := .none, data := .fields #[.int 1 0, .int 0 0, .ref 20, .int 5 0, .int 0 0, .ref 27, .int 14 0, .int 0 0, .ref 47, .int 26 0, .int 0 0, .ref 68, .int 33 0, .int 0 0, .ref 75, .int 43 0, .int 0 0, .ref 82, .int 58 0, .int 0 0, .ref 89, .int 61 0, .int 0 0, .ref 96, .int 72 0, .int 0 0, .ref 103, .int 85 0, .int 0 0, .ref 110, .int 96 0, .int 0 0, .ref 117, .int 98 0, .int 0 0, .ref 122, .int 100 0, .int 0 0, .ref 129, .int 102 0, .int 0 0, .ref 136, .int 112 0, .int 0 0, .ref 143, .int 118 0, .int 0 0, .ref 167, .int 123 0, .int 0 0, .ref 188, .int 128 0, .int 0 0, .ref 210, .int 132 0, .int 0 0, .ref 231, .int 140 0, .int 0 0, .ref 252, .int 144 0, .int 0 0, .ref 273, .int 154 0, .int 0 0, .ref 308, .int 157 0, .int 0 0, .ref 315, .int 159 0, .int 0 0, .ref 322, .int 163 0, .int 0 0, .ref 329, .int 168 0, .int 0 0, .ref 336] }
noncomputable def tree43 (P : Params) : BT := (.node (o0 P) (.node (o1 P) (.node (m43_3 P) (.node (o7 P) (.node (o15 P) (.node (o31 P) (.node (o63 P) (.node (o127 P) (.node (o255 P) .nil .nil) .nil) (.node (o191 P) (.node (o319 P) .nil .nil) .nil)) (.node (o95 P) (.node (o159 P) (.node (o287 P) .nil .nil) .nil) (.node (o223 P) (.node (o351 P) .nil .nil) .nil))) (.node (o47 P) (.node (o79 P) (.node (o143 P) (.node (o271 P) .nil .nil) .nil) (.node (o207 P) (.node (o335 P) .nil .nil) .nil)) (.node (o111 P) (.node (o175 P) (.node (o303 P) .nil .nil) .nil) (.node (o239 P) .nil .nil)))) (.node (o23 P) (.node (o39 P) (.node (o71 P) (.node (o135 P) (.node (o263 P) .nil .nil) .nil) (.node (o199 P) (.node (o327 P) .nil .nil) .nil)) (.node (o103 P) (.node (o167 P) (.node (o295 P) .nil .nil) .nil) (.node (o231 P) (.node (o359 P) .nil .nil) .nil))) (.node (o55 P) (.node (o87 P) (.node (o151 P) (.node (o279 P) .nil .nil) .nil) (.node (o215 P) (.node (o343 P) .nil .nil) .nil)) (.node (o119 P) (.node (o183 P) (.node (o311 P) .nil .nil) .nil) (.node (o247 P) .nil .nil))))) (.node (o11 P) (.node (o19 P) (.node (o35 P) (.node (o67 P) (.node (o131 P) (.node (o259 P) .nil .nil) .nil) (.node (o195 P) (.node (o323 P) .nil .nil) .nil)) (.node (o99 P) (.node (o163 P) (.node (o291 P) .nil .nil) .nil) (.node (o227 P) (.node (o355 P) .nil .nil) .nil))) (.node (o51 P) (.node (o83 P) (.node (o147 P) (.node (o275 P) .nil .nil) .nil) (.node (o211 P) (.node (o339 P) .nil .nil) .nil)) (.node (o115 P) (.node (o179 P) (.node (o307 P) .nil .nil) .nil) (.node (o243 P) .nil .nil)))) (.node (o27 P) (.node (o43 P) (.node (o75 P) (.node (o139 P) (.node (o267 P) .nil .nil) .nil) (.node (o203 P) (.node (o331 P) .nil .nil) .nil)) (.node (o107 P) (.node (o171 P) (.node (o299 P) .nil .nil) .nil) (.node (o235 P) (.node (o363 P) .nil .nil) .nil))) (.node (o59 P) (.node (o91 P) (.node (o155 P) (.node (o283 P) .nil .nil) .nil) (.node (o219 P) (.node (o347 P) .nil .nil) .nil)) (.node (o123 P) (.node (o187 P) (.node (o315 P) .nil .nil) .nil) (.node (o251 P) .nil .nil)))))) (.node (o5 P) (.node (o9 P) (.node (o17 P) (.node (o33 P) (.node (o65 P) (.node (o129 P) (.node (o257 P) .nil .nil) .nil) (.node (o193 P) (.node (o321 P) .nil .nil) .nil)) (.node (o97 P) (.node (o161 P) (.node (o289 P) .nil .nil) .nil) (.node (o225 P) (.node (o353 P) .nil .nil) .nil))) (.node (o49 P) (.node (o81 P) (.node (o145 P) (.node (o273 P) .nil .nil) .nil) (.node (o209 P) (.node (o337 P) .nil .nil) .nil)) (.node (o113 P) (.node (o177 P) (.node (o305 P) .nil .nil) .nil) (.node (o241 P) .nil .nil)))) (.node (o25 P) (.node (o41 P) (.node (o73 P) (.node (o137 P) (.node (o265 P) .nil .nil) .nil) (.node (o201 P) (.node (o329 P) .nil .nil) .nil)) (.node (o105 P) (.node (o169 P) (.node (o297 P) .nil .nil) .nil) (.node (o233 P) (.node (o361 P) .nil .nil) .nil))) (.node (o57 P) (.node (o89 P) (.node (o153 P) (.node (o281 P) .nil .nil) .nil) (.node (o217 P) (.node (o345 P) .nil .nil) .nil)) (.node (o121 P) (.node (o185 P) (.node (o313 P) .nil .nil) .nil) (.node (o249 P) .nil .nil))))) (.node (o13 P) (.node (o21 P) (.node (o37 P) (.node (o69 P) (.node (o133 P) (.node (o261 P) .nil .nil) .nil) (.node (o197 P) (.node (o325 P) .nil .nil) .nil)) (.node (o101 P) (.node (o165 P) (.node (o293 P) .nil .nil) .nil) (.node (o229 P) (.node (o357 P) .nil .nil) .nil))) (.node (o53 P) (.node (o85 P) (.node (o149 P) (.node (o277 P) .nil .nil) .nil) (.node (o213 P) (.node (o341 P) .nil .nil) .nil)) (.node (o117 P) (.node (o181 P) (.node (o309 P) .nil .nil) .nil) (.node (o245 P) .nil .nil)))) (.node (o29 P) (.node (o45 P) (.node (o77 P) (.node (o141 P) (.node (o269 P) .nil .nil) .nil) (.node (o205 P) (.node (o333 P) .nil .nil) .nil)) (.node (o109 P) (.node (o173 P) (.node (o301 P) .nil .nil) .nil) (.node (o237 P) (.node (o365 P) .nil .nil) .nil))) (.node (o61 P) (.node (o93 P) (.node (o157 P) (.node (o285 P) .nil .nil) .nil) (.node (o221 P) (.node (o349 P) .nil .nil) .nil)) (.node (o125 P) (.node (o189 P) (.node (o317 P) .nil .nil) .nil) (.node (o253 P) .nil .nil))))))) (.node (o2 P) (.node (o4 P) (.node (o8 P) (.node (o16 P) (.node (o32 P) (.node (o64 P) (.node (o128 P) (.node (o256 P) .nil .nil) .nil) (.node (o192 P) (.node (o320 P) .nil .nil) .nil)) (.node (o96 P) (.node (o160 P) (.node (o288 P) .nil .nil) .nil) (.node (o224 P) (.node (o352 P) .nil .nil) .nil))) (.node (o48 P) (.node (o80 P) (.node (o144 P) (.node (o272 P) .nil .nil) .nil) (.node (o208 P) (.node (o336 P) .nil .nil) .nil)) (.node (o112 P) (.node (o176 P) (.node (o304 P) .nil .nil) .nil) (.node (o240 P) .nil .nil)))) (.node (o24 P) (.node (o40 P) (.node (o72 P) (.node (o136 P) (.node (o264 P) .nil .nil) .nil) (.node (o200 P) (.node (o328 P) .nil .nil) .nil)) (.node (o104 P) (.node (o168 P) (.node (o296 P) .nil .nil) .nil) (.node (o232 P) (.node (o360 P) .nil .nil) .nil))) (.node (o56 P) (.node (o88 P) (.node (o152 P) (.node (o280 P) .nil .nil) .nil) (.node (o216 P) (.node (o344 P) .nil .nil) .nil)) (.node (o120 P) (.node (o184 P) (.node (o312 P) .nil .nil) .nil) (.node (o248 P) .nil .nil))))) (.node (m43_12 P) (.node (o20 P) (.node (o36 P) (.node (o68 P) (.node (o132 P) (.node (o260 P) .nil .nil) .nil) (.node (o196 P) (.node (o324 P) .nil .nil) .nil)) (.node (o100 P) (.node (o164 P) (.node (o292 P) .nil .nil) .nil) (.node (o228 P) (.node (o356 P) .nil .nil) .nil))) (.node (o52 P) (.node (o84 P) (.node (o148 P) (.node (o276 P) .nil .nil) .nil) (.node (o212 P) (.node (o340 P) .nil .nil) .nil)) (.node (o116 P) (.node (o180 P) (.node (o308 P) .nil .nil) .nil) (.node (o244 P) .nil .nil)))) (.node (o28 P) (.node (o44 P) (.node (o76 P) (.node (o140 P) (.node (o268 P) .nil .nil) .nil) (.node (o204 P) (.node (o332 P) .nil .nil) .nil)) (.node (o108 P) (.node (o172 P) (.node (o300 P) .nil .nil) .nil) (.node (o236 P) (.node (o364 P) .nil .nil) .nil))) (.node (o60 P) (.node (o92 P) (.node (o156 P) (.node (o284 P) .nil .nil) .nil) (.node (o220 P) (.node (o348 P) .nil .nil) .nil)) (.node (o124 P) (.node (o188 P) (.node (o316 P) .nil .nil) .nil) (.node (o252 P) .nil .nil)))))) (.node (o6 P) (.node (o10 P) (.node (o18 P) (.node (o34 P) (.node (o66 P) (.node (o130 P) (.node (o258 P) .nil .nil) .nil) (.node (o194 P) (.node (o322 P) .nil .nil) .nil)) (.node (o98 P) (.node (o162 P) (.node (o290 P) .nil .nil) .nil) (.node (o226 P) (.node (o354 P) .nil .nil) .nil))) (.node (o50 P) (.node (o82 P) (.node (o146 P) (.node (o274 P) .nil .nil) .nil) (.node (o210 P) (.node (o338 P) .nil .nil) .nil)) (.node (o114 P) (.node (o178 P) (.node (o306 P) .nil .nil) .nil) (.node (o242 P) .nil .nil)))) (.node (o26 P) (.node (o42 P) (.node (o74 P) (.node (o138 P) (.node (o266 P) .nil .nil) .nil) (.node (o202 P) (.node (o330 P) .nil .nil) .nil)) (.node (o106 P) (.node (o170 P) (.node (o298 P) .nil .nil) .nil) (.node (o234 P) (.node (o362 P) .nil .nil) .nil))) (.node (o58 P) (.node (o90 P) (.node (o154 P) (.node (o282 P) .nil .nil) .nil) (.node (o218 P) (.node (o346 P) .nil .nil) .nil)) (.node (o122 P) (.node (o186 P) (.node (o314 P) .nil .nil) .nil) (.node (o250 P) .nil .nil))))) (.node (o14 P) (.node (o22 P) (.node (o38 P) (.node (o70 P) (.node (o134 P) (.node (o262 P) .nil .nil) .nil) (.node (o198 P) (.node (o326 P) .nil .nil) .nil)) (.node (o102 P) (.node (o166 P) (.node (o294 P) .nil .nil) .nil) (.node (o230 P) (.node (o358 P) .nil .nil) .nil))) (.node (o54 P) (.node (o86 P) (.node (o150 P) (.node (o278 P) .nil .nil) .nil) (.node (o214 P) (.node (o342 P) .nil .nil) .nil)) (.node (o118 P) (.node (o182 P) (.node (o310 P) .nil .nil) .nil) (.node (o246 P) .nil .nil)))) (.node (o30 P) (.node (o46 P) (.node (o78 P) (.node (o142 P) (.node (o270 P) .nil .nil) .nil) (.node (o206 P) (.node (o334 P) .nil .nil) .nil)) (.node (o110 P) (.node (o174 P) (.node (o302 P) .nil .nil) .nil) (.node (o238 P) (.node (o366 P) .nil .nil) .nil))) (.node (o62 P) (.node (o94 P) (.node (o158 P) (.node (o286 P) .nil .nil) .nil) (.node (o222 P) (.node (o350 P) .nil .nil) .nil)) (.node (o126 P) (.node (o190 P) (.node (o318 P) .nil .nil) .nil) (.node (o254 P) .nil .nil))))))))
noncomputable def pos_43 : Pos := ⟨205, 0, 205, 6⟩
noncomputable def sT_43 (w : World) (os : OsState) : SharedT := { tree := tree43 w.params, n := 367, life := {}, gens := { toList := [] }, drawn := {}, toks := 740, os := os }
noncomputable def heapK : Params → Frag := fun P => (nat_lit 2, o2 P) :: (nat_lit 3, o3 P) :: (nat_lit 15, o15 P) :: (nat_lit 17, o17 P) :: (nat_lit 18, o18 P) :: (nat_lit 20, o20 P) :: (nat_lit 21, o21 P) :: (nat_lit 22, o22 P) :: (nat_lit 29, o29 P) :: (nat_lit 31, o31 P) :: (nat_lit 32, o32 P) :: (nat_lit 34, o34 P) :: (nat_lit 35, o35 P) :: (nat_lit 36, o36 P) :: (nat_lit 37, o37 P) :: (nat_lit 38, o38 P) :: (nat_lit 39, o39 P) :: (nat_lit 49, o49 P) :: (nat_lit 51, o51 P) :: (nat_lit 52, o52 P) :: (nat_lit 54, o54 P) :: (nat_lit 55, o55 P) :: (nat_lit 56, o56 P) :: (nat_lit 57, o57 P) :: (nat_lit 58, o58 P) :: (nat_lit 59, o59 P) :: (nat_lit 60, o60 P) :: (nat_lit 63, o63 P) :: (nat_lit 65, o65 P) :: (nat_lit 66, o66 P) :: (nat_lit 68, o68 P) :: (nat_lit 69, o69 P) :: (nat_lit 70, o70 P) :: (nat_lit 72, o72 P) :: (nat_lit 73, o73 P) :: (nat_lit 75, o75 P) :: (nat_lit 76, o76 P) :: (nat_lit 77, o77 P) :: (nat_lit 79, o79 P) :: (nat_lit 80, o80 P) :: (nat_lit 82, o82 P) :: (nat_lit 83, o83 P) :: (nat_lit 84, o84 P) :: (nat_lit 86, o86 P) :: (nat_lit 87, o87 P) :: (nat_lit 89, o89 P) :: (nat_lit 90, o90 P) :: (nat_lit 91, o91 P) :: (nat_lit 93, o93 P) :: (nat_lit 94, o94 P) :: (nat_lit 96, o96 P) :: (nat_lit 97, o97 P) :: (nat_lit 98, o98 P) :: (nat_lit 100, o100 P) :: (nat_lit 101, o101 P) :: (nat_lit 103, o103 P) :: (nat_lit 104, o104 P) :: (nat_lit 105, o105 P) :: (nat_lit 107, o107 P) :: (nat_lit 108, o108 P) :: (nat_lit 110, o110 P) :: (nat_lit 111, o111 P) :: (nat_lit 112, o112 P) :: (nat_lit 114, o114 P) :: (nat_lit 115, o115 P) :: (nat_lit 117, o117 P) :: (nat_lit 118, o118 P) :: (nat_lit 119, o119 P) :: (nat_lit 122, o122 P) :: (nat_lit 123, o123 P) :: (nat_lit 124, o124 P) :: (nat_lit 126, o126 P) :: (nat_lit 127, o127 P) :: (nat_lit 129, o129 P) :: (nat_lit 130, o130 P) :: (nat_lit 131, o131 P) :: (nat_lit 133, o133 P) :: (nat_lit 134, o134 P) :: (nat_lit 136, o136 P) :: (nat_lit 137, o137 P) :: (nat_lit 145, o145 P) :: (nat_lit 147, o147 P) :: (nat_lit 148, o148 P) :: (nat_lit 150, o150 P) :: (nat_lit 151, o151 P) :: (nat_lit 152, o152 P) :: (nat_lit 153, o153 P) :: (nat_lit 154, o154 P) :: (nat_lit 155, o155 P) :: (nat_lit 156, o156 P) :: (nat_lit 159, o159 P) :: (nat_lit 160, o160 P) :: (nat_lit 169, o169 P) :: (nat_lit 171, o171 P) :: (nat_lit 172, o172 P) :: (nat_lit 174, o174 P) :: (nat_lit 175, o175 P) :: (nat_lit 176, o176 P) :: (nat_lit 177, o177 P) :: (nat_lit 178, o178 P) :: (nat_lit 179, o179 P) :: (nat_lit 180, o180 P) :: (nat_lit 190, o190 P) :: (nat_lit 191, o191 P) :: (nat_lit 193, o193 P) :: (nat_lit 194, o194 P) :: (nat_lit 196, o196 P) :: (nat_lit 197, o197 P) :: (nat_lit 198, o198 P) :: (nat_lit 199, o199 P) :: (nat_lit 200, o200 P) :: (nat_lit 201, o201 P) :: (nat_lit 202, o202 P) :: (nat_lit 212, o212 P) :: (nat_lit 214, o214 P) :: (nat_lit 215, o215 P) :: (nat_lit 217, o217 P) :: (nat_lit 218, o218 P) :: (nat_lit 219, o219 P) :: (nat_lit 220, o220 P) :: (nat_lit 221, o221 P) :: (nat_lit 222, o222 P) :: (nat_lit 223, o223 P) :: (nat_lit 233, o233 P) :: (nat_lit 235, o235 P) :: (nat_lit 236, o236 P) :: (nat_lit 238, o238 P) :: (nat_lit 239, o239 P) :: (nat_lit 240, o240 P) :: (nat_lit 241, o241 P) :: (nat_lit 242, o242 P) :: (nat_lit 243, o243 P) :: (nat_lit 244, o244 P) :: (nat_lit 254, o254 P) :: (nat_lit 256, o256 P) :: (nat_lit 257, o257 P) :: (nat_lit 259, o259 P) :: (nat_lit 260, o260 P) :: (nat_lit 261, o261 P) :: (nat_lit 262, o262 P) :: (nat_lit 263, o263 P) :: (nat_lit 264, o264 P) :: (nat_lit 265, o265 P) :: (nat_lit 275, o275 P) :: (nat_lit 277, o277 P) :: (nat_lit 278, o278 P) :: (nat_lit 280, o280 P) :: (nat_lit 281, o281 P) :: (nat_lit 282, o282 P) :: (nat_lit 284, o284 P) :: (nat_lit 285, o285 P) :: (nat_lit 287, o287 P) :: (nat_lit 288, o288 P) :: (nat_lit 289, o289 P) :: (nat_lit 291, o291 P) :: (nat_lit 292, o292 P) :: (nat_lit 294, o294 P) :: (nat_lit 295, o295 P) :: (nat_lit 296, o296 P) :: (nat_lit 297, o297 P) :: (nat_lit 298, o298 P) :: (nat_lit 299, o299 P) :: (nat_lit 300, o300 P) :: (nat_lit 303, o303 P) :: (nat_lit 305, o305 P) :: (nat_lit 306, o306 P) :: (nat_lit 308, o308 P) :: (nat_lit 309, o309 P) :: (nat_lit 310, o310 P) :: (nat_lit 312, o312 P) :: (nat_lit 313, o313 P) :: (nat_lit 315, o315 P) :: (nat_lit 316, o316 P) :: (nat_lit 317, o317 P) :: (nat_lit 319, o319 P) :: (nat_lit 320, o320 P) :: (nat_lit 322, o322 P) :: (nat_lit 323, o323 P) :: (nat_lit 324, o324 P) :: (nat_lit 326, o326 P) :: (nat_lit 327, o327 P) :: (nat_lit 329, o329 P) :: (nat_lit 330, o330 P) :: (nat_lit 338, o338 P) :: (nat_lit 340, o340 P) :: (nat_lit 341, o341 P) :: (nat_lit 343, o343 P) :: (nat_lit 344, o344 P) :: (nat_lit 345, o345 P) :: (nat_lit 347, o347 P) :: (nat_lit 348, o348 P) :: (nat_lit 350, o350 P) :: (nat_lit 351, o351 P) :: (nat_lit 352, o352 P) :: (nat_lit 354, o354 P) :: (nat_lit 355, o355 P) :: (nat_lit 357, o357 P) :: (nat_lit 358, o358 P) :: (nat_lit 359, o359 P) :: (nat_lit 360, o360 P) :: (nat_lit 361, o361 P) :: (nat_lit 362, o362 P) :: (nat_lit 363, o363 P) :: (nat_lit 366, o366 P) :: (nat_lit 367, o367 P) :: (nat_lit 375, o375 P) :: (nat_lit 377, o377 P) :: (nat_lit 378, o378 P) :: (nat_lit 380, o380 P) :: (nat_lit 381, o381 P) :: (nat_lit 382, o382 P) :: (nat_lit 383, o383 P) :: (nat_lit 384, o384 P) :: (nat_lit 385, o385 P) :: (nat_lit 386, o386 P) :: (nat_lit 389, o389 P) :: (nat_lit 392, o392 P) :: (nat_lit 393, o393 P) :: (nat_lit 394, o394 P) :: (nat_lit 396, o396 P) :: (nat_lit 397, o397 P) :: (nat_lit 399, o399 P) :: (nat_lit 400, o400 P) :: (nat_lit 401, o401 P) :: (nat_lit 403, o403 P) :: (nat_lit 404, o404 P) :: (nat_lit 406, o406 P) :: (nat_lit 407, o407 P) :: (nat_lit 408, o408 P) :: (nat_lit 410, o410 P) :: (nat_lit 411, o411 P) :: (nat_lit 413, o413 P) :: (nat_lit 414, o414 P) :: (nat_lit 415, o415 P) :: (nat_lit 417, o417 P) :: (nat_lit 418, o418 P) :: (nat_lit 420, o420 P) :: (nat_lit 421, o421 P) :: (nat_lit 422, o422 P) :: (nat_lit 424, o424 P) :: (nat_lit 425, o425 P) :: (nat_lit 427, o427 P) :: (nat_lit 428, o428 P) :: (nat_lit 436, o436 P) :: (nat_lit 438, o438 P) :: (nat_lit 439, o439 P) :: (nat_lit 441, o441 P) :: (nat_lit 442, o442 P) :: (nat_lit 443, o443 P) :: (nat_lit 445, o445 P) :: (nat_lit 446, o446 P) :: (nat_lit 448, o448 P) :: (nat_lit 449, o449 P) :: (nat_lit 450, o450 P) :: (nat_lit 452, o452 P) :: (nat_lit 453, o453 P) :: (nat_lit 455, o455 P) :: (nat_lit 456, o456 P) :: (nat_lit 457, o457 P) :: (nat_lit 459, o459 P) :: (nat_lit 460, o460 P) :: (nat_lit 462, o462 P) :: (nat_lit 463, o463 P) :: (nat_lit 464, o464 P) :: (nat_lit 466, o466 P) :: (nat_lit 467, o467 P) :: (nat_lit 469, o469 P) :: (nat_lit 470, o470 P) :: (nat_lit 471, o471 P) :: (nat_lit 473, o473 P) :: (nat_lit 474, o474 P) :: (nat_lit 476, o476 P) :: (nat_lit 477, o477 P) :: (nat_lit 478, o478 P) :: (nat_lit 480, o480 P) :: (nat_lit 481, o481 P) :: (nat_lit 483, o483 P) :: (nat_lit 484, o484 P) :: (nat_lit 485, o485 P) :: (nat_lit 487, o487 P) :: (nat_lit 488, o488 P) :: (nat_lit 490, o490 P) :: (nat_lit 491, o491 P) :: (nat_lit 492, o492 P) :: (nat_lit 494, o494 P) :: (nat_lit 495, o495 P) :: (nat_lit 497, o497 P) :: (nat_lit 498, o498 P) :: (nat_lit 499, o499 P) :: (nat_lit 500, o500 P) :: (nat_lit 501, o501 P) :: (nat_lit 502, o502 P) :: (nat_lit 503, o503 P) :: (nat_lit 506, o506 P) :: (nat_lit 508, o508 P) :: (nat_lit 509, o509 P) :: (nat_lit 511, o511 P) :: (nat_lit 512, o512 P) :: (nat_lit 513, o513 P) :: (nat_lit 515, o515 P) :: (nat_lit 516, o516 P) :: (nat_lit 518, o518 P) :: (nat_lit 519, o519 P) :: (nat_lit 520, o520 P) :: (nat_lit 522, o522 P) :: (nat_lit 523, o523 P) :: (nat_lit 525, o525 P) :: (nat_lit 526, o526 P) :: (nat_lit 527, o527 P) :: (nat_lit 529, o529 P) :: (nat_lit 530, o530 P) :: (nat_lit 532, o532 P) :: (nat_lit 533, o533 P) :: (nat_lit 534, o534 P) :: (nat_lit 536, o536 P) :: (nat_lit 537, o537 P) :: (nat_lit 539, o539 P) :: (nat_lit 540, o540 P) :: (nat_lit 541, o541 P) :: (nat_lit 543, o543 P) :: (nat_lit 544, o544 P) :: (nat_lit 546, o546 P) :: (nat_lit 547, o547 P) :: (nat_lit 548, o548 P) :: (nat_lit 551, o551 P) :: (nat_lit 552, o552 P) :: (nat_lit 553, o553 P) :: (nat_lit 555, o555 P) :: (nat_lit 556, o556 P) :: (nat_lit 558, o558 P) :: (nat_lit 559, o559 P) :: (nat_lit 560, o560 P) :: (nat_lit 563, o563 P) :: (nat_lit 564, o564 P) :: (nat_lit 565, o565 P) :: (nat_lit 568, o568 P) :: (nat_lit 569, o569 P) :: (nat_lit 570, o570 P) :: (nat_lit 572, o572 P) :: (nat_lit 573, o573 P) :: (nat_lit 575, o575 P) :: (nat_lit 576, o576 P) :: (nat_lit 577, o577 P) :: (nat_lit 579, o579 P) :: (nat_lit 580, o580 P) :: (nat_lit 582, o582 P) :: (nat_lit 583, o583 P) :: (nat_lit 584, o584 P) :: (nat_lit 587, o587 P) :: (nat_lit 588, o588 P) :: (nat_lit 589, o589 P) :: (nat_lit 591, o591 P) :: (nat_lit 592, o592 P) :: (nat_lit 594, o594 P) :: (nat_lit 595, o595 P) :: (nat_lit 596, o596 P) :: (nat_lit 599, o599 P) :: (nat_lit 600, o600 P) :: []
noncomputable def heapA : List Addr := [2, 3, 15, 17, 18, 20, 21, 22, 29, 31, 32, 34, 35, 36, 37, 38, 39, 49, 51, 52, 54, 55, 56, 57, 58, 59, 60, 63, 65, 66, 68, 69, 70, 72, 73, 75, 76, 77, 79, 80, 82, 83, 84, 86, 87, 89, 90, 91, 93, 94, 96, 97, 98, 100, 101, 103, 104, 105, 107, 108, 110, 111, 112, 114, 115, 117, 118, 119, 122, 123, 124, 126, 127, 129, 130, 131, 133, 134, 136, 137, 145, 147, 148, 150, 151, 152, 153, 154, 155, 156, 159, 160, 169, 171, 172, 174, 175, 176, 177, 178, 179, 180, 190, 191, 193, 194, 196, 197, 198, 199, 200, 201, 202, 212, 214, 215, 217, 218, 219, 220, 221, 222, 223, 233, 235, 236, 238, 239, 240, 241, 242, 243, 244, 254, 256, 257, 259, 260, 261, 262, 263, 264, 265, 275, 277, 278, 280, 281, 282, 284, 285, 287, 288, 289, 291, 292, 294, 295, 296, 297, 298, 299, 300, 303, 305, 306, 308, 309, 310, 312, 313, 315, 316, 317, 319, 320, 322, 323, 324, 326, 327, 329, 330, 338, 340, 341, 343, 344, 345, 347, 348, 350, 351, 352, 354, 355, 357, 358, 359, 360, 361, 362, 363, 366, 367, 375, 377, 378, 380, 381, 382, 383, 384, 385, 386, 389, 392, 393, 394, 396, 397, 399, 400, 401, 403, 404, 406, 407, 408, 410, 411, 413, 414, 415, 417, 418, 420, 421, 422, 424, 425, 427, 428, 436, 438, 439, 441, 442, 443, 445, 446, 448, 449, 450, 452, 453, 455, 456, 457, 459, 460, 462, 463, 464, 466, 467, 469, 470, 471, 473, 474, 476, 477, 478, 480, 481, 483, 484, 485, 487, 488, 490, 491, 492, 494, 495, 497, 498, 499, 500, 501, 502, 503, 506, 508, 509, 511, 512, 513, 515, 516, 518, 519, 520, 522, 523, 525, 526, 527, 529, 530, 532, 533, 534, 536, 537, 539, 540, 541, 543, 544, 546, 547, 548, 551, 552, 553, 555, 556, 558, 559, 560, 563, 564, 565, 568, 569, 570, 572, 573, 575, 576, 577, 579, 580, 582, 583, 584, 587, 588, 589, 591, 592, 594, 595, 596, 599, 600]
noncomputable def viewQ : Program := view prg [0, 2, 4, 5, 6, 7, 8, 9, 10, 11, 13, 14, 16, 17, 18, 19, 20, 21, 23, 24, 25, 26, 27, 28, 29, 30, 31, 33, 34, 35, 36, 38, 39, 40, 41, 42, 43, 44, 45, 46, 47, 48, 49, 50, 51, 52, 53, 54, 55, 56, 58, 59, 60, 62, 63, 64, 65, 66, 67, 68, 69, 70]
noncomputable def looseQ : List Str := ["LARGEST", "figures_of_formatspecs", "NIL", "QUOTES", "figures_of_lispprinter"]
noncomputable def readQ : List (Str × WData) := [("LARGEST", WData.int 65536)]
noncomputable abbrev hookK : Hook := kHook heapK heapA (fun _ => by kernel_rfl)
noncomputable abbrev rowK := PySem.Challenge.rw_np0086_01.row
noncomputable abbrev xtK (s : Shared) : Bool := xlAt viewQ readQ s && recOk (RowW.records rowK.toRowW) s
end
end Mine
namespace Mine
noncomputable section
/-! ## The top's run -/
section
variable {p q : Program} {loose : List Str} {Xt : Shared → Bool} {α : Type} {Yf : Shared → α} {Ya : World → α} {N : Nat} {H₀ : Params → Heap} {gs₀ : Array GenState} {d₀ : Drawn} {k₀ : Nat} {m₀ : Nat} {ann : Option Value} {M : Nat}
noncomputable abbrev looksAt (p q : Program) (loose : List Str) (Xt : Shared → Bool) (H₀ : Params → Heap) (Yf : Shared → α) (w : World) (s : Shared) :=
  (staticsOk (importedModules p.main.body) (H₀ w.params) s.heap && namesBound p s.heap && gensDone s && laidKept (H₀ w.params) s.heap, openSeen q loose (importedModules p.main.body) Xt true s, Yf s)
theorem leftO_at
    (open_ : ∀ w : World, (fencedOpening treeTable p w N).map (fun s => (s.heap, s.gens, s.drawn, s.toks)) = some (H₀ w.params, gs₀, d₀, k₀))
    (size : ∀ w : World, ((H₀ w.params).isNs mainGlobals && gs₀.size == 0, (H₀ w.params).objs.size, (H₀ w.params).nsMap mainGlobals "__annotations__") = (true, m₀, ann))
    (run : ∀ (w : World) (os : OsState), (topRun treeTable p w m₀ ann M ⟨H₀ w.params, gs₀, d₀, k₀, os⟩ (topStub p)).map (looksAt p q loose Xt H₀ Yf w) = some (true, openGood q loose, Ya w)) (le : Nat.ble M N = true) :
    LeftO p q loose Xt Yf Ya N true := fun w => by
  obtain ⟨⟨h, gs, d, k, os⟩, e, e'⟩ := Option.map_eq_some_iff.mp (open_ w)
  obtain ⟨rfl, rfl, rfl, rfl⟩ : h = H₀ w.params ∧ gs = gs₀ ∧ d = d₀ ∧ k = k₀ := by simpa using e'
  obtain ⟨z1, z2, z3⟩ : _ ∧ _ ∧ _ := by simpa only [Prod.mk.injEq] using size w
  obtain ⟨s₁, hr, hl⟩ := Option.map_eq_some_iff.mp (run w os)
  obtain ⟨l1, l2, l3⟩ : _ ∧ _ ∧ _ := by simpa only [looksAt, Prod.mk.injEq] using hl
  have r := topRun_mono (N - M) _ _ _ _ hr
  rw [show M + (N - M) = N by have := Nat.le_of_ble_eq_true le; omega] at r
  have t : topFrom treeTable p w N ⟨H₀ w.params, gs, d, k, os⟩ = some s₁ := by
    unfold topFrom
    dsimp only
    rw [z1, z2, z3, r]
    show (match staticsOk (importedModules p.main.body) (H₀ w.params) s₁.heap && namesBound p s₁.heap && gensDone s₁ && laidKept (H₀ w.params) s₁.heap with | true => _ | false => _) = _
    rw [l1]
  unfold openEnds
  rw [e]
  show (topFrom treeTable p w N _).map _ = _
  rw [t]
  exact congrArg some (Prod.ext l2 l3)
end
noncomputable def env0 : Env := { scope := prg.main.scope, locals := mainNs, globals := mainNs, cells := [], code := .ref 13, frame := some 14 }
noncomputable def bodyC : Code := Code.body (behindTheImports prg) env0
noncomputable def pos0 : Pos := ⟨0, 0, 0, 0⟩
noncomputable def pos1 : Pos := ⟨481, 0, 502, 33⟩
noncomputable def oB11 : Obj := { cls := .type "tuple", data := .seq #[] }
noncomputable def oB12 : Obj := { cls := .none, data := .fields #[] }
noncomputable def oB13 : Obj := { cls := .type "code", data := .fields #[.str "<module>" 182, .str "<module>" 183, .str "/claim/cut.py" 184, .int 1 0, .int 0 0, .int 0 0, .int 0 0, .int 0 0, .ref 11, .bool false, .int 181 0, .ref 12, .none, .none, .none, .none, .int 185 0, .int 1 0, .str "/claim/cut.py" 186] }
noncomputable def oB14 : Obj := { cls := .type "frame", slots := #[some (.ref 13), some (.ref 3), some (.ref 3), none, some (.str "__main__" 164), none, some (.ref 0)] }
noncomputable def heap0 (P : Params) : Heap := ⟨⟨[boot_o_0 P, boot_o_1 P, boot_o_2 P, boot_o_3 P, boot_o_4 P, boot_o_5 P, boot_o_6 P, boot_o_7 P, boot_o_8 P, boot_o_9 P, boot_o_10 P, oB11, oB12, oB13, oB14]⟩, {}⟩
noncomputable def tree0 (P : Params) : BT :=
  .node (boot_o_0 P)
    (.node (boot_o_1 P)
      (.node (boot_o_3 P) (.node (boot_o_7 P) .nil .nil) (.node oB11 .nil .nil))
      (.node (boot_o_5 P) (.node (boot_o_9 P) .nil .nil) (.node oB13 .nil .nil)))
    (.node (boot_o_2 P)
      (.node (boot_o_4 P) (.node (boot_o_8 P) .nil .nil) (.node oB12 .nil .nil))
      (.node (boot_o_6 P) (.node (boot_o_10 P) .nil .nil) (.node oB14 .nil .nil)))
noncomputable def sT0 (w : World) (os : OsState) : SharedT := { tree := tree0 w.params, n := 15, life := {}, gens := { toList := [] }, drawn := {}, toks := 187, os := os }
theorem top_pre (w : World) (os : OsState) : topGo treeTable prg w 11 (some (.ref 6)) 12 ⟨boot_heap w.params, Array.mk [], boot_drawn, boot_toks, os⟩ (topStub prg) =
    some (⟨heap0 w.params, { toList := [] }, {}, 187, os⟩, ⟨denote treeTable bodyC, bodyC, pos0, [topFrame pos0]⟩) := by kernel_rfl
theorem top_block (w : World) (os : OsState) : segRun treeTable prg w 11 (some (.ref 6)) 1 1 ⟨heap0 w.params, { toList := [] }, {}, 187, os⟩ (blockOf (behindTheImports prg) env0 bodyC pos0 [topFrame pos0]) =
    some (.next, (sT0 w os).abs, bodyC, pos0) := by kernel_rfl
theorem top_fin (w : World) (s : Shared) : topRun treeTable prg w 11 (some (.ref 6)) 2 s ⟨doneF .next, bodyC, pos1, [topFrame pos0]⟩ = some s := by
  obtain ⟨h, g, d, t, os⟩ := s
  kernel_rfl
/-! ### The top in four pieces: the world is asked in the third alone -/
noncomputable def stsA : List Stmt := (behindTheImports prg).take 26
noncomputable def resA : List Stmt := (behindTheImports prg).drop 26
noncomputable def stsB : List Stmt := resA.take 17
noncomputable def resB : List Stmt := resA.drop 17
noncomputable def stsC : List Stmt := resB.take 1
noncomputable def stsD : List Stmt := resB.drop 1
noncomputable abbrev thrOf (l : List Stmt) (q : Pos) : Thread := piecesOf l env0 bodyC q [topFrame pos0]
noncomputable abbrev rowAsked : String := "special-get-raises"
noncomputable def sT1 (w : World) (os : OsState) : SharedT := { tree := treeF w.params, n := 601, life := {}, gens := { toList := [] }, drawn := {}, toks := 1095, os := os }
noncomputable abbrev runAtF (n : Nat) (w : World) (s : SharedT) (t : Thread) := PySem.W.Fast.tw10110043849684766642 PySem.W.Fast.tw14364793385576792824 prg w 11 (some (.ref 6)) 1 n s t
theorem check_A (w : World) (os : OsState) : runAtF 1600 w (sT0 w os) (thrOf stsA pos0) = some (.next, sT_25 w os, bodyC, pos_25) := by kernel_rfl
theorem check_B (w : World) (os : OsState) : runAtF 1800 w (sT_25 w os) (thrOf stsB pos_25) = some (.next, sT_42 w os, bodyC, pos_42) := by kernel_rfl
theorem check_false (w : World) (os : OsState) : runAtF 200 (w.withFollow rowAsked false) (sT_42 (w.withFollow rowAsked false) os) (thrOf stsC pos_42) = some (.next, sT_43 (w.withFollow rowAsked false) os, bodyC, pos_43) := by kernel_rfl
theorem check_true (w : World) (os : OsState) : runAtF 200 (w.withFollow rowAsked true) (sT_42 (w.withFollow rowAsked true) os) (thrOf stsC pos_42) = some (.next, sT_43 (w.withFollow rowAsked true) os, bodyC, pos_43) := by kernel_rfl
theorem check_D (w : World) (os : OsState) : runAtF 1600 w (sT_43 w os) (thrOf stsD pos_43) = some (.next, sT1 w os, bodyC, pos1) := by kernel_rfl
theorem check_C (w : World) : ∀ os, runAtF 200 w (sT_42 w os) (thrOf stsC pos_42) = some (.next, sT_43 w os, bodyC, pos_43) :=
  byRow2 rowAsked (P := fun w => ∀ os, runAtF 200 w (sT_42 w os) (thrOf stsC pos_42) = some (.next, sT_43 w os, bodyC, pos_43)) check_false check_true w
theorem seg_at {n : Nat} {w : World} {s s' : SharedT} {l : List Stmt} {q q' : Pos} (h : runAtF n w s (thrOf l q) = some (.next, s', bodyC, q')) :
    segRun treeTable prg w 11 (some (.ref 6)) 1 n s.abs (thrOf l q) = some (.next, s'.abs, bodyC, q') := by
  have hr : segRunT treeTable prg w 11 (some (.ref 6)) 1 n s (thrOf l q) = some (.next, s', bodyC, q') := by
    rw [PySem.W.Fast.te10110043849684766642, PySem.W.Fast.te14364793385576792824]
    exact h
  exact segRun_of hr
theorem look_a (w : World) (os : OsState) : (staticsOk (importedModules prg.main.body) (boot_heap w.params) (sT1 w os).abs.heap && namesBound prg (sT1 w os).abs.heap && gensDone (sT1 w os).abs && laidKept (boot_heap w.params) (sT1 w os).abs.heap) = true := by kernel_rfl
theorem look_join {α β γ δ ε ζ : Type} {a a' : α} {b b' : β} {c c' : γ} {d d' : δ} {e e' : ε} {f f' : ζ} (x : (a, b) = (a', b')) (y : c = c') (z : (d, e) = (d', e')) (v : f = f') {η : Type} {g g' : η} (u : g = g') : (a, b, c, d, e, f, g) = (a', b', c', d', e', f', g') := by
  cases x; cases z; rw [y, v, u]
theorem look_b1 (w : World) (os : OsState) : (PySem.W.Fast.tw5160383126252970620 (R.mapR (fun x => x.name) (PySem.W.Fast.tw3399658132070893891 viewQ)) (PySem.W.Fast.tw5991557255702980513 viewQ) [] { (sT1 w os).abs with gens := #[] }, (sT1 w os).abs.heap.bltView) = (expectedOf viewQ, bltViewBooted) := by kernel_rfl

theorem look_b2 (w : World) (os : OsState) : (PySem.W.Fast.tw10880121769531294198 (sT1 w os).abs.heap (PySem.W.Fast.tw821141287760084731 viewQ looseQ) (R.mapR (fun x => x.name) (PySem.W.Fast.tw3399658132070893891 viewQ)) (R.mapR (fun x => x.fst) (PySem.W.Fast.tw7409074990110511671 viewQ)) (R.mapR (fun x => x.name) (PySem.W.Fast.tw13664370479719496447 viewQ (PySem.W.Fast.tw821141287760084731 viewQ looseQ))) && PySem.W.Fast.tw14722251495701143533 (sT1 w os).abs.heap (importedModules prg.main.body) && (sT1 w os).abs.heap.isNs mainGlobals && (sT1 w os).abs.heap.isNs builtinsNs && PySem.W.Fast.tw10994771534591457954 viewQ (sT1 w os).abs.heap && xtK (sT1 w os).abs && if true = true then (sT1 w os).abs.gens.size == 0 else !leftWithCleanup (sT1 w os).abs.gens) = true := by kernel_rfl

theorem look_b3 (w : World) (os : OsState) : (PySem.W.Fast.tw479339242167458305 viewQ (sT1 w os).abs, PySem.W.Fast.tw16090120013241838585 viewQ (PySem.W.Fast.tw3247288618530077131 viewQ) (sT1 w os).abs) = (true, pinGoodD (drecsOf viewQ)) := by kernel_rfl
theorem look_b4 (w : World) (os : OsState) : PySem.W.Fast.tw2386780881361962483 viewQ (PySem.W.Fast.tw821141287760084731 viewQ looseQ) (sT1 w os).abs = plainGoodE viewQ (looseW viewQ looseQ) := by kernel_rfl
theorem look_b5 (w : World) (os : OsState) : (PySem.W.Fast.tw11698064438423848299 viewQ looseQ (sT1 w os).abs, PySem.W.Fast.tw7317090234206586261 viewQ (sT1 w os).abs, PySem.W.Fast.tw7369524293546568484 viewQ looseQ (sT1 w os).abs) = (plainGoodD viewQ looseQ, wideGood viewQ, clsGoodW viewQ looseQ) := by kernel_rfl
theorem look_b (w : World) (os : OsState) : PySem.W.Fast.tw4187177175401517315 viewQ looseQ (importedModules prg.main.body) xtK true (sT1 w os).abs = openGood viewQ looseQ := by
  delta PySem.W.Fast.tw4187177175401517315 openGood
  exact look_join (look_b1 w os) (look_b2 w os) (look_b3 w os) (look_b4 w os) (look_b5 w os)
theorem look_c (w : World) (os : OsState) : hookK.obs (sT1 w os).abs = hookK.val w := by kernel_rfl
theorem run_of (w : World) (os : OsState) :
    (topRun treeTable prg w 11 (some (.ref 6)) (12 + (1 + (1600 + (1800 + (200 + (1600 + 2)))))) ⟨boot_heap w.params, Array.mk [], boot_drawn, boot_toks, os⟩ (topStub prg)).map (looksAt prg viewQ looseQ xtK boot_heap hookK.obs w) = some (true, openGood viewQ looseQ, hookK.val w) := by
  have kD := piece_app (l := stsD) (rest := []) (env := env0) (q := pos0) (seg_at (check_D w os)) (piece_nil (top_fin w (sT1 w os).abs))
  rw [List.append_nil] at kD
  have kC := piece_app (l := stsC) (rest := stsD) (env := env0) (q := pos0) (seg_at (check_C w os)) kD
  rw [show stsC ++ stsD = resB from List.take_append_drop 1 resB] at kC
  have kB := piece_app (l := stsB) (rest := resB) (env := env0) (q := pos0) (seg_at (check_B w os)) kC
  rw [show stsB ++ resB = resA from List.take_append_drop 17 resA] at kB
  have kA := piece_app (l := stsA) (rest := resA) (env := env0) (q := pos0) (seg_at (check_A w os)) kB
  rw [show stsA ++ resA = behindTheImports prg from List.take_append_drop 26 _] at kA
  have k2 := piece_block (q := pos0) (env := env0) (top_block w os) kA
  have k3 := go_top (top_pre w os) k2
  rw [k3]
  have hb : openSeen viewQ looseQ (importedModules prg.main.body) xtK true (sT1 w os).abs = openGood viewQ looseQ := by
    rw [PySem.W.Fast.te4187177175401517315]
    exact look_b w os
  exact congrArg some (Prod.ext (look_a w os) (Prod.ext hb (look_c w os)))
theorem leftK : LeftO prg viewQ looseQ xtK hookK.obs hookK.val 9456 true :=
  leftO_at (M := 12 + (1 + (1600 + (1800 + (200 + (1600 + 2)))))) (boot_open (by kernel_rfl) (by rfl) (fun _ => rfl)) (fun w => by kernel_rfl) run_of (by rfl)
noncomputable def lawD : DefRec := { name := "law", params := p600, body := b600, scope := s600, pos := ⟨481, 0, 502, 33⟩ }
theorem said_a : PySem.W.Fast.tw11788848310118352699 (PySem.W.Fast.tw2368527892694137696 PySem.Challenge.rw_np0086_01).prog.main = true := by kernel_rfl
theorem said_b : PySem.W.Fast.tw8377067652309620493 (PySem.W.Fast.tw2368527892694137696 PySem.Challenge.rw_np0086_01).prog = true := by kernel_rfl
theorem said_c : (@R.allR Str (PySem.W.Fast.tw18344453789297297638 (PySem.W.Fast.tw2368527892694137696 PySem.Challenge.rw_np0086_01).prog) fun n => (@PySem.W.Fast.tw3471404346716756564 Str (@instBEqOfDecidableEq Str PySem.W.Fast.sDec) PySem.W.Fast.tw14412699480532031325 n).not) = true := by kernel_rfl
theorem said_d : PySem.W.Fast.tw8326940854005059898 { strict := (@R.allR Str (PySem.W.Fast.tw5923862056798008813 (PySem.W.Fast.tw2368527892694137696 PySem.Challenge.rw_np0086_01).prog.main.body) (@PySem.W.Fast.tw3471404346716756564 Str (@instBEqOfDecidableEq Str PySem.W.Fast.sDec) PySem.W.Fast.tw17691160309236699985)).not, foot := none, bare := @R.filterR Str (PySem.W.Fast.tw13343964577679436407 (PySem.W.Fast.tw2368527892694137696 PySem.Challenge.rw_np0086_01).prog (PySem.W.Fast.tw2368527892694137696 PySem.Challenge.rw_np0086_01).prog.main.body) [{ cps := Array.mk [nat_lit 118, nat_lit 97, nat_lit 114, nat_lit 115] }, { cps := Array.mk [nat_lit 100, nat_lit 105, nat_lit 114] }, { cps := Array.mk [nat_lit 108, nat_lit 111, nat_lit 99, nat_lit 97, nat_lit 108, nat_lit 115] }] } (PySem.W.Fast.tw2368527892694137696 PySem.Challenge.rw_np0086_01).prog.main.body = true := by kernel_rfl
theorem said : OpenLaw.wellSaid PySem.Challenge.rw_np0086_01 = true := by
  rw [PySem.W.Fast.te9446332074065402090]
  delta PySem.W.Fast.tw9446332074065402090
  with_reducible repeat' refine look_both ?_ ?_
  delta PySem.W.Fast.tw17960256430627541270
  with_reducible repeat' refine look_both ?_ ?_
  delta PySem.W.Fast.tw2436336058641802641
  with_reducible repeat' refine look_both ?_ ?_
  delta PySem.W.Fast.tw12908688711261696721
  with_reducible repeat' refine look_both ?_ ?_
  all_goals first | with_reducible exact said_a | with_reducible exact said_b | with_reducible exact said_c | with_reducible exact said_d | kernel_rfl
theorem hd (walk : WalkO viewQ looseQ (XL viewQ readQ) hookK.says rowK.toRowW lawD [] fun f vs => PySem.call f vs) : PySem.Challenge.rw_np0086_01.Holds :=
  holds_law said fun ok => holds_open (q := viewQ) (loose := looseQ) (Xt := xtK) (XP := XL viewQ readQ) (Yf := hookK.obs) (Ya := hookK.val) (YP := hookK.says) (N := 9456) (d := lawD) (kwd := []) leftK hookK.of hookK.keeps
    (fun s e => xl_of s (Bool.and_eq_true_iff.mp e).1) XL.keeps (by kernel_rfl) (by kernel_rfl) (by kernel_rfl) (fun s e => recFacts_of (Bool.and_eq_true_iff.mp e).2) rfl ok (by decide +kernel) ⟨rfl, rfl, rfl, rfl, rfl, by decide +kernel⟩
    ⟨[WData.list []], by decide +kernel, by decide +kernel⟩ walk
end
end Mine
namespace Mine
section
/-! ## The ground of a call -/
/-- what the caller has back: its frame, the callee's objects and the rest of its own -/
structure Back (h₀ : Heap) (L : Addr) (m : Str → Option Value) (rest news' : List (Addr × Obj)) (h' : Heap) : Prop where
  fr : Fr h₀ L h' m
  nw : News h₀ L h' (news' ++ rest)
  off : ∀ q ∈ news', ∀ r ∈ rest, q.1 ≠ r.1

theorem off1_of {D : Addr} {l : List (Addr × Obj)} (h : ∀ q ∈ l, q.1 ≠ D) : LCg.Off1 D l := by
  induction l with
  | nil => exact True.intro
  | cons q r ih => exact ⟨h q List.mem_cons_self, ih fun p hp => h p (List.mem_cons_of_mem _ hp)⟩
theorem off1_mem {D : Addr} {l : List (Addr × Obj)} (h : LCg.Off1 D l) : ∀ q ∈ l, q.1 ≠ D := by
  induction l with
  | nil => exact fun q hq => absurd hq List.not_mem_nil
  | cons q r ih =>
    intro p hp
    rcases List.mem_cons.mp hp with rfl | hp
    · exact h.1
    · exact ih h.2 p hp
section
variable {h₀ : Heap} {L : Addr} {m : Str → Option Value} {rest news' : List (Addr × Obj)} {h' : Heap}
theorem Back.one (b : Back h₀ L m rest news' h') {r : Addr} {o : Obj} (hm : (r, o) ∈ news') : News h₀ L h' ((r, o) :: rest) := fun q hq => b.nw q (by
  rcases List.mem_cons.mp hq with rfl | hq
  · exact List.mem_append_left _ hm
  · exact List.mem_append_right _ hq)
theorem Back.off1 (b : Back h₀ L m rest news' h') {r : Addr} {o : Obj} (hm : (r, o) ∈ news') : LCg.Off1 r rest := off1_of fun q hq => Ne.symm (b.off _ hm q hq)
theorem Back.none (b : Back h₀ L m rest news' h') : News h₀ L h' rest := fun q hq => b.nw q (List.mem_append_right _ hq)
end

noncomputable def BRet (g : Heap) (L' : Addr) (P : Value → List (Addr × Obj) → Shared → Prop) (fl : Flow) (s' : Shared) : Prop :=
  ∃ m' news', Fr g L' s'.heap m' ∧ News g L' s'.heap news' ∧ P (match fl with | .ret v => v | _ => .none) news' s'
noncomputable def BErr (M : Model) (A : Around) (env : Env) (E : Value → Shared → Prop) (e : Value) (s' : Shared) : Prop :=
  wpAny M A (leaving env e) (fun _ s'' => E e s'') (fun e' s'' => E e' s'') s'

section
variable {prog : Program} {w : World} {A₀ A : Around} {s : Shared} {base h₀ : Heap} {outer : List Env} {L : Addr} {m : Str → Option Value} {env : Env} {news : List (Addr × Obj)} {K : Frag}
  {Q E : Value → Shared → Prop} {name qual : Str} {params : Arguments} {body : List Stmt} {scope : Scope} {dV kV doc pm cdv ct oc : Value} {an od : Option Addr} {osl : Array (Option Value)} {f : Addr} {vals : List Value} {binds : List (Str × Value)}
  {p : Program} {loose : List Str} {mean : ExcName → Option Value} {mg mb : Str → Option Value}

theorem enterC {R : Result → Shared → Prop} (B : Below A₀ base outer h₀) (F : Fr h₀ L s.heap m) (X₀ : K.In h₀) (N : News h₀ L s.heap news) (T : Top p loose mean mg mb h₀) (D rest : List (Addr × Obj)) (hD : ∀ q ∈ D, q ∈ news) (hrest : ∀ q ∈ rest, q ∈ news ∧ q.1 ∉ D.map (·.1))
    (hA : A.frames = some (env :: outer)) (hf : env.frame = some L) (hke : env.scope.kind = .function)
    (ho : K.lookup f = some ⟨oc, od, .func (fnOf name qual params body scope dV kV doc pm an cdv ct), osl⟩) (hcd : codeIn K cdv qual = true) (hroom : A.depth < recursionLimit)
    (hbind : BindsTo s (fnOf name qual params body scope dV kV doc pm an cdv ct) ⟨vals, []⟩ binds) (hloc : ∀ y ∈ binds, scope.names.lookup y.1 = some .local)
    (h : ∀ g L' h₁ tk (PQ : Flow → Shared → Prop) (PE : Value → Shared → Prop), GSub s.heap g (D.map (·.1)) → Fr g L' h₁ (fun y => binds.reverse.lookup y) → News g L' h₁ D → Below A base (env :: outer) g → K.In g → Top p loose mean mg mb g →
      (∀ fl s', BRet g L' (fun v news' s' => Back h₀ L m rest news' s'.heap → R (.ok (.ret v)) s') fl s' → PQ fl s') →
      PassesOwn (model prog w) (A.deeper (envOf qual scope L' f cdv)) (envOf qual scope L' f cdv) PE →
      (∀ e s', BErr (model prog w) (A.deeper (envOf qual scope L' f cdv)) (envOf qual scope L' f cdv) (fun e s' => R (.error e) s') e s' → PE e s') →
      wpAny (model prog w) (A.deeper (envOf qual scope L' f cdv)) (execs body (envOf qual scope L' f cdv)) PQ PE { s with heap := h₁, toks := tk })
    (hco : scope.isCoroutine = false) (hgen : scope.isGenerator = false) (hk : scope.kind = .function)
    (hcell : ∀ x ∈ scope.names, x.2 ≠ .cell) : codeAny (model prog w) A (.call (.ref f) ⟨vals, []⟩) R s := by
  refine code_defG B F X₀ (N := fun q hq => N q (hD q hq)) T hA hf hke ho hcd hroom hbind hloc (fun g L' h₁ FG F' N' B' X' T' G => ?_) hco hgen hk hcell
  refine wpAny_mono (h g L' h₁ _ (BRet g L' fun v news' s' => Back h₀ L m rest news' s'.heap → R (.ok (.ret v)) s') (BErr (model prog w) (A.deeper (envOf qual scope L' f cdv)) (envOf qual scope L' f cdv) (fun e s' => R (.error e) s')) G F' N' B' X' T' (fun _ _ x => x) PassesOwn.leaving fun _ _ x => x) (fun fl s' hl => ?_) fun _ _ e => e
  obtain ⟨m', news', F'', N'', k⟩ := hl
  refine ⟨L', m', news', F'', N'', fun F₁ N₁ => ?_⟩
  have b : Back h₀ L m rest news' s'.heap := ?_
  · have z := k b
    cases fl <;> exact z
  refine ⟨F₁, fun q hq => ?_, fun q hq r hr e => ?_⟩
  · rcases List.mem_append.mp hq with hq | hq
    · exact N₁ q hq
    · have z := N q (hrest q hq).1
      exact ⟨F''.keep _ _ (G _ _ z.1 (hrest q hq).2), z.2⟩
  · have z := G _ _ (N r (hrest r hr).1).1 (hrest r hr).2
    have y := (N'' q hq).2.2
    rw [e, z] at y
    cases y
theorem enterD (B : Below A₀ base outer h₀) (F : Fr h₀ L s.heap m) (X₀ : K.In h₀) (N : News h₀ L s.heap news) (T : Top p loose mean mg mb h₀) (D rest : List (Addr × Obj)) (hD : ∀ q ∈ D, q ∈ news) (hrest : ∀ q ∈ rest, q ∈ news ∧ q.1 ∉ D.map (·.1))
    (hA : A.frames = some (env :: outer)) (hf : env.frame = some L) (hke : env.scope.kind = .function)
    (ho : K.lookup f = some ⟨oc, od, .func (fnOf name qual params body scope dV kV doc pm an cdv ct), osl⟩) (hcd : codeIn K cdv qual = true) (hroom : A.depth < recursionLimit)
    (hbind : BindsTo s (fnOf name qual params body scope dV kV doc pm an cdv ct) ⟨vals, []⟩ binds) (hloc : ∀ y ∈ binds, scope.names.lookup y.1 = some .local)
    (h : ∀ g L' h₁ tk (PQ : Flow → Shared → Prop) (PE : Value → Shared → Prop), GSub s.heap g (D.map (·.1)) → Fr g L' h₁ (fun y => binds.reverse.lookup y) → News g L' h₁ D → Below A base (env :: outer) g → K.In g → Top p loose mean mg mb g →
      (∀ fl s', BRet g L' (fun v news' s' => Back h₀ L m rest news' s'.heap → Q v s') fl s' → PQ fl s') →
      PassesOwn (model prog w) (A.deeper (envOf qual scope L' f cdv)) (envOf qual scope L' f cdv) PE →
      (∀ e s', BErr (model prog w) (A.deeper (envOf qual scope L' f cdv)) (envOf qual scope L' f cdv) E e s' → PE e s') →
      wpAny (model prog w) (A.deeper (envOf qual scope L' f cdv)) (execs body (envOf qual scope L' f cdv)) PQ PE { s with heap := h₁, toks := tk })
    (hco : scope.isCoroutine = false) (hgen : scope.isGenerator = false) (hk : scope.kind = .function)
    (hcell : ∀ x ∈ scope.names, x.2 ≠ .cell) : wpAny (model prog w) A (call (.ref f) vals) Q E s :=
  wpAny_call (enterC B F X₀ N T D rest hD hrest hA hf hke ho hcd hroom hbind hloc h hco hgen hk hcell)
end
/-! ## A frame's names, as many as are known -/
noncomputable def Has (m : Str → Option Value) : List (Str × Value) → Prop
  | [] => True
  | q :: r => m q.1 = some q.2 ∧ Has m r
noncomputable def over (m : Str → Option Value) : List (Str × Value) → Str → Option Value
  | [], y => m y
  | q :: r, y => if y = q.1 then some q.2 else over m r y
theorem Has.over {m : Str → Option Value} {l : List (Str × Value)} (h : Has m l) : over m l = m := by
  induction l with
  | nil => rfl
  | cons q r ih =>
    funext y
    show (if y = q.1 then some q.2 else Mine.over m r y) = m y
    rw [ih h.2]
    split
    · rename_i e; rw [e]; exact h.1.symm
    · rfl
theorem Has.fr {g h : Heap} {L : Addr} {m : Str → Option Value} {l : List (Str × Value)} (x : Has m l) (F : Fr g L h m) : Fr g L h (Mine.over m l) := by
  rw [x.over]; exact F
noncomputable def Led (news l : List (Addr × Obj)) : Prop := ∀ q ∈ l, q ∈ news
theorem Led.nw {g h : Heap} {L : Addr} {news l : List (Addr × Obj)} (x : Led news l) (N : News g L h news) : News g L h l := fun q hq => N q (x q hq)
/-! ## Cuts: what is known between two statements -/
noncomputable def JAt (g : Heap) (L : Addr) (s : Shared) (J : (Str → Option Value) → List (Addr × Obj) → Prop) (s' : Shared) : Prop :=
  ∃ h' tk m' news', s' = { s with heap := h', toks := tk } ∧ Fr g L h' m' ∧ News g L h' news' ∧ J m' news'
noncomputable def Nxt (g : Heap) (L : Addr) (s : Shared) (J : (Str → Option Value) → List (Addr × Obj) → Prop) (Q : Flow → Shared → Prop) (fl : Flow) (s' : Shared) : Prop :=
  match fl with
  | .next => JAt g L s J s'
  | f => Q f s'
noncomputable def WTurn (g : Heap) (L : Addr) (s : Shared) (J : Nat → (Str → Option Value) → List (Addr × Obj) → Prop) (Jx : (Str → Option Value) → List (Addr × Obj) → Prop) (Q : Flow → Shared → Prop) (n : Nat) (fl : Flow) (s' : Shared) : Prop :=
  match fl with
  | .next | .cont => ∃ n', n' < n ∧ JAt g L s (J n') s'
  | .brk => JAt g L s Jx s'
  | .ret v => Q (.ret v) s'
section
variable {prog : Program} {w : World} {A : Around} {E : Value → Shared → Prop} {Q : Flow → Shared → Prop} {s : Shared} {env : Env} {g : Heap} {L : Addr} {m : Str → Option Value} {news : List (Addr × Obj)}
theorem cut (J : (Str → Option Value) → List (Addr × Obj) → Prop) {st : Stmt} {rest : List Stmt}
    (h : wpAny (model prog w) A (exec st env) (Nxt g L s J Q) E s)
    (k : ∀ h' tk m' news', Fr g L h' m' → News g L h' news' → J m' news' → wpAny (model prog w) A (execs rest env) Q E { s with heap := h', toks := tk }) :
    wpAny (model prog w) A (execs (st :: rest) env) Q E s := by
  refine wpAny_execs_cons (wpAny_mono h (fun fl s' x => ?_) fun _ _ e => e)
  cases fl with
  | next =>
    obtain ⟨h', tk, m', news', rfl, F, N, hJ⟩ := x
    exact k h' tk m' news' F N hJ
  | brk => exact x
  | cont => exact x
  | ret v => exact x
theorem whileCut {test : Expr} {body rest : List Stmt} {pos : Pos} (J : Nat → (Str → Option Value) → List (Addr × Obj) → Prop) (Jx : (Str → Option Value) → List (Addr × Obj) → Prop) {n₀ : Nat}
    (F : Fr g L s.heap m) (N : News g L s.heap news) (hJ : J n₀ m news)
    (turn : ∀ n m₁ news₁ h₁ tk₁, Fr g L h₁ m₁ → News g L h₁ news₁ → J n m₁ news₁ →
      wpAny (model prog w) A (isTrue test env (eval test env)) (fun b s₂ =>
        if b = true then wpAny (model prog w) A (execs body env) (WTurn g L { s with heap := h₁, toks := tk₁ } J Jx Q n) E s₂ else JAt g L { s with heap := h₁, toks := tk₁ } Jx s₂) E { s with heap := h₁, toks := tk₁ })
    (k : ∀ h' tk m' news', Fr g L h' m' → News g L h' news' → Jx m' news' → wpAny (model prog w) A (execs rest env) Q E { s with heap := h', toks := tk })
    (hE : PassesOwn (model prog w) A env E) :
    wpAny (model prog w) A (execs (.While test body [] pos :: rest) env) Q E s := by
  refine cut (g := g) (L := L) Jx ?_ k
  refine While_inv2 J F N hJ (fun n m₁ news₁ h₁ tk₁ F₁ N₁ j => ?_) hE
  refine wpAny_mono (turn n m₁ news₁ h₁ tk₁ F₁ N₁ j) (fun b s₂ x => ?_) fun _ _ e => e
  cases b with
  | false =>
    simp only [Bool.false_eq_true, if_false] at x ⊢
    exact x
  | true =>
    simp only [if_true] at x ⊢
    refine wpAny_mono x (fun fl s₃ y => ?_) fun _ _ e => e
    cases fl with
    | next =>
      obtain ⟨n', hn, h', tk, m', news', rfl, F', N', j'⟩ := y
      exact ⟨h', tk, m', news', n', rfl, F', N', hn, j'⟩
    | cont =>
      obtain ⟨n', hn, h', tk, m', news', rfl, F', N', j'⟩ := y
      exact ⟨h', tk, m', news', n', rfl, F', N', hn, j'⟩
    | brk => exact y
    | ret v => exact y
end
section
variable {prog : Program} {w : World} {A : Around} {E : Value → Shared → Prop} {s : Shared} {env : Env} {g : Heap} {L : Addr}
theorem testCut (Jt : Bool → (Str → Option Value) → List (Addr × Obj) → Prop) {test : Expr} {P : Bool → Shared → Prop}
    (h : wpAny (model prog w) A (isTrue test env (eval test env)) (fun b s' => JAt g L s (Jt b) s') E s)
    (k : ∀ b h' tk m' nw, Fr g L h' m' → News g L h' nw → Jt b m' nw → P b { s with heap := h', toks := tk }) :
    wpAny (model prog w) A (isTrue test env (eval test env)) P E s :=
  wpAny_mono h (fun b s' x => by obtain ⟨h', tk, m', nw, rfl, F, N, j⟩ := x; exact k b h' tk m' nw F N j) fun _ _ e => e
end
/-! ## Cuts that hand on: what is known is said by what may be done with it -/
noncomputable def NxtR (Z : Shared → Prop) (Q : Flow → Shared → Prop) (fl : Flow) (s' : Shared) : Prop :=
  match fl with
  | .next => Z s'
  | f => Q f s'
section
variable {prog : Program} {w : World} {A : Around} {E : Value → Shared → Prop} {Q : Flow → Shared → Prop} {s : Shared} {env : Env} {g h : Heap} {L : Addr} {m : Str → Option Value} {nw ld : List (Addr × Obj)} {l : List (Str × Value)}
theorem cutA {h₀ : Heap} {gens : Array GenState} {drawn : Drawn} {tk₀ : Nat} {os : OsState} (All : (Heap → Nat → Prop) → Prop) {st : Stmt} {rest : List Stmt}
    (h : ∀ Z : Shared → Prop, All (fun h' tk => Z ⟨h', gens, drawn, tk, os⟩) → wpAny (model prog w) A (exec st env) (NxtR Z Q) E ⟨h₀, gens, drawn, tk₀, os⟩)
    (k : All fun h' tk => wpAny (model prog w) A (execs rest env) Q E ⟨h', gens, drawn, tk, os⟩) :
    wpAny (model prog w) A (execs (st :: rest) env) Q E ⟨h₀, gens, drawn, tk₀, os⟩ :=
  wpAny_execs_cons (wpAny_mono (h (fun s' => wpAny (model prog w) A (execs rest env) Q E s') k) (fun fl s' x => by cases fl <;> exact x) fun _ _ e => e)
theorem frA (F : Fr g L h m) (x : Has m l) : Fr g L h (over m l) := x.fr F
theorem hasB : ∀ {l : List (Str × Value)}, l.map (fun q => m q.1) = l.map (fun q => some q.2) → Has m l
  | [], _ => trivial
  | _ :: _, x => ⟨(List.cons.inj x).1, hasB (List.cons.inj x).2⟩
theorem frB (F : Fr g L h m) (x : l.map (fun q => m q.1) = l.map (fun q => some q.2)) : Fr g L h (over m l) := (hasB x).fr F
theorem ledA (N : News g L h nw) (x : ∀ q ∈ ld, q ∈ nw) : News g L h ld := fun q hq => N q (x q hq)
end
theorem memC {q : Addr × Obj} {l nw : List (Addr × Obj)} (x : q ∈ nw) (y : ∀ p ∈ l, p ∈ nw) : ∀ p ∈ q :: l, p ∈ nw := List.forall_mem_cons.mpr ⟨x, y⟩
theorem memI {R : List (Addr × Obj)} : ∀ p ∈ R, p ∈ R := fun _ h => h
theorem memT {x : Addr × Obj} {R l : List (Addr × Obj)} (h : ∀ p ∈ R, p ∈ l) : ∀ p ∈ R, p ∈ x :: l := fun p hp => .tail _ (h p hp)
section
variable {prog : Program} {w : World} {A : Around} {E : Value → Shared → Prop} {Q : Flow → Shared → Prop} {s : Shared} {env : Env}
theorem testA {h₀ : Heap} {gens : Array GenState} {drawn : Drawn} {tk₀ : Nat} {os : OsState} (All : (Bool → Heap → Nat → Prop) → Prop) {test : Expr} {P : Bool → Shared → Prop}
    (h : ∀ Z : Bool → Shared → Prop, All (fun b h' tk => Z b ⟨h', gens, drawn, tk, os⟩) → wpAny (model prog w) A (isTrue test env (eval test env)) Z E ⟨h₀, gens, drawn, tk₀, os⟩)
    (k : All fun b h' tk => P b ⟨h', gens, drawn, tk, os⟩) : wpAny (model prog w) A (isTrue test env (eval test env)) P E ⟨h₀, gens, drawn, tk₀, os⟩ := h P k
noncomputable def WTurnZ (ZJ ZX : Shared → Prop) (Q : Flow → Shared → Prop) (fl : Flow) (s' : Shared) : Prop :=
  match fl with
  | .next | .cont => ZJ s'
  | .brk => ZX s'
  | .ret v => Q (.ret v) s'
theorem whileA {h₀ : Heap} {gens : Array GenState} {drawn : Drawn} {tk₀ : Nat} {os : OsState} {test : Expr} {body rest : List Stmt} {pos : Pos} (J : Nat → (Heap → Nat → Prop) → Prop) (Jx : (Heap → Nat → Prop) → Prop) {n₀ : Nat}
    (hall : ∀ n Z, (∀ h tk, (∀ Z', J n Z' → Z' h tk) → Z h tk) → J n Z)
    (hJ : ∀ Z : Shared → Prop, J n₀ (fun h' tk => Z ⟨h', gens, drawn, tk, os⟩) → Z ⟨h₀, gens, drawn, tk₀, os⟩)
    (turn : ∀ n (ZJ ZX : Shared → Prop), (∀ n', n' < n → J n' fun h' tk => ZJ ⟨h', gens, drawn, tk, os⟩) → Jx (fun h' tk => ZX ⟨h', gens, drawn, tk, os⟩) →
      J n fun h' tk => wpAny (model prog w) A (isTrue test env (eval test env)) (fun b s₂ =>
        if b = true then wpAny (model prog w) A (execs body env) (WTurnZ ZJ ZX Q) E s₂ else ZX s₂) E ⟨h', gens, drawn, tk, os⟩)
    (k : Jx fun h' tk => wpAny (model prog w) A (execs rest env) Q E ⟨h', gens, drawn, tk, os⟩)
    (hE : PassesOwn (model prog w) A env E) :
    wpAny (model prog w) A (execs (.While test body [] pos :: rest) env) Q E ⟨h₀, gens, drawn, tk₀, os⟩ := by
  refine wpAny_execs_cons (wpAny_While (codeAny_whileLoop (fun n s' => ∃ h tk, s' = ⟨h, gens, drawn, tk, os⟩ ∧ ∀ Z', J n Z' → Z' h tk) ?_ n₀
    (hJ (fun s' => ∃ h tk, s' = ⟨h, gens, drawn, tk, os⟩ ∧ ∀ Z', J n₀ Z' → Z' h tk) (hall n₀ _ fun h tk c => ⟨h, tk, rfl, c⟩))))
  rintro n s' ⟨h, tk, rfl, c⟩
  refine wpAny_mono (c _ (turn n (fun s' => ∃ n', n' < n ∧ ∃ h tk, s' = ⟨h, gens, drawn, tk, os⟩ ∧ ∀ Z', J n' Z' → Z' h tk) (fun s' => wpAny (model prog w) A (execs rest env) Q E s')
    (fun n' hn => hall n' _ fun h tk c => ⟨n', hn, h, tk, rfl, c⟩) k)) (fun b s₂ x => ?_) hE
  cases b with
  | false =>
    simp only [Bool.false_eq_true, if_false] at x ⊢
    exact wpAny_execs_nil x
  | true =>
    simp only [if_true] at x ⊢
    refine wpAny_mono x (fun fl s₃ y => ?_) hE
    cases fl <;> exact y
end
theorem roomD {x a k n lim : Nat} (h : x + n < lim) (e : Nat.ble (a + k) n = true) : x + a + k < lim :=
  Nat.lt_of_le_of_lt (by rw [Nat.add_assoc]; exact Nat.add_le_add_left (Nat.le_of_ble_eq_true e) x) h
theorem roomD0 {x n lim : Nat} (h : x + n < lim) : x < lim := Nat.lt_of_le_of_lt (Nat.le_add_right x n) h
theorem leTr {a b c : Nat} (h : a ≤ b) (e : Nat.ble b c = true) : a ≤ c := Nat.le_trans h (Nat.le_of_ble_eq_true e)
theorem newsP {g h : Heap} {L : Addr} {nw l : List (Addr × Obj)} {a : Addr × Obj} (N : News g L h nw) (x : a ∈ nw) (y : News g L h l) : News g L h (a :: l) := fun q hq => (List.mem_cons.mp hq).elim (fun e => e ▸ N a x) (y q)
theorem allC {P : Addr × Obj → Prop} {a : Addr × Obj} {l : List (Addr × Obj)} (h : P a) (t : ∀ q ∈ l, P q) : ∀ q ∈ a :: l, P q := List.forall_mem_cons.mpr ⟨h, t⟩
theorem neC {c a : Addr} {o : Obj} {l : List (Addr × Obj)} (h : a ≠ c) (t : ∀ q ∈ l, q.1 ≠ c) : ∀ q ∈ (a, o) :: l, q.1 ≠ c := List.forall_mem_cons.mpr ⟨h, t⟩
/-! ## for x in range(..) -/
noncomputable def FEnd (g : Heap) (L : Addr) (s : Shared) (I : Addr) (oI : Obj) (J : (Str → Option Value) → List (Addr × Obj) → Prop) (s' : Shared) : Prop :=
  ∃ h' tk m' news' nw', s' = { s with heap := h', toks := tk } ∧ Fr g L h' m' ∧ News g L h' news' ∧ Led news' ((I, oI) :: nw') ∧ LCg.Off1 I nw' ∧ J m' nw'
noncomputable def FTurn (g : Heap) (L : Addr) (s : Shared) (I : Addr) (oI : Obj) (J Jx : (Str → Option Value) → List (Addr × Obj) → Prop) (Q : Flow → Shared → Prop) (fl : Flow) (s' : Shared) : Prop :=
  match fl with
  | .next | .cont => FEnd g L s I oI J s'
  | .brk => JAt g L s Jx s'
  | .ret v => Q (.ret v) s'
section
variable {prog : Program} {w : World} {A : Around} {E : Value → Shared → Prop} {Q : Flow → Shared → Prop} {s : Shared} {env : Env} {g : Heap} {m : Str → Option Value} {news : List (Addr × Obj)}
noncomputable def RangeAt (g : Heap) (L : Addr) (s : Shared) (a₀ : Int) (n : Nat) (J : (Str → Option Value) → List (Addr × Obj) → Prop) (xv : Value) (s₁ : Shared) : Prop :=
  ∃ r h' tk m' nw t u v, s₁ = { s with heap := h', toks := tk } ∧ xv = .ref r ∧ IsRange h' r a₀ (a₀ + n) 1 t u v ∧ Fr g L h' m' ∧ News g L h' nw ∧ J m' nw
theorem forRange {x : Str} {px pos : Pos} {iter : Expr} {body rest : List Stmt} (J : Nat → (Str → Option Value) → List (Addr × Obj) → Prop) (Jx : (Str → Option Value) → List (Addr × Obj) → Prop) (a₀ : Int) (n : Nat)
    (hx : env.kindOf x = some .local) (hp : (env.scope.kind == .class || (env.scope.kind == .module && env.locals != env.globals)) = false) (hh : A.handled = none)
    (hsmall : Builtin.Range.small a₀ (a₀ + n) 1 = true) (hsz : Builtin.Range.rangeSize a₀ (a₀ + n) 1 = (n : Int))
    (hit : wpAny (model prog w) A (eval iter env) (RangeAt g env.locals s a₀ n (J 0)) E s)
    (turn : ∀ i m₁ nw h tk t I oI, i < n → J i m₁ nw → LCg.Off1 I nw → Fr g env.locals h (fun y => if y = x then some (.int (a₀ + (i : Nat)) t) else m₁ y) → News g env.locals h ((I, oI) :: nw) →
      wpAny (model prog w) A (execs body env) (FTurn g env.locals { s with heap := h, toks := tk } I oI (J (i + 1)) Jx Q) E { s with heap := h, toks := tk })
    (hJx : ∀ m nw, J n m nw → Jx m nw)
    (k : ∀ h' tk m' news', Fr g env.locals h' m' → News g env.locals h' news' → Jx m' news' → wpAny (model prog w) A (execs rest env) Q E { s with heap := h', toks := tk })
    (hE : PassesOwn (model prog w) A env E) (hs : ∀ x, foldedSetIterable iter env x = pure x := by intro _; rfl) :
    wpAny (model prog w) A (execs (.For (.Name x px) iter body [] pos :: rest) env) Q E s := by
  refine cut (g := g) (L := env.locals) Jx ?_ k
  refine For_invV g hx hp (wpAny_mono hit (fun xv s₁ y => ?_) fun _ _ e => e) hs hE
  obtain ⟨r, h', tk, m', nw, t, u, v, rfl, rfl, hr, F, N, hJ⟩ := y
  refine wpAny_pyIter_range hr hsmall ?_
  have W : Walks prog w A h'.objs.size [h'.objs.size] [h'.objs.size] n (fun i v => i < n ∧ ∃ t, v = .int (a₀ + i * 1) t)
      (fun i h => IsRangeIter h h'.objs.size (a₀ + (i : Nat) * 1) ((n : Int) - (i : Nat)) 1) := (Walks.range hh _ a₀ 1 n).bound
  refine ⟨_, _, _, n, _, _, m', nw, J, rfl, W, ?_, ?_, ?_, ?_, F.push _, (fun q hq => ⟨Heap.get?_push_of_some _ (N q hq).1, (N q hq).2⟩), hJ, ?_, ?_⟩
  · intro hm
    exact absurd F.ns.lt ((List.mem_singleton.mp hm) ▸ Nat.lt_irrefl _)
  · intro b hb
    rw [List.mem_singleton.mp hb]
    exact next_is_new F
  · intro q hq hI
    exact absurd (Heap.lt_size (N q hq).1) ((List.mem_singleton.mp hI) ▸ Nat.lt_irrefl _)
  · show IsRangeIter _ _ _ _ _
    rw [hsz]
    simpa using Heap.get?_push_size _ rfl
  · rintro i v m₁ nw₁ s₁ own ⟨h₁, tk₁, rfl⟩ hi ⟨_, t, rfl⟩ hJ₁ hoff hown hown2 hall hst F₁ N₁
    obtain ⟨oI, hst'⟩ : ∃ o, h₁.get? h'.objs.size = some o := ⟨_, hst⟩
    have hI : (h'.objs.size, oI) ∈ own := hall _ (by simp) (next_is_new F) _ hst'
    have hone : ∀ q ∈ own, q = (h'.objs.size, oI) := own_one hown (fun b hb => .inl (List.mem_singleton.mp hb)) hst' N₁
    rw [Int.mul_one] at F₁
    refine wpAny_mono (turn i m₁ nw₁ h₁ tk₁ t h'.objs.size oI hi hJ₁ (off1_of fun q hq => by simpa using hoff q hq) F₁ (news_one hI N₁)) (fun fl s₂ z => ?_) fun _ _ e => e
    have fin : FEnd g env.locals { s with heap := h₁, toks := tk₁ } h'.objs.size oI (J (i + 1)) s₂ → LoopStepU g env.locals [h'.objs.size] own (J (i + 1)) { s with heap := h₁, toks := tk₁ } .next s₂ := by
      rintro ⟨h₂, tk₂, m₂, news₂, nw₂, rfl, F₂, N₂, led, off, hJ₂⟩
      refine ⟨rfl, h₂, tk₂, m₂, nw₂, rfl, F₂, fun q hq => ?_, fun q hq => by simpa using off1_mem off q hq, hJ₂⟩
      rcases List.mem_append.mp hq with hq | hq
      · rw [hone q hq]; exact N₂ _ (led _ (.head _))
      · exact N₂ _ (led _ (.tail _ hq))
    cases fl with
    | ret v => exact .ret z
    | brk => exact .brk z
    | next => exact .next (fin z)
    | cont => exact .cont (fin z)
  · rintro h₂ tk₂ m₂ nw₂ F₂ N₂ _ hJ₂
    exact ⟨h₂, tk₂, m₂, nw₂, rfl, F₂, N₂, hJx _ _ hJ₂⟩
end
theorem gList {H g : Heap} {adr : List Addr} (G : GSub H g adr) {l : Addr} {its : Array Value} (x : H.IsList l its) (hn : l ∉ adr := by simp) : g.IsList l its := let ⟨o, ho, r⟩ := x; ⟨o, G _ _ ho hn, r⟩
end
section
/-! ## A Spec object as it stands in a heap -/
structure SD where
  field : Int
  left : Bool
  plus : Bool
  blank : Bool
  noughts : Bool
  marked : Bool
  width : Int
  prec : Int
  letter : Str
noncomputable def specEs (w : World) (d : SD) (k : Nat → Tok) (ta tb tc td : Tok) : List DictEntry := [
  ⟨PyData.keyHash w.params "field", .str "field" (k 0), .int d.field ta⟩,
  ⟨PyData.keyHash w.params "is_left", .str "is_left" (k 1), .bool d.left⟩,
  ⟨PyData.keyHash w.params "has_plus", .str "has_plus" (k 2), .bool d.plus⟩,
  ⟨PyData.keyHash w.params "has_blank", .str "has_blank" (k 3), .bool d.blank⟩,
  ⟨PyData.keyHash w.params "has_noughts", .str "has_noughts" (k 4), .bool d.noughts⟩,
  ⟨PyData.keyHash w.params "is_marked", .str "is_marked" (k 5), .bool d.marked⟩,
  ⟨PyData.keyHash w.params "width", .str "width" (k 6), .int d.width tb⟩,
  ⟨PyData.keyHash w.params "precision", .str "precision" (k 7), .int d.prec tc⟩,
  ⟨PyData.keyHash w.params "letter", .str "letter" (k 8), .str d.letter td⟩]
noncomputable abbrev instO (C dx : Addr) : Obj := ⟨.ref C, some dx, .plain, #[]⟩
/-- x is of class C and its own dict is es -/
structure InstH (h : Heap) (x C dx : Addr) (es : List DictEntry) (n : Nat) : Prop where
  obj : h.get? x = some (instO C dx)
  dct : h.get? dx = some (dictOf es n)
theorem InstH.at {h : Heap} {x C dx : Addr} {es : List DictEntry} {n : Nat} (I : InstH h x C dx es n) : InstAt h x (instO C dx) C (some (dictOf es n)) := ⟨I.obj, rfl, rfl, I.dct⟩
theorem InstH.keeps {h h' : Heap} {x C dx : Addr} {es : List DictEntry} {n : Nat} (I : InstH h x C dx es n) (k : ∀ b o, h.get? b = some o → h'.get? b = some o) : InstH h' x C dx es n := ⟨k _ _ I.obj, k _ _ I.dct⟩
theorem gInst {H g : Heap} {adr : List Addr} (G : GSub H g adr) {x C dx : Addr} {es : List DictEntry} {n : Nat} (I : InstH H x C dx es n) (h1 : x ∉ adr := by simp) (h2 : dx ∉ adr := by simp) : InstH g x C dx es n := ⟨G _ _ I.obj h1, G _ _ I.dct h2⟩
theorem instKeep {g h : Heap} {L : Addr} {m : Str → Option Value} {x C dx : Addr} {es : List DictEntry} {n : Nat} (I : InstH g x C dx es n) (F : Fr g L h m) : InstAt h x (instO C dx) C (some (dictOf es n)) := (I.keeps F.keep).at
end
section
section
variable {w : World} {dp un : Nat} {gd : Option (List Code)} {cn : Str} {cs : Scope} {a : Addr} {ccd : Value} {cl : List (Str × Addr)} {outer : List Env} {A₀ : Around} {base h₀ : Heap} {L : Addr}
  {m : Str → Option Value} {s : Shared} {Q E : Value → Shared → Prop} {loose : List Str} {mean : ExcName → Option Value} {mg mb : Str → Option Value} {p : Program} {news : List (Addr × Obj)}

theorem wide_c
  {lc : Addr} {vs : List Value} {ns : List Int} {fl : Str} {tf : Tok} {wd : Int} {tw : Tok}
  (B : Below A₀ base outer h₀) (F : Fr h₀ L s.heap m) (X : (heapK w.params).In h₀) (N : News h₀ L s.heap news) (T : Top p loose mean mg mb h₀) (hk : cs.kind = .function)
  (hl : s.heap.IsList lc vs.toArray) (hi : IntsAre vs ns) (hlen : ns.length ≤ 1000) (hw : 0 ≤ wd) (hw2 : wd ≤ 1000) (hfl : fl.length ≤ 100)
  (hd : dp + 1 < recursionLimit) (hu : un + 8 < cLine)
  (hret : ∀ r ws n h' tk', Fr h₀ L h' m → News h₀ L h' ((r, listOf ws n) :: news) → LCg.Off1 r news → IntsAre ws.toList (if (Builtin.Str.occurrences fl (Str.ofString "-") 0 fl.length 1).isEmpty then List.replicate (wd - ns.length).toNat 32 ++ ns else ns ++ List.replicate (wd - ns.length).toNat 32) → Q (.ref r) { s with heap := h', toks := tk' })  :
  wpAny (model PySem.Challenge.rw_np0086_01.row.prog w) (ktrTop dp un gd cn cs L a ccd cl outer) (call (.ref 576) [.ref lc, .str fl tf, .int wd tw]) Q E s := by
  (revert X; k_fill; intro X)
  k_dflt (refine enterD (binds := [("codes", .ref lc), ("flags", .str fl tf), ("width", .int wd tw)]) B F X N T [] news (fun _ h => nomatch h) (fun q hq => ⟨hq, fun h => nomatch h⟩) rfl rfl hk (by k_is) (by k_is) (by ktr_room) (BindsTo.of_eq rfl) (locs rfl) ?_ rfl rfl rfl (by decide))
  intro g L' h₁ tk PQ PE G F' N' B' X' T' hPQ hPE hEx
  set_option simprocs false in dsimp only [b576, qb576]
  have hl' := gList G hl
  clear B F N T X G hl
  k_steps
  all_goals (refine hPQ _ _ ⟨_, _, by assumption, by assumption, fun b => ?_⟩)
  all_goals (refine hret _ _ _ _ _ b.fr (b.one (by k_mem)) (b.off1 (by k_mem)) ?_)
  · rw [if_pos (by assumption)]
    rename IntsAre _ (_ ++ _) => hI
    simpa using hI
  · rw [if_neg (by simp_all)]
    rename IntsAre _ (_ ++ _) => hI
    simpa using hI
end
end
local macro_rules | `(tactic| ktr_room) => `(tactic| first | exact roomD (by assumption) (by rfl) | exact roomD0 (by assumption))
local macro_rules | `(tactic| ktr_units) => `(tactic| exact roomD (by assumption) (by rfl))
local macro_rules | `(tactic| omega) => `(tactic| lia)
local macro_rules | `(tactic| omega) => `(tactic| with_reducible first | assumption | exact Ne.symm (by assumption) | exact Nat.le_of_ble_eq_true rfl | exact leTr (by assumption) (by rfl) | exact Nat.succ_le_succ (by assumption) | exact And.left (by assumption) | exact And.right (by assumption) | exact And.left (And.right (by assumption)) | exact Ne.symm (And.left (by assumption)) | exact Ne.symm (And.right (by assumption)) | exact Ne.symm (And.left (And.right (by assumption))) | exact Nat.ne_of_gt (by assumption) | exact Nat.ne_of_gt (And.left (by assumption)) | exact Nat.ne_of_gt (And.right (by assumption)))
local macro_rules | `(tactic| size_fits) => `(tactic| ((try simp only [List.size_toArray, Array.size_append, Array.size_push, List.length_append, List.length_cons, List.length_nil, List.length_replicate, PySem.sizeLine_eq, Array.length_toList]); omega))
local macro_rules | `(tactic| kmk_size) => `(tactic| size_fits)
local macro_rules | `(tactic| walk_at "subscriptTail Name Slice ref ref") => `(tactic| ((with_reducible show wpAny _ _ (subscriptTail _ (PySem.Expr.Slice none none (some _) _) (Value.ref _) (Value.ref _)) _ _ _); k_dflt (refine' krv_ints (s := ⟨_, _, _, _, _⟩) ?F ?N ?l ?k ?i ?_ ?s ?t ?z; (case F => k_asm); (case N => k_asm); (case l => kmk_list); (case k => exact IsPart.int _ _); (case i => l_ints); (case s => with_unfolding_all rfl); (case t => kmk_pure); (case z => kmk_size)); intro D' ws' h' F' N' l1 hI' hC'; (try k_lt l1)))
local macro_rules | `(tactic| k_inst) => `(tactic| exact instKeep (by assumption) (by k_asm))
local macro_rules | `(tactic| walk_at "ite") => `(tactic| first | k_dflt (refine ite_pos (by simp only [decide_eq_true_eq, beq_iff_eq, bne_iff_ne]; omega) ?_) | k_dflt (refine ite_neg (by simp only [decide_eq_true_eq, beq_iff_eq, bne_iff_ne]; omega) ?_))
local macro_rules | `(tactic| walk_at "K") => `(tactic| ((fail_if_success (with_reducible show wpAny _ _ (execs (_ :: _) _) _ _ _)); (fail_if_success (with_reducible show wpAny _ _ (exec (Stmt.While _ _ _ _) _) _ _ _)); (fail_if_success (with_reducible show wpAny _ _ (exec (Stmt.For _ _ _ _ _) _) _ _ _)); (first | walk1 | (dsimp only; walk1)) <;> (try dsimp only)))
local macro_rules | `(tactic| walk_at "S") => `(tactic| ((refine wpAny_execs_cons ?_); repeat' walk_at "K"))
local macro_rules | `(tactic| walk_at "ISLIST") => `(tactic| first | exact stays_list (Fr.keep (by k_asm)) (by assumption) | exact News.isList (by k_asm) (by k_mem))
local macro_rules | `(tactic| lcg_sub) => `(tactic| first | exact List.forall_mem_nil _ | refine memC (by k_mem) (by lcg_sub) | exact memI | exact memT (by lcg_sub))

section
section
variable {w : World} {dp un : Nat} {gd : Option (List Code)} {cn : Str} {cs : Scope} {a : Addr} {ccd : Value} {cl : List (Str × Addr)} {outer : List Env} {A₀ : Around} {base h₀ : Heap} {L : Addr}
  {m : Str → Option Value} {s : Shared} {Q E : Value → Shared → Prop} {loose : List Str} {mean : ExcName → Option Value} {mg mb : Str → Option Value} {p : Program} {news : List (Addr × Obj)}

noncomputable def padS (left : Bool) (width : Int) (ns : List Int) : List Int := if left then ns ++ List.replicate (width - ns.length).toNat 32 else List.replicate (width - ns.length).toNat 32 ++ ns
theorem max0 (a : Int) : (if a > 0 then a else 0).toNat = a.toNat := by split <;> omega
theorem padded_c
  {lc : Addr} {vs : List Value} {ns : List Int} {x dx : Addr} {d : SD} {kt : Nat → Tok} {ta tb tc td : Tok} {n₀ : Nat}
  (B : Below A₀ base outer h₀) (F : Fr h₀ L s.heap m) (X : (heapK w.params).In h₀) (N : News h₀ L s.heap news) (T : Top p loose mean mg mb h₀) (hk : cs.kind = .function)
  (hl : s.heap.IsList lc vs.toArray) (hi : IntsAre vs ns) (hI : InstH s.heap x 58 dx (specEs w d kt ta tb tc td) n₀) (hlen : ns.length ≤ 1000) (hw : 0 ≤ d.width) (hw2 : d.width ≤ 1000)
  (hd : dp + 1 < recursionLimit) (hu : un + 8 < cLine)
  (hret : ∀ r ws n h' tk', Fr h₀ L h' m → News h₀ L h' ((r, listOf ws n) :: news) → LCg.Off1 r news → IntsAre ws.toList (padS d.left d.width ns) → Q (.ref r) { s with heap := h', toks := tk' })  :
  wpAny (model PySem.Challenge.rw_np0086_01.row.prog w) (ktrTop dp un gd cn cs L a ccd cl outer) (call (.ref 90) [.ref x, .ref lc]) Q E s := by
  (revert X; k_fill; intro X)
  k_dflt (refine enterD (binds := [("spec", .ref x), ("codes", .ref lc)]) B F X N T [] news (fun _ h => nomatch h) (fun q hq => ⟨hq, fun h => nomatch h⟩) rfl rfl hk (by k_is) (by k_is) (by ktr_room) (BindsTo.of_eq rfl) (locs rfl) ?_ rfl rfl rfl (by decide))
  intro g L' h₁ tk PQ PE G F' N' B' X' T' hPQ hPE hEx
  set_option simprocs false in dsimp only [b90, qb90]
  have hl' := gList G hl
  have hI' := gInst G hI
  clear B F N T X G hl hI
  k_steps
  all_goals (refine hPQ _ _ ⟨_, _, by assumption, by assumption, fun b => ?_⟩)
  all_goals (refine hret _ _ _ _ _ b.fr (b.one (by k_mem)) (b.off1 (by k_mem)) ?_)
  all_goals (rename IntsAre _ (_ ++ _) => hI; rename d.left = _ => hL; rw [hL]; simp only [max0, List.flatten_replicate_singleton] at hI; exact hI)
end
end
section
/-- a deck: at most sixteen ints, none below nought nor past 10 ^ 30 -/
structure Dk (vs : List Value) (ds : List Int) : Prop where
  nums : IntsAre vs ds
  len : ds.length ≤ 16
  lo : ∀ d ∈ ds, 0 ≤ d
  hi : ∀ d ∈ ds, d < 1000000000000000000000000000000
theorem Dk.tail {v : Value} {vs : List Value} {d : Int} {ds : List Int} (h : Dk (v :: vs) (d :: ds)) (hi : IntsAre vs ds) : Dk vs ds :=
  ⟨hi, by have := h.len; simp only [List.length_cons] at this; omega, fun x hx => h.lo x (.tail _ hx), fun x hx => h.hi x (.tail _ hx)⟩
theorem Dk.cut {v : Value} {vs ws : List Value} {d mm : Int} {ds : List Int} (h : Dk (v :: vs) (d :: ds)) (hi : IntsAre ws (Int.fdiv d mm :: ds)) (h1 : 1 ≤ mm) : Dk ws (Int.fdiv d mm :: ds) := by
  have hl0 := h.lo d (.head _)
  refine ⟨hi, h.len, ?_, ?_⟩
  · intro x hx
    rcases List.mem_cons.mp hx with rfl | hx
    · rw [Int.fdiv_eq_ediv_of_nonneg _ (by omega)]; exact Int.ediv_nonneg hl0 (by omega)
    · exact h.lo x (.tail _ hx)
  · intro x hx
    rcases List.mem_cons.mp hx with rfl | hx
    · rw [Int.fdiv_eq_ediv_of_nonneg _ (by omega)]
      exact Int.lt_of_le_of_lt (Int.ediv_le_self _ hl0) (h.hi d (.head _))
    · exact h.hi x (.tail _ hx)
theorem seq0 (v : Value) (vs : List Value) : seqIndex? 0 (List.toArray (v :: vs)).size = some 0 := by simp [seqIndex?]
section
variable {w : World} {dp un : Nat} {gd : Option (List Code)} {cn : Str} {cs : Scope} {a : Addr} {ccd : Value} {cl : List (Str × Addr)} {outer : List Env} {A₀ : Around} {base h₀ : Heap} {L : Addr}
  {m : Str → Option Value} {s : Shared} {Q E : Value → Shared → Prop} {loose : List Str} {mean : ExcName → Option Value} {mg mb : Str → Option Value} {p : Program} {news : List (Addr × Obj)}

theorem draw_c {dk : Addr} {vs : List Value} {ds : List Int} {k : Nat} {mm : Int} {tm : Tok} {rest : List (Addr × Obj)}
  (B : Below A₀ base outer h₀) (F : Fr h₀ L s.heap m) (X : (heapK w.params).In h₀) (N : News h₀ L s.heap news) (T : Top p loose mean mg mb h₀) (hk : cs.kind = .function)
  (hdk : (dk, listOf (List.toArray vs) k) ∈ news) (hD : Dk vs ds) (h1 : 1 ≤ mm) (h2 : mm ≤ 3000) (hrest : ∀ q ∈ rest, q ∈ news ∧ q.1 ≠ dk)
  (hd : dp + 1 < recursionLimit) (hu : un + 108 < cLine)
  (hret : ∀ vs' ds' k' r t h' tk', Dk vs' ds' → 0 ≤ r → r < mm → Fr h₀ L h' m → News h₀ L h' ((dk, listOf (List.toArray vs') k') :: rest) → Q (.int r t) { s with heap := h', toks := tk' })  :
  wpAny (model PySem.Challenge.rw_np0086_01.row.prog w) (ktrTop dp un gd cn cs L a ccd cl outer) (call (.ref 559) [.ref dk, .int mm tm]) Q E s := by
  (revert X; k_fill; intro X)
  k_dflt (refine enterD (binds := [("deck", .ref dk), ("many", .int mm tm)]) B F X N T [(dk, listOf (List.toArray vs) k)] rest (by intro q hq; simp only [List.mem_cons, List.not_mem_nil, or_false] at hq; rw [hq]; exact hdk) (by intro q hq; exact ⟨(hrest q hq).1, by simpa using (hrest q hq).2⟩) rfl rfl hk (by k_is) (by k_is) (by ktr_room) (BindsTo.of_eq rfl) (locs rfl) ?_ rfl rfl rfl (by decide))
  intro g L' h₁ tk PQ PE G F' N' B' X' T' hPQ hPE hEx
  set_option simprocs false in dsimp only [b559, qb559]
  clear B F N T X G
  refine whileA (n₀ := ds.length) (fun n Z => ∀ (vs : List Value) (ds : List Int) (k : Nat) (t : Tok) h' tk' m', Fr g L' h' (over m' [(Str.ofString "deck", .ref dk), (Str.ofString "many", .int mm tm)]) → News g L' h' [(dk, listOf (List.toArray vs) k)] → Dk vs ds → n = ds.length → Z h' tk')
    (fun Z => ∀ (vs : List Value) (ds : List Int) (k : Nat) (t : Tok) h' tk' m', Fr g L' h' (over m' [(Str.ofString "deck", .ref dk), (Str.ofString "many", .int mm tm)]) → News g L' h' [(dk, listOf (List.toArray vs) k)] → Dk vs ds → Z h' tk') (fun _ _ c9 vs ds k t h' tk' m' x0 x1 x2 x3 => c9 _ _ fun _ q9 => q9 vs ds k t h' tk' m' x0 x1 x2 x3) ?_ ?_ ?_ hPE
  · exact fun Z hZ => hZ vs ds _ 0 _ _ _ (frB F' (by rfl)) (ledA N' (by lcg_sub)) hD rfl
  · clear hD
    rintro n ZJ ZX hZJ hZX vs ds k t h₁ tk₁ m₁ F₁ NL₁ hD rfl
    have hv := hD.nums
    have hvl := hv.length
    have hl := hD.len
    clear F' N'
    cases vs with
    | nil =>
      repeat' (first | ((with_reducible show wpAny _ _ (call (Value.builtin _) [Value.ref _, Value.int _ _]) _ _ _); k_dflt (refine' kl_popAt (k := 0) (p := []) ?F ?N rfl (seq0 _ _) rfl ?U ?z ?_; (case F => k_asm); (case N => k_asm); (case U => k_upd); (case z => ((try simp only [List.length_cons] at *); rw [PySem.sizeLine_eq]; omega))); intro h' F' N'; (try dsimp only [List.nil_append, List.cons_append] at N')) | walk_at "K")
      exact hZX ([]) ds _ 0 _ _ _ (frB (by assumption) (by rfl)) (ledA (by assumption) (by lcg_sub)) hD
    | cons v vs =>
      obtain ⟨d, ds, td, rfl, rfl, hv'⟩ : ∃ d ds' td, ds = d :: ds' ∧ v = .int d td ∧ IntsAre vs ds' := by
        cases hv with
        | cons i t h => exact ⟨_, _, _, rfl, rfl, h⟩
      have hl0 := hD.lo d (.head _)
      have hl1 := hD.hi d (.head _)
      have q0 : decide (d :: ds = []) = false := rfl
      repeat' (first | ((with_reducible show wpAny _ _ (call (Value.builtin _) [Value.ref _, Value.int _ _]) _ _ _); k_dflt (refine' kl_popAt (k := 0) (p := []) ?F ?N rfl (seq0 _ _) rfl ?U ?z ?_; (case F => k_asm); (case N => k_asm); (case U => k_upd); (case z => ((try simp only [List.length_cons] at *); rw [PySem.sizeLine_eq]; omega))); intro h' F' N'; (try dsimp only [List.nil_append, List.cons_append] at N')) | walk_at "K")
      · ((refine wpAny_execs_cons ?_); repeat' (first | ((with_reducible show wpAny _ _ (call (Value.builtin _) [Value.ref _, Value.int _ _]) _ _ _); k_dflt (refine' kl_popAt (k := 0) (p := []) ?F ?N rfl (seq0 _ _) rfl ?U ?z ?_; (case F => k_asm); (case N => k_asm); (case U => k_upd); (case z => ((try simp only [List.length_cons] at *); rw [PySem.sizeLine_eq]; omega))); intro h' F' N'; (try dsimp only [List.nil_append, List.cons_append] at N')) | walk_at "K"))
        exact hZJ ds.length (by simp) vs ds _ 0 _ _ _ (frB (by assumption) (by rfl)) (ledA (by assumption) (by lcg_sub)) (hD.tail hv') rfl
      · exact hZX (Value.int d td :: vs) (d :: ds) _ 0 _ _ _ (frB (by assumption) (by rfl)) (ledA (by assumption) (by lcg_sub)) hD
  · skip
    intro vs2 ds2 k2 t2 h4 tk4 m4 F4 NL4 hD2
    clear hD
    have hv := hD2.nums
    have hvl := hv.length
    have hl := hD2.len
    cases vs2 with
    | nil =>
      ((refine wpAny_execs_cons ?_); repeat' (first | ((with_reducible show wpAny _ _ (call (Value.builtin _) [Value.ref _, Value.int _ _]) _ _ _); k_dflt (refine' kl_popAt (k := 0) (p := []) ?F ?N rfl (seq0 _ _) rfl ?U ?z ?_; (case F => k_asm); (case N => k_asm); (case U => k_upd); (case z => ((try simp only [List.length_cons] at *); rw [PySem.sizeLine_eq]; omega))); intro h' F' N'; (try dsimp only [List.nil_append, List.cons_append] at N')) | walk_at "K"))
      ((refine wpAny_execs_cons ?_); repeat' (first | ((with_reducible show wpAny _ _ (call (Value.builtin _) [Value.ref _, Value.int _ _]) _ _ _); k_dflt (refine' kl_popAt (k := 0) (p := []) ?F ?N rfl (seq0 _ _) rfl ?U ?z ?_; (case F => k_asm); (case N => k_asm); (case U => k_upd); (case z => ((try simp only [List.length_cons] at *); rw [PySem.sizeLine_eq]; omega))); intro h' F' N'; (try dsimp only [List.nil_append, List.cons_append] at N')) | walk_at "K"))
      exact hPQ _ _ ⟨_, _, by assumption, by assumption, fun b => hret [] ds2 _ _ _ _ _ hD2 (Int.le_refl _) (by omega) b.fr (b.one (by k_mem))⟩
    | cons v vs =>
      obtain ⟨d, ds, td, rfl, rfl, hv'⟩ : ∃ d ds' td, ds2 = d :: ds' ∧ v = .int d td ∧ IntsAre vs ds' := by
        cases hv with
        | cons i t h => exact ⟨_, _, _, rfl, rfl, h⟩
      have hl0 := hD2.lo d (.head _)
      have hl1 := hD2.hi d (.head _)
      have q0 : decide (d :: ds = []) = false := rfl
      ((refine wpAny_execs_cons ?_); repeat' (first | ((with_reducible show wpAny _ _ (call (Value.builtin _) [Value.ref _, Value.int _ _]) _ _ _); k_dflt (refine' kl_popAt (k := 0) (p := []) ?F ?N rfl (seq0 _ _) rfl ?U ?z ?_; (case F => k_asm); (case N => k_asm); (case U => k_upd); (case z => ((try simp only [List.length_cons] at *); rw [PySem.sizeLine_eq]; omega))); intro h' F' N'; (try dsimp only [List.nil_append, List.cons_append] at N')) | walk_at "K"))
      ((refine wpAny_execs_cons ?_); repeat' (first | ((with_reducible show wpAny _ _ (call (Value.builtin _) [Value.ref _, Value.int _ _]) _ _ _); k_dflt (refine' kl_popAt (k := 0) (p := []) ?F ?N rfl (seq0 _ _) rfl ?U ?z ?_; (case F => k_asm); (case N => k_asm); (case U => k_upd); (case z => ((try simp only [List.length_cons] at *); rw [PySem.sizeLine_eq]; omega))); intro h' F' N'; (try dsimp only [List.nil_append, List.cons_append] at N')) | walk_at "K"))
      ((refine wpAny_execs_cons ?_); repeat' (first | ((with_reducible show wpAny _ _ (call (Value.builtin _) [Value.ref _, Value.int _ _]) _ _ _); k_dflt (refine' kl_popAt (k := 0) (p := []) ?F ?N rfl (seq0 _ _) rfl ?U ?z ?_; (case F => k_asm); (case N => k_asm); (case U => k_upd); (case z => ((try simp only [List.length_cons] at *); rw [PySem.sizeLine_eq]; omega))); intro h' F' N'; (try dsimp only [List.nil_append, List.cons_append] at N')) | walk_at "K"))
      ((refine wpAny_execs_cons ?_); repeat' (first | ((with_reducible show wpAny _ _ (call (Value.builtin _) [Value.ref _, Value.int _ _]) _ _ _); k_dflt (refine' kl_popAt (k := 0) (p := []) ?F ?N rfl (seq0 _ _) rfl ?U ?z ?_; (case F => k_asm); (case N => k_asm); (case U => k_upd); (case z => ((try simp only [List.length_cons] at *); rw [PySem.sizeLine_eq]; omega))); intro h' F' N'; (try dsimp only [List.nil_append, List.cons_append] at N')) | walk_at "K"))
      rename IntsAre (List.set _ _ _) _ => hi'
      have hd' := hD2.cut hi' h1
      exact hPQ _ _ ⟨_, _, by assumption, by assumption, fun b => hret _ _ _ _ _ _ _ hd' (by rw [Int.fmod_eq_emod_of_nonneg _ (by omega)]; exact Int.emod_nonneg _ (by omega)) (by rw [Int.fmod_eq_emod_of_nonneg _ (by omega)]; exact Int.emod_lt_of_pos _ (by omega)) b.fr (b.one (by k_mem))⟩
theorem draw_u {dk : Addr} {vs : List Value} {ds : List Int} {k : Nat} {mm : Int} {tm : Tok} {gg : Obj → List (Addr × Obj)}
  (B : Below A₀ base outer h₀) (F : Fr h₀ L s.heap m) (X : (heapK w.params).In h₀) (N : News h₀ L s.heap news) (T : Top p loose mean mg mb h₀) (hk : cs.kind = .function)
  (U : UpdF dk (listOf (List.toArray vs) k) news gg) (hD : Dk vs ds) (h1 : 1 ≤ mm) (h2 : mm ≤ 3000)
  (hd : dp + 1 < recursionLimit) (hu : un + 108 < cLine)
  (hret : ∀ vs' ds' k' r t h' tk', Dk vs' ds' → 0 ≤ r → r < mm → Fr h₀ L h' m → News h₀ L h' (gg (listOf (List.toArray vs') k')) → Q (.int r t) { s with heap := h', toks := tk' })  :
  wpAny (model PySem.Challenge.rw_np0086_01.row.prog w) (ktrTop dp un gd cn cs L a ccd cl outer) (call (.ref 559) [.ref dk, .int mm tm]) Q E s := by
  obtain ⟨pre, post, rfl, hg, a, b⟩ := U.split
  refine draw_c (rest := pre ++ post) B F X N T hk (List.mem_append_right _ (.head _)) hD h1 h2 (fun q hq => ?_) (by omega) (by omega) (fun vs' ds' k' r t h' tk' d r0 r1 F' N' => hret vs' ds' k' r t h' tk' d r0 r1 F' ?_)
  · rcases List.mem_append.mp hq with hq | hq
    · exact ⟨List.mem_append_left _ hq, a q hq⟩
    · exact ⟨List.mem_append_right _ (.tail _ hq), b q hq⟩
  · rw [hg]
    intro q hq
    refine N' q ?_
    rcases List.mem_append.mp hq with hq | hq
    · exact .tail _ (List.mem_append_left _ hq)
    · rcases List.mem_cons.mp hq with rfl | hq
      · exact .head _
      · exact .tail _ (List.mem_append_right _ hq)
end
end
section
/-! ## Comprehensions by an invariant; over a text's signs -/
section
variable {prog : Program} {w : World} {A : Around} {E : Value → Shared → Prop} {s : Shared} {h₀ : Heap} {L : Addr} {m : Str → Option Value} {env : Env}
theorem compEnd_mono {s₁ s₂ : Shared} {I C D : Addr} {oI oC oD : Obj} {S : List (Addr × Obj) → Prop} {r r' : Value → List (Addr × Obj) → Prop} {y : Value} (h : LCg.CompEnd h₀ L m s₁ I oI C oC D oD S r y s₂) (k : ∀ y n, r y n → r' y n) : LCg.CompEnd h₀ L m s₁ I oI C oC D oD S r' y s₂ := by
  obtain ⟨a, b, c, d, e, f, g, i, j⟩ := h
  exact ⟨a, b, c, d, e, f, g, i, k _ _ j⟩
theorem compRest_inv {elt : Expr} {x : Str} {scope : Scope} {cl : List (Str × Addr)} {S : List (Addr × Obj) → Prop} {P : Nat → Value → Prop} {Fin : List Value → List (Addr × Obj) → Prop} (J : Nat → List Value → List (Addr × Obj) → Prop) (n : Nat)
    (turn : ∀ i ys news, i < n → J i ys news → ∀ v I oI C oC D m₂ h tk (E' : Value → Shared → Prop), P i v → LCg.NsObj oC m₂ → m₂ x = some v → Fr h₀ L h m → News h₀ L h ((I, oI) :: (C, oC) :: (D, LCg.lst ys) :: news) → LCg.Off3 I C D news → ((@Ne Nat I C) ∧ (@Ne Nat I D) ∧ (@Ne Nat C D)) →
      wpAny (model prog w) A (eval elt (compEnvC scope cl C env)) (LCg.CompEnd h₀ L m { s with heap := h, toks := tk } I oI C oC D (LCg.lst ys) S (fun y news' => J (i + 1) (ys ++ [y]) news')) E' { s with heap := h, toks := tk })
    (fin : ∀ ys news, J n ys news → Fin ys news) : ∀ k i ys news, i + k = n → J i ys news → LCg.CompRest prog w A h₀ L m env elt x scope cl s S P Fin k i ys news
  | 0, i, ys, news, hk, hJ => by
    obtain rfl : i = n := by omega
    exact fin _ _ hJ
  | k + 1, i, ys, news, hk, hJ => LCg.CompRest.succ fun v I oI C oC D m₂ h tk E' hP hC hx F N off ne =>
    wpAny_mono (turn i ys news (by omega) hJ v I oI C oC D m₂ h tk E' hP hC hx F N off ne) (fun y s₂ z => compEnd_mono z fun y nw j => compRest_inv J n turn fin k (i + 1) _ _ (by omega) j) fun _ _ e => e
theorem compRestT_inv {ct elt : Expr} {x : Str} {scope : Scope} {cl : List (Str × Addr)} {S : List (Addr × Obj) → Prop} {P : Nat → Value → Prop} {Fin : List Value → List (Addr × Obj) → Prop} (J : Nat → List Value → List (Addr × Obj) → Prop) (n : Nat)
    (turn : ∀ i ys news, i < n → J i ys news → ∀ v I oI C oC D m₂ h tk (E' : Value → Shared → Prop), P i v → LCg.NsObj oC m₂ → m₂ x = some v → Fr h₀ L h m → News h₀ L h ((I, oI) :: (C, oC) :: (D, LCg.lst ys) :: news) → LCg.Off3 I C D news → ((@Ne Nat I C) ∧ (@Ne Nat I D) ∧ (@Ne Nat C D)) →
      wpAny (model prog w) A (isTrue ct (compEnvC scope cl C env) (eval ct (compEnvC scope cl C env))) (fun ok s' => if ok = true then
        wpAny (model prog w) A (eval elt (compEnvC scope cl C env)) (LCg.CompEnd h₀ L m { s with heap := h, toks := tk } I oI C oC D (LCg.lst ys) S (fun y news' => J (i + 1) (ys ++ [y]) news')) E' s'
        else LCg.CompEnd h₀ L m { s with heap := h, toks := tk } I oI C oC D (LCg.lst ys) S (fun _ news' => J (i + 1) ys news') Value.none s') E' { s with heap := h, toks := tk })
    (fin : ∀ ys news, J n ys news → Fin ys news) : ∀ k i ys news, i + k = n → J i ys news → LCt.CompRestT prog w A h₀ L m env ct elt x scope cl s S P Fin k i ys news
  | 0, i, ys, news, hk, hJ => by
    obtain rfl : i = n := by omega
    exact fin _ _ hJ
  | k + 1, i, ys, news, hk, hJ => LCt.CompRestT.succ fun v I oI C oC D m₂ h tk E' hP hC hx F N off ne =>
    wpAny_mono (turn i ys news (by omega) hJ v I oI C oC D m₂ h tk E' hP hC hx F N off ne) (fun ok s₂ z => by
      cases ok with
      | true =>
        simp only [if_true] at z ⊢
        exact wpAny_mono z (fun y s₃ z => compEnd_mono z fun y nw j => compRestT_inv J n turn fin k (i + 1) _ _ (by omega) j) fun _ _ e => e
      | false =>
        simp only [Bool.false_eq_true, if_false] at z ⊢
        exact compEnd_mono z fun y nw j => compRestT_inv J n turn fin k (i + 1) _ _ (by omega) j) fun _ _ e => e
theorem pyIter_strU {x : Str} {t : Tok} {Q : Value → Shared → Prop}
    (hQ : ∀ (o : Obj) (St : Nat → Heap → Prop), (∀ A' : Around, A'.handled = none → Walks prog w A' s.heap.objs.size [s.heap.objs.size] [s.heap.objs.size] x.cps.size (SignAt x) St) → St 0 (s.heap.push o) → (∀ i h, St i h → ∃ o, h.get? s.heap.objs.size = some o) →
      Q (.ref s.heap.objs.size) { s with heap := s.heap.push o }) : wpAny (model prog w) A (pyIter (.str x t)) Q E s := by
  cases ha : x.cps.all (· < 128)
  · exact wpAny_pyIter_wide ha (hQ _ _ (fun A' hA => Walks.strWide hA _ x t) ⟨_, Heap.get?_push_size _ rfl, rfl, rfl⟩ fun i h st => ⟨_, st.choose_spec.1⟩)
  · exact wpAny_pyIter_ascii ha (hQ _ _ (fun A' hA => Walks.strAscii hA _ x t) ⟨_, Heap.get?_push_size _ rfl, rfl, rfl⟩ fun i h st => ⟨_, st.choose_spec.1⟩)
theorem str_st {I : Addr} {n : Nat} {P : Nat → Value → Prop} {St : Nat → Heap → Prop} (W : Walks prog w A I [I] [I] n P St) : ∀ i (h h' : Heap) (o : Obj) (nw : List (Addr × Obj)), St i h → h.get? I = some o → h'.get? I = some o → (∀ b o, h₀.get? b = some o → h'.get? b = some o) → News h₀ L h' nw → True → St i h' :=
  fun i h h' o nw st e e' _ _ _ => W.frame _ _ _ st fun b hb o' e2 => by
    rw [List.mem_singleton.mp hb] at e2 ⊢
    rw [e] at e2
    cases e2
    exact e'
theorem ListComp_SU {elt iter : Expr} {x : Str} {px : Pos} {scope : Scope} {cl : List (Str × Addr)} {pos : Pos} {Q : Value → Shared → Prop} (F₀ : Fr h₀ L s.heap m)
    (hclos : closureFor scope env = pure cl) (hcell : ∀ y ∈ scope.names, y.2 ≠ .cell) (hkind : scope.kind = .function)
    (hnames : ∀ y ∈ scope.names, y.2 = .local → scope.names.lookup y.1 = some .local) (hx : scope.names.lookup x = some .local)
    (h : wpAny (model prog w) A (eval iter env) (fun xv s₁ => ∃ st t news, xv = .str st t ∧ A.handled = none ∧ Fr h₀ L s₁.heap m ∧ News h₀ L s₁.heap news ∧ st.cps.size ≤ sizeLine ∧
      ∀ s₂ : Shared, (∃ h, s₂ = { s₁ with heap := h }) → LCg.CompRest prog w A h₀ L m env elt x scope cl s₂ (fun _ => True) (SignAt st) (LCg.FinE h₀ L m s₂ Q) st.cps.size 0 [] news) E s)
    (hs : ∀ x, foldedSetIterable iter env x = pure x := by intro _; rfl) :
    wpAny (model prog w) A (eval (.ListComp elt [⟨.Name x px, iter, [], 0⟩] scope pos) env) Q E s := by
  rw [eval_ListComp]
  refine wpAny_comprehension_free (use := none) rfl hs hclos hkind hnames (wpAny_mono h (fun xv s₁ h₁ => ?_) fun _ _ e => e)
  obtain ⟨st, t, news, rfl, hh, F, N, hsz, R⟩ := h₁
  refine pyIter_strU fun o St W hst hex => ?_
  refine LCg.block_U (W A hh) hsz hex (str_st (W A hh)) hcell hkind hx hst (fun b hb => ?_)
    (F.keeps fun _ _ e => Heap.get?_push_of_some _ e) (N.grown fun _ _ e => Heap.get?_push_of_some _ e) (Nat.ne_of_lt F.ns.lt) (next_is_new F) (fun p hp => Nat.ne_of_lt (Heap.lt_size (N p hp).1)) trivial (R _ ⟨_, rfl⟩) ?_
  · rw [List.mem_singleton.mp hb]
    show s₁.heap.objs.size < (s₁.heap.push _).objs.size
    rw [Heap.size_push]; exact Nat.lt_succ_self _
  · intro D C h tk m' ys news' F' N' o1 hn hC₀ hD₀ hCL hDL hCD offC fin
    refine ⟨m', hn, fun h'' hs'' => fin D h'' tk (F'.change hs'' hCL hC₀) (fun p hp => ?_) o1⟩
    refine ⟨hs''.extBut _ _ ?_ (N' p hp).1, (N' p hp).2⟩
    rcases List.mem_cons.mp hp with rfl | hp
    · exact Ne.symm hCD
    · exact offC p hp
theorem ListComp_ST {ct elt iter : Expr} {x : Str} {px : Pos} {scope : Scope} {cl : List (Str × Addr)} {pos : Pos} {Q : Value → Shared → Prop} (F₀ : Fr h₀ L s.heap m)
    (hclos : closureFor scope env = pure cl) (hcell : ∀ y ∈ scope.names, y.2 ≠ .cell) (hkind : scope.kind = .function)
    (hnames : ∀ y ∈ scope.names, y.2 = .local → scope.names.lookup y.1 = some .local) (hx : scope.names.lookup x = some .local)
    (h : wpAny (model prog w) A (eval iter env) (fun xv s₁ => ∃ st t news, xv = .str st t ∧ A.handled = none ∧ Fr h₀ L s₁.heap m ∧ News h₀ L s₁.heap news ∧ st.cps.size ≤ sizeLine ∧
      ∀ s₂ : Shared, (∃ h, s₂ = { s₁ with heap := h }) → LCt.CompRestT prog w A h₀ L m env ct elt x scope cl s₂ (fun _ => True) (SignAt st) (LCg.FinE h₀ L m s₂ Q) st.cps.size 0 [] news) E s)
    (hs : ∀ x, foldedSetIterable iter env x = pure x := by intro _; rfl) :
    wpAny (model prog w) A (eval (.ListComp elt [⟨.Name x px, iter, [ct], 0⟩] scope pos) env) Q E s := by
  rw [eval_ListComp]
  refine wpAny_comprehension_free (use := none) rfl hs hclos hkind hnames (wpAny_mono h (fun xv s₁ h₁ => ?_) fun _ _ e => e)
  obtain ⟨st, t, news, rfl, hh, F, N, hsz, R⟩ := h₁
  refine pyIter_strU fun o St W hst hex => ?_
  refine LCt.block_T (W A hh) hsz hex (str_st (W A hh)) hcell hkind hx hst (fun b hb => ?_)
    (F.keeps fun _ _ e => Heap.get?_push_of_some _ e) (N.grown fun _ _ e => Heap.get?_push_of_some _ e) (Nat.ne_of_lt F.ns.lt) (next_is_new F) (fun p hp => Nat.ne_of_lt (Heap.lt_size (N p hp).1)) trivial (R _ ⟨_, rfl⟩) ?_
  · rw [List.mem_singleton.mp hb]
    show s₁.heap.objs.size < (s₁.heap.push _).objs.size
    rw [Heap.size_push]; exact Nat.lt_succ_self _
  · intro D C h tk m' ys news' F' N' o1 hn hC₀ hD₀ hCL hDL hCD offC fin
    refine ⟨m', hn, fun h'' hs'' => fin D h'' tk (F'.change hs'' hCL hC₀) (fun p hp => ?_) o1⟩
    refine ⟨hs''.extBut _ _ ?_ (N' p hp).1, (N' p hp).2⟩
    rcases List.mem_cons.mp hp with rfl | hp
    · exact Ne.symm hCD
    · exact offC p hp
end
end
section
/-! ## A call of a def with captured names -/
section
variable {prog : Program} {w : World} {A₀ A : Around} {s : Shared} {base h₀ : Heap} {outer : List Env} {L : Addr} {m : Str → Option Value} {env : Env} {news : List (Addr × Obj)} {K : Frag}
  {Q E : Value → Shared → Prop} {R : Result → Shared → Prop} {name qual : Str} {params : Arguments} {body : List Stmt} {scope : Scope} {dV kV doc pm cdv ct oc : Value} {an od : Option Addr} {osl : Array (Option Value)} {f : Addr} {vals : List Value} {args : Args} {binds : List (Str × Value)}
  {p : Program} {loose : List Str} {mean : ExcName → Option Value} {mg mb : Str → Option Value}
theorem code_defCG
    (B : Below A₀ base outer h₀) (F : Fr h₀ L s.heap m) (X₀ : K.In h₀) (N : News h₀ L s.heap news) (T : Top p loose mean mg mb h₀) (hA : A.frames = some (env :: outer)) (hf : env.frame = some L) (hke : env.scope.kind = .function)
    (ho : K.lookup f = some ⟨oc, od, .func (fnOf name qual params body scope dV kV doc pm an cdv ct), osl⟩) (hcd : codeIn K cdv qual = true) (hroom : A.depth < recursionLimit)
    (hbind : BindsTo s (fnOf name qual params body scope dV kV doc pm an cdv ct) args binds) (hkind : (binds.all fun y => scope.names.lookup y.1 == some .local || scope.names.lookup y.1 == some .cell) = true)
    (hnd : ((cellsFrom 0 scope.names []).map (·.1)).Nodup)
    (h : ∀ g L' h₁ tk cells, Fr g L' h₁ (bindL (envOfC qual scope L' f cdv).kindOf binds fun _ => none) → News g L' h₁ (cells ++ news) →
      CellsAre (bindC (envOfC qual scope L' f cdv).kindOf binds fun _ => none) (cellsFrom (L' + 1) scope.names []) cells → Below A base (env :: outer) g → K.In g → Top p loose mean mg mb g → (∀ p ∈ news, p.1 < L') → GSub s.heap g (news.map (·.1)) →
      wpAny (model prog w) (A.deeper (envOfC qual scope L' f cdv)) (execs body (envOfC qual scope L' f cdv))
        (fun fl s' => LeaveK h₀ L m g R (match fl with | .ret v => v | _ => .none) s')
        (fun e s' => wpAny (model prog w) (A.deeper (envOfC qual scope L' f cdv)) (leaving (envOfC qual scope L' f cdv) e) (fun _ s'' => R (.error e) s'') (fun e' s'' => R (.error e') s'') s')
        { s with heap := h₁, toks := tk })
    (hco : scope.isCoroutine = false) (hgen : scope.isGenerator = false) (hk : scope.kind = .function) : codeAny (model prog w) A (.call (.ref f) args) R s := by
  obtain ⟨FG, BG, st, lv⟩ := groundX (R := R) B F N hA hf hke
  refine codeAny_call_function hroom ((X₀.keeps F.keep) _ _ ho) rfl hco hgen rfl (codeRec_of (X₀.keeps F.keep) hcd) (hbind _ _ _ _ ?_)
  refine wpAny_newFunctionEnv_cells hk (kindsX hkind _) fun env' he s' x => ?_
  subst he
  refine ⟨(T.nolimit.keeps F.keep).keeps x.toInCall.keep, codeAny_func ?_⟩
  obtain ⟨h₁, tk, rfl, _⟩ := x.done
  have hk₁ := x.toInCall.keep
  obtain ⟨cells, NC, Y⟩ := Cl.news (h₀ := s.heap) (Nat.le_refl _) fun n c hm => ⟨x.cell n c (lookup_of_mem_nodup (cellsFrom_names scope.names 0 (s.heap.objs.size + 1) [] [] rfl ▸ hnd) hm), x.above n c hm⟩
  refine wpAny_mono (h _ s.heap.objs.size h₁ tk cells ⟨x.toInCall.ns, fun b o e => hk₁ b o (of_hideAll _ e), Nat.le_of_eq (hideAll_size _ _)⟩ (fun p hp => ?_) Y BG (X₀.keeps st) (T.keeps st) (fun p hp => Heap.lt_size (N p hp).1) (fun b o e n => hideAll_get _ e n)) (fun fl s' hl => lv _ _ hl) fun _ _ y => y
  rcases List.mem_append.mp hp with hp | hp
  · refine ⟨(NC p hp).1, (NC p hp).2.1, ?_⟩
    cases q : (hideAll s.heap (news.map (·.1))).get? p.1 with
    | none => rfl
    | some o => have := of_hideAll _ q; rw [(NC p hp).2.2] at this; cases this
  · exact ⟨hk₁ _ _ (N p hp).1, Nat.ne_of_lt (Heap.lt_size (N p hp).1), hideAll_none _ (List.mem_map_of_mem hp)⟩
theorem enterX (B : Below A₀ base outer h₀) (F : Fr h₀ L s.heap m) (X₀ : K.In h₀) (N : News h₀ L s.heap news) (T : Top p loose mean mg mb h₀) (D rest : List (Addr × Obj)) (hD : ∀ q ∈ D, q ∈ news) (hrest : ∀ q ∈ rest, q ∈ news ∧ q.1 ∉ D.map (·.1))
    (hA : A.frames = some (env :: outer)) (hf : env.frame = some L) (hke : env.scope.kind = .function)
    (ho : K.lookup f = some ⟨oc, od, .func (fnOf name qual params body scope dV kV doc pm an cdv ct), osl⟩) (hcd : codeIn K cdv qual = true) (hroom : A.depth < recursionLimit)
    (hbind : BindsTo s (fnOf name qual params body scope dV kV doc pm an cdv ct) ⟨vals, []⟩ binds) (hkind : (binds.all fun y => scope.names.lookup y.1 == some .local || scope.names.lookup y.1 == some .cell) = true)
    (hnd : ((cellsFrom 0 scope.names []).map (·.1)).Nodup)
    (h : ∀ g L' h₁ tk cells (PQ : Flow → Shared → Prop) (PE : Value → Shared → Prop), GSub s.heap g (D.map (·.1)) → Fr g L' h₁ (bindL (envOfC qual scope L' f cdv).kindOf binds fun _ => none) → News g L' h₁ (cells ++ D) →
      CellsAre (bindC (envOfC qual scope L' f cdv).kindOf binds fun _ => none) (cellsFrom (L' + 1) scope.names []) cells → (∀ p ∈ D, p.1 < L') → Below A base (env :: outer) g → K.In g → Top p loose mean mg mb g →
      (∀ fl s', BRet g L' (fun v news' s' => Back h₀ L m rest news' s'.heap → Q v s') fl s' → PQ fl s') →
      PassesOwn (model prog w) (A.deeper (envOfC qual scope L' f cdv)) (envOfC qual scope L' f cdv) PE →
      (∀ e s', BErr (model prog w) (A.deeper (envOfC qual scope L' f cdv)) (envOfC qual scope L' f cdv) E e s' → PE e s') →
      wpAny (model prog w) (A.deeper (envOfC qual scope L' f cdv)) (execs body (envOfC qual scope L' f cdv)) PQ PE { s with heap := h₁, toks := tk })
    (hco : scope.isCoroutine = false) (hgen : scope.isGenerator = false) (hk : scope.kind = .function) : wpAny (model prog w) A (call (.ref f) vals) Q E s := by
  refine wpAny_call ?_
  refine code_defCG B F X₀ (N := fun q hq => N q (hD q hq)) T hA hf hke ho hcd hroom hbind hkind hnd (fun g L' h₁ tk cells F' N' Y B' X' T' l G => ?_) hco hgen hk
  refine wpAny_mono (h g L' h₁ tk cells (BRet g L' fun v news' s' => Back h₀ L m rest news' s'.heap → Q v s') (BErr (model prog w) (A.deeper (envOfC qual scope L' f cdv)) (envOfC qual scope L' f cdv) E) G F' N' Y l B' X' T' (fun _ _ x => x) PassesOwn.leaving fun _ _ x => x) (fun fl s' hl => ?_) fun _ _ e => e
  obtain ⟨m', news', F'', N'', k⟩ := hl
  refine ⟨L', m', news', F'', N'', fun F₁ N₁ => ?_⟩
  have b : Back h₀ L m rest news' s'.heap := ?_
  · have z := k b
    cases fl <;> exact z
  refine ⟨F₁, fun q hq => ?_, fun q hq r hr e => ?_⟩
  · rcases List.mem_append.mp hq with hq | hq
    · exact N₁ q hq
    · have z := N q (hrest q hq).1
      exact ⟨F''.keep _ _ (G _ _ z.1 (hrest q hq).2), z.2⟩
  · have z := G _ _ (N r (hrest r hr).1).1 (hrest r hr).2
    have y := (N'' q hq).2.2
    rw [e, z] at y
    cases y
end
end
section
noncomputable def isDig (c : Int) : Bool := decide (48 ≤ c) && decide (c ≤ 57)
noncomputable def digRun (ns : List Int) (k : Nat) : List Int := (ns.drop k).takeWhile isDig
noncomputable def digVal (l : List Int) : Int := l.foldl (fun f c => 10 * f + c - 48) 0
theorem digVal_snoc (l : List Int) (c : Int) : digVal (l ++ [c]) = 10 * digVal l + c - 48 := by simp [digVal]
theorem tw_go {p : Int → Bool} : ∀ (l : List Int) (i : Nat) (c : Int), i ≤ (l.takeWhile p).length → l[i]? = some c → p c = true → i < (l.takeWhile p).length ∧ (l.takeWhile p)[i]? = some c := by
  intro l
  induction l with
  | nil => intro i c _ h; simp at h
  | cons x r ih =>
    intro i c hi h hp
    by_cases hx : p x = true
    · rw [List.takeWhile_cons_of_pos hx] at hi ⊢
      cases i with
      | zero =>
        simp only [List.getElem?_cons_zero, Option.some.injEq] at h ⊢
        exact ⟨by simp, h⟩
      | succ j =>
        simp only [List.getElem?_cons_succ, List.length_cons] at h hi ⊢
        have := ih j c (by omega) h hp
        exact ⟨by omega, this.2⟩
    · rw [List.takeWhile_cons_of_neg hx] at hi ⊢
      have : i = 0 := by simpa using hi
      subst this
      simp only [List.getElem?_cons_zero, Option.some.injEq] at h
      exact absurd (h ▸ hp) hx
theorem tw_stop {p : Int → Bool} : ∀ (l : List Int) (i : Nat), i ≤ (l.takeWhile p).length → (∀ c, l[i]? = some c → p c = false) → i = (l.takeWhile p).length := by
  intro l
  induction l with
  | nil => intro i hi _; simpa using hi
  | cons x r ih =>
    intro i hi h
    by_cases hx : p x = true
    · rw [List.takeWhile_cons_of_pos hx] at hi ⊢
      cases i with
      | zero => have := h x (by simp); rw [hx] at this; cases this
      | succ j =>
        simp only [List.length_cons] at hi ⊢
        have := ih j (by omega) (fun c hc => h c (by simpa using hc))
        omega
    · rw [List.takeWhile_cons_of_neg hx] at hi ⊢
      simpa using hi
theorem getD_get {ns : List Int} {n : Nat} (h : n < ns.length) : ns[n]? = some (ns.getD n 0) := by
  rw [List.getD_eq_getElem?_getD]; simp [h]
theorem run_go {ns : List Int} {k i : Nat} {c : Int} (hi : i ≤ (digRun ns k).length) (hc : c = k + i) (h0 : c < ns.length) (h1 : 48 ≤ ns.getD c.toNat 0) (h2 : ns.getD c.toNat 0 ≤ 57) :
    i < (digRun ns k).length ∧ (digRun ns k).take (i + 1) = (digRun ns k).take i ++ [ns.getD c.toNat 0] := by
  have e : c.toNat = k + i := by omega
  rw [e] at h1 h2 ⊢
  have h := getD_get (ns := ns) (n := k + i) (by omega)
  have := tw_go (p := isDig) (ns.drop k) i _ hi (by rw [List.getElem?_drop]; exact h) (by simp only [isDig, Bool.and_eq_true, decide_eq_true_eq]; exact ⟨h1, h2⟩)
  refine ⟨this.1, ?_⟩
  rw [List.take_add_one]
  show _ ++ (digRun ns k)[i]?.toList = _
  rw [show (digRun ns k)[i]? = _ from this.2]
  rfl
theorem run_stop {ns : List Int} {k i : Nat} {c : Int} (hi : i ≤ (digRun ns k).length) (hc : c = k + i) (h : ¬ (c < ns.length ∧ 48 ≤ ns.getD c.toNat 0 ∧ ns.getD c.toNat 0 ≤ 57)) : i = (digRun ns k).length := by
  have e : c.toNat = k + i := by omega
  rw [e] at h
  refine tw_stop (ns.drop k) i hi fun d hd => ?_
  rw [List.getElem?_drop] at hd
  have hlt : k + i < ns.length := by
    rcases Nat.lt_or_ge (k + i) ns.length with h | h
    · exact h
    · rw [List.getElem?_eq_none h] at hd; cases hd
  rw [getD_get hlt] at hd
  cases hd
  have : ¬ (48 ≤ ns.getD (k + i) 0 ∧ ns.getD (k + i) 0 ≤ 57) := fun q => h ⟨by omega, q⟩
  simp only [isDig, Bool.and_eq_false_iff, decide_eq_false_iff_not]
  omega
theorem digVal_bound (l : List Int) (h : ∀ c ∈ l, 48 ≤ c ∧ c ≤ 57) : 0 ≤ digVal l ∧ digVal l < 10 ^ l.length := by
  have key : ∀ (l : List Int) (f : Int), 0 ≤ f → (∀ c ∈ l, 48 ≤ c ∧ c ≤ 57) → 0 ≤ l.foldl (fun f c => 10 * f + c - 48) f ∧ l.foldl (fun f c => 10 * f + c - 48) f < (f + 1) * 10 ^ l.length := by
    intro l
    induction l with
    | nil => intro f hf _; simp; omega
    | cons x r ih =>
      intro f hf h
      have hx := h x (by simp)
      have := ih (10 * f + x - 48) (by omega) fun d hd => h d (by simp [hd])
      refine ⟨this.1, Int.lt_of_lt_of_le this.2 ?_⟩
      rw [List.length_cons, Int.pow_succ]
      have hp : (0 : Int) ≤ 10 ^ r.length := Int.pow_nonneg (by decide)
      have e : (f + 1) * (10 ^ r.length * 10) = (10 * f + 10) * 10 ^ r.length := by rw [Int.mul_comm (10 ^ r.length) 10, ← Int.mul_assoc]; congr 1; omega
      rw [e]
      exact Int.mul_le_mul_of_nonneg_right (by omega) hp
  have := key l 0 (Int.le_refl _) h
  simpa [digVal] using this
theorem digRun_dig {ns : List Int} {k : Nat} : ∀ c ∈ digRun ns k, 48 ≤ c ∧ c ≤ 57 := by
  intro c hc
  have : isDig c = true := by
    have := List.all_takeWhile (p := isDig) (l := ns.drop k)
    exact List.all_eq_true.mp this c hc
  simpa [isDig] using this
theorem digVal_small {ns : List Int} {k i : Nat} (hr : (digRun ns k).length ≤ 4) : 0 ≤ digVal ((digRun ns k).take i) ∧ digVal ((digRun ns k).take i) < 10000 := by
  have h := digVal_bound ((digRun ns k).take i) fun c hc => digRun_dig c (List.mem_of_mem_take hc)
  have hl : ((digRun ns k).take i).length ≤ 4 := by rw [List.length_take]; omega
  refine ⟨h.1, ?_⟩
  have : (10 : Int) ^ ((digRun ns k).take i).length ≤ 10 ^ 4 := by
    have h4 : ((digRun ns k).take i).length = 0 ∨ ((digRun ns k).take i).length = 1 ∨ ((digRun ns k).take i).length = 2 ∨ ((digRun ns k).take i).length = 3 ∨ ((digRun ns k).take i).length = 4 := by omega
    rcases h4 with h | h | h | h | h <;> rw [h] <;> decide
  omega
section
variable {w : World} {dp un : Nat} {gd : Option (List Code)} {cn : Str} {cs : Scope} {a : Addr} {ccd : Value} {cl : List (Str × Addr)} {outer : List Env} {A₀ : Around} {base h₀ : Heap} {L : Addr}
  {m : Str → Option Value} {s : Shared} {Q E : Value → Shared → Prop} {loose : List Str} {mean : ExcName → Option Value} {mg mb : Str → Option Value} {p : Program} {news : List (Addr × Obj)}

theorem numfrom_c {lc : Addr} {vs : List Value} {ns : List Int} {k : Nat} {tk₀ : Tok}
  (B : Below A₀ base outer h₀) (F : Fr h₀ L s.heap m) (X : (heapK w.params).In h₀) (N : News h₀ L s.heap news) (T : Top p loose mean mg mb h₀) (hk : cs.kind = .function)
  (hl : s.heap.IsList lc vs.toArray) (hi : IntsAre vs ns) (hlen : ns.length ≤ 1000) (hr : (digRun ns k).length ≤ 4)
  (hd : dp + 1 < recursionLimit) (hu : un + 8 < cLine)
  (hret : ∀ r t1 t2 n h' tk', Fr h₀ L h' m → News h₀ L h' ((r, ({ cls := .type "tuple", data := .seq #[.int (digVal (digRun ns k)) t1, .int (k + (digRun ns k).length) t2] n } : Obj)) :: news) → LCg.Off1 r news → Q (.ref r) { s with heap := h', toks := tk' })  :
  wpAny (model PySem.Challenge.rw_np0086_01.row.prog w) (ktrTop dp un gd cn cs L a ccd cl outer) (call (.ref 69) [.ref lc, .int k tk₀]) Q E s := by
  (revert X; k_fill; intro X)
  k_dflt (refine enterD (binds := [("codes", .ref lc), ("at", .int k tk₀)]) B F X N T [] news (fun _ h => nomatch h) (fun q hq => ⟨hq, fun h => nomatch h⟩) rfl rfl hk (by k_is) (by k_is) (by ktr_room) (BindsTo.of_eq rfl) (locs rfl) ?_ rfl rfl rfl (by decide))
  intro g L' h₁ tk PQ PE G F' N' B' X' T' hPQ hPE hEx
  set_option simprocs false in dsimp only [b69, qb69]
  have hl' := gList G hl
  clear B F N T X G hl
  walk_at "S"
  rename Fr g L' _ _ => F1
  rename News g L' _ _ => N1
  refine whileA (fun n Z => ∀ (i : Nat) (f c : Int) (t1 t2 : Tok) h' tk' m', Fr g L' h' (over m' [(Str.ofString "found", .int f t1), (Str.ofString "at", .int c t2), (Str.ofString "codes", .ref lc)]) → News g L' h' [] → n = (digRun ns k).length - i → i ≤ (digRun ns k).length → f = digVal ((digRun ns k).take i) → c = k + i → Z h' tk')
    (fun Z => ∀ (f c : Int) (t1 t2 : Tok) h' tk' m', Fr g L' h' (over m' [(Str.ofString "found", .int f t1), (Str.ofString "at", .int c t2)]) → News g L' h' [] → f = digVal (digRun ns k) → c = k + (digRun ns k).length → Z h' tk') (fun _ _ c9 i f c t1 t2 h' tk' m' x0 x1 x2 x3 x4 x5 => c9 _ _ fun _ q9 => q9 i f c t1 t2 h' tk' m' x0 x1 x2 x3 x4 x5) (fun Z hZ => hZ 0 _ _ _ _ _ _ _ (frB F1 (by rfl)) N1 rfl (Nat.zero_le _) rfl (by simp)) ?_ ?_ hPE
  · rintro n ZJ ZX hZJ hZX i f c t1 t2 h₂ tk₂ m₁ F2 N2 rfl hi2 hf hc
    clear F1 N1
    repeat' walk_at "K"
    · have hg := run_go hi2 hc (by assumption) (by assumption) (by assumption)
      have hv := digVal_snoc ((digRun ns k).take i) (ns.getD c.toNat 0)
      rw [← hg.2, ← hf] at hv
      have hb := (digVal_small (ns := ns) (k := k) (i := i + 1) hr).2
      rw [hv] at hb
      walk_at "S"
      walk_at "S"
      exact hZJ ((digRun ns k).length - (i + 1)) (by omega) (i + 1) _ _ _ _ _ _ _ (frB (by assumption) (by rfl)) News.nil rfl (by omega) hv.symm (by omega)
    all_goals
      have hs := run_stop hi2 hc (by omega)
      exact hZX _ _ _ _ _ _ _ (frB (by assumption) (by rfl)) News.nil (by rw [hf, hs, List.take_length]) (by omega)
  · rintro f c t1 t2 h₂ tk₂ m₁ F2 N2 rfl rfl
    clear F1 N1
    walk_at "S"
    exact hPQ _ _ ⟨_, _, by assumption, by assumption, fun b => hret _ _ _ _ _ _ b.fr (b.one (by k_mem)) (b.off1 (by k_mem))⟩
end
end
section
noncomputable def isFlag (c : Int) : Bool := [45, 43, 32, 48, 35].any fun x => x == c
noncomputable def flagRun (ns : List Int) (k : Nat) : List Int := (ns.drop k).takeWhile isFlag
noncomputable def setFlag (d : SD) (c : Int) : SD := { d with left := d.left || c == 45, plus := d.plus || c == 43, blank := d.blank || c == 32, noughts := d.noughts || c == 48, marked := d.marked || c == 35 }
noncomputable def setFlags (d : SD) (l : List Int) : SD := l.foldl setFlag d
theorem setFlags_snoc (d : SD) (l : List Int) (c : Int) : setFlags d (l ++ [c]) = setFlag (setFlags d l) c := by simp [setFlags]
theorem frun_go {ns : List Int} {k i : Nat} {c : Int} (hi : i ≤ (flagRun ns k).length) (hc : c = k + i) (h0 : c < ns.length) (h1 : isFlag (ns.getD c.toNat 0) = true) :
    i < (flagRun ns k).length ∧ (flagRun ns k).take (i + 1) = (flagRun ns k).take i ++ [ns.getD c.toNat 0] := by
  have e : c.toNat = k + i := by omega
  rw [e] at h1 ⊢
  have h := getD_get (ns := ns) (n := k + i) (by omega)
  have := tw_go (p := isFlag) (ns.drop k) i _ hi (by rw [List.getElem?_drop]; exact h) h1
  refine ⟨this.1, ?_⟩
  rw [List.take_add_one]
  show _ ++ (flagRun ns k)[i]?.toList = _
  rw [show (flagRun ns k)[i]? = _ from this.2]
  rfl
theorem frun_stop {ns : List Int} {k i : Nat} {c : Int} (hi : i ≤ (flagRun ns k).length) (hc : c = k + i) (h : ¬ (c < ns.length ∧ isFlag (ns.getD c.toNat 0) = true)) : i = (flagRun ns k).length := by
  have e : c.toNat = k + i := by omega
  rw [e] at h
  refine tw_stop (ns.drop k) i hi fun d hd => ?_
  rw [List.getElem?_drop] at hd
  have hlt : k + i < ns.length := by
    rcases Nat.lt_or_ge (k + i) ns.length with h | h
    · exact h
    · rw [List.getElem?_eq_none h] at hd; cases hd
  rw [getD_get hlt] at hd
  cases hd
  cases q : isFlag (ns.getD (k + i) 0) with
  | false => rfl
  | true => exact absurd ⟨by omega, q⟩ h
section
variable {w : World} {dp un : Nat} {gd : Option (List Code)} {cn : Str} {cs : Scope} {a : Addr} {ccd : Value} {cl : List (Str × Addr)} {outer : List Env} {A₀ : Around} {base h₀ : Heap} {L : Addr}
  {m : Str → Option Value} {s : Shared} {Q E : Value → Shared → Prop} {loose : List Str} {mean : ExcName → Option Value} {mg mb : Str → Option Value} {p : Program} {news : List (Addr × Obj)}

theorem flags_c {lc x dx : Addr} {vs : List Value} {ns : List Int} {k : Nat} {tk₀ : Tok} {d : SD} {kt : Nat → Tok} {ta tb tc td : Tok} {rest : List (Addr × Obj)}
  (B : Below A₀ base outer h₀) (F : Fr h₀ L s.heap m) (X : (heapK w.params).In h₀) (N : News h₀ L s.heap news) (T : Top p loose mean mg mb h₀) (hk : cs.kind = .function)
  (hl : s.heap.IsList lc vs.toArray) (hi : IntsAre vs ns) (hlen : ns.length ≤ 1000) (hx : (x, instO 58 dx) ∈ news) (hdx : (dx, dictOf (specEs w d kt ta tb tc td) 9) ∈ news) (hxd : x ≠ dx)
  (hrest : ∀ q ∈ rest, q ∈ news ∧ q.1 ≠ x ∧ q.1 ≠ dx)
  (hd : dp + 1 < recursionLimit) (hu : un + 8 < cLine)
  (hret : ∀ t1 h' tk', Fr h₀ L h' m → News h₀ L h' ((x, instO 58 dx) :: (dx, dictOf (specEs w (setFlags d (flagRun ns k)) kt ta tb tc td) 9) :: rest) → Q (.int (k + (flagRun ns k).length) t1) { s with heap := h', toks := tk' })  :
  wpAny (model PySem.Challenge.rw_np0086_01.row.prog w) (ktrTop dp un gd cn cs L a ccd cl outer) (call (.ref 76) [.ref x, .ref lc, .int k tk₀]) Q E s := by
  have hlx : lc ≠ x := by
    rintro rfl
    obtain ⟨o, ho, hc, _⟩ := hl
    rw [(N _ hx).1] at ho
    cases ho
    simp at hc
  have hld : lc ≠ dx := by
    rintro rfl
    obtain ⟨o, ho, hc, _⟩ := hl
    rw [(N _ hdx).1] at ho
    cases ho
    simp at hc
  (revert X; k_fill; intro X)
  k_dflt (refine enterD (binds := [("spec", .ref x), ("codes", .ref lc), ("at", .int k tk₀)]) B F X N T [(x, instO 58 dx), (dx, dictOf (specEs w d kt ta tb tc td) 9)] rest (by intro q hq; simp only [List.mem_cons, List.not_mem_nil, or_false] at hq; rcases hq with rfl | rfl <;> assumption) (by intro q hq; have := hrest q hq; refine ⟨this.1, ?_⟩; simp; exact this.2) rfl rfl hk (by k_is) (by k_is) (by ktr_room) (BindsTo.of_eq rfl) (locs rfl) ?_ rfl rfl rfl (by decide))
  intro g L' h₁ tk PQ PE G F' N' B' X' T' hPQ hPE hEx
  set_option simprocs false in dsimp only [b76, qb76]
  have hl' := gList G hl (by simp; exact ⟨hlx, hld⟩)
  clear B F N T X G hl
  refine whileA (fun n Z => ∀ (i : Nat) (c : Int) (t2 : Tok) (d' : SD) h' tk' m', Fr g L' h' (over m' [(Str.ofString "at", .int c t2), (Str.ofString "codes", .ref lc), (Str.ofString "spec", .ref x)]) → News g L' h' [(x, instO 58 dx), (dx, dictOf (specEs w d' kt ta tb tc td) 9)] → n = (flagRun ns k).length - i → i ≤ (flagRun ns k).length → d' = setFlags d ((flagRun ns k).take i) → c = k + i → Z h' tk')
    (fun Z => ∀ (c : Int) (t2 : Tok) (d' : SD) h' tk' m', Fr g L' h' (over m' [(Str.ofString "at", .int c t2)]) → News g L' h' [(x, instO 58 dx), (dx, dictOf (specEs w d' kt ta tb tc td) 9)] → d' = setFlags d (flagRun ns k) → c = k + (flagRun ns k).length → Z h' tk') (fun _ _ c9 i c t2 d' h' tk' m' x0 x1 x2 x3 x4 x5 => c9 _ _ fun _ q9 => q9 i c t2 d' h' tk' m' x0 x1 x2 x3 x4 x5) (fun Z hZ => hZ 0 _ _ _ _ _ _ (frB F' (by rfl)) N' rfl (Nat.zero_le _) rfl (by simp)) ?_ ?_ hPE
  · rintro n ZJ ZX hZJ hZX i c t2 d' h₂ tk₂ m₁ F2 N2 rfl hi2 hf hc
    clear F' N'
    repeat' walk_at "K"
    · rename (List.any _ _ = true) => hfl
      have hg := frun_go hi2 hc (by assumption) hfl
      have hv := setFlags_snoc d ((flagRun ns k).take i) (ns.getD c.toNat 0)
      rw [← hg.2, ← hf] at hv
      clear hfl hf
      generalize hvv : ns.getD c.toNat 0 = v at hv
      refine cutA (fun Z => ∀ (t3 : Tok) h' tk' m', Fr g L' h' (over m' [(Str.ofString "code", .int v t3), (Str.ofString "at", .int c t2), (Str.ofString "codes", .ref lc), (Str.ofString "spec", .ref x)]) → News g L' h' [(x, instO 58 dx), (dx, dictOf (specEs w d' kt ta tb tc td) 9)] → Z h' tk') ?_ ?_
      · intro Z hZ
        repeat' walk_at "K"
        exact hZ _ _ _ _ (frA (by assumption) (by exact ⟨by rw [← hvv]; rfl, rfl, rfl, rfl, trivial⟩)) (cb_drop (by assumption) (by intro q hq; exact List.mem_cons_of_mem _ hq))
      (try clear F2 N2)
      intro t3 h3 tk3 m3 F3 N3
      refine cutA (fun Z => ∀ (t3 : Tok) (e : SD) h' tk' m', Fr g L' h' (over m' [(Str.ofString "code", .int v t3), (Str.ofString "at", .int c t2), (Str.ofString "codes", .ref lc), (Str.ofString "spec", .ref x)]) → News g L' h' [(x, instO 58 dx), (dx, dictOf (specEs w e kt ta tb tc td) 9)] → e = { d' with left := d'.left || v == 45 } → Z h' tk') ?_ ?_
      · intro Z hZ
        repeat' walk_at "K"
        all_goals exact hZ _ ({ d' with left := d'.left || v == 45 }) _ _ _ (frB (by assumption) (by rfl)) (ledA (by assumption) (by simp [specEs, *])) rfl
      (try clear F3 N3)
      intro t3 e0 h3 tk3 m3 F3 N3 he0
      refine cutA (fun Z => ∀ (t3 : Tok) (e : SD) h' tk' m', Fr g L' h' (over m' [(Str.ofString "code", .int v t3), (Str.ofString "at", .int c t2), (Str.ofString "codes", .ref lc), (Str.ofString "spec", .ref x)]) → News g L' h' [(x, instO 58 dx), (dx, dictOf (specEs w e kt ta tb tc td) 9)] → e = { e0 with plus := e0.plus || v == 43 } → Z h' tk') ?_ ?_
      · intro Z hZ
        repeat' walk_at "K"
        all_goals exact hZ _ ({ e0 with plus := e0.plus || v == 43 }) _ _ _ (frB (by assumption) (by rfl)) (ledA (by assumption) (by clear he0; simp [specEs, *])) rfl
      (try clear F3 N3)
      intro t3 e1 h3 tk3 m3 F3 N3 he1
      refine cutA (fun Z => ∀ (t3 : Tok) (e : SD) h' tk' m', Fr g L' h' (over m' [(Str.ofString "code", .int v t3), (Str.ofString "at", .int c t2), (Str.ofString "codes", .ref lc), (Str.ofString "spec", .ref x)]) → News g L' h' [(x, instO 58 dx), (dx, dictOf (specEs w e kt ta tb tc td) 9)] → e = { e1 with blank := e1.blank || v == 32 } → Z h' tk') ?_ ?_
      · intro Z hZ
        repeat' walk_at "K"
        all_goals exact hZ _ ({ e1 with blank := e1.blank || v == 32 }) _ _ _ (frB (by assumption) (by rfl)) (ledA (by assumption) (by clear he0 he1; simp [specEs, *])) rfl
      (try clear F3 N3)
      intro t3 e2 h3 tk3 m3 F3 N3 he2
      refine cutA (fun Z => ∀ (t3 : Tok) (e : SD) h' tk' m', Fr g L' h' (over m' [(Str.ofString "code", .int v t3), (Str.ofString "at", .int c t2), (Str.ofString "codes", .ref lc), (Str.ofString "spec", .ref x)]) → News g L' h' [(x, instO 58 dx), (dx, dictOf (specEs w e kt ta tb tc td) 9)] → e = { e2 with noughts := e2.noughts || v == 48 } → Z h' tk') ?_ ?_
      · intro Z hZ
        repeat' walk_at "K"
        all_goals exact hZ _ ({ e2 with noughts := e2.noughts || v == 48 }) _ _ _ (frB (by assumption) (by rfl)) (ledA (by assumption) (by clear he0 he1 he2; simp [specEs, *])) rfl
      (try clear F3 N3)
      intro t3 e3 h3 tk3 m3 F3 N3 he3
      refine cutA (fun Z => ∀ (t3 : Tok) (e : SD) h' tk' m', Fr g L' h' (over m' [(Str.ofString "code", .int v t3), (Str.ofString "at", .int c t2), (Str.ofString "codes", .ref lc), (Str.ofString "spec", .ref x)]) → News g L' h' [(x, instO 58 dx), (dx, dictOf (specEs w e kt ta tb tc td) 9)] → e = { e3 with marked := e3.marked || v == 35 } → Z h' tk') ?_ ?_
      · intro Z hZ
        repeat' walk_at "K"
        all_goals exact hZ _ ({ e3 with marked := e3.marked || v == 35 }) _ _ _ (frB (by assumption) (by rfl)) (ledA (by assumption) (by clear he0 he1 he2 he3; simp [specEs, *])) rfl
      (try clear F3 N3)
      intro t3 e4 h3 tk3 m3 F3 N3 he4
      have hv2 : e4 = setFlag d' v := by rw [he4, he3, he2, he1, he0]; rfl
      clear he0 he1 he2 he3 he4
      walk_at "S"
      exact hZJ ((flagRun ns k).length - (i + 1)) (by omega) (i + 1) _ _ _ _ _ _ (frB (by assumption) (by rfl)) (by assumption) rfl (by omega) (hv2.trans hv.symm) (by omega)
    · have hs := frun_stop hi2 hc (by rintro ⟨_, q⟩; unfold isFlag at q; rename (List.any _ _ = false) => hq; rw [hq] at q; cases q)
      exact hZX _ _ _ _ _ _ (frB (by assumption) (by rfl)) (cb_drop (by assumption) (by intro q hq; exact List.mem_cons_of_mem _ hq)) (by rw [hf, hs, List.take_length]) (by omega)
    · have hs := frun_stop hi2 hc (by rintro ⟨q, _⟩; exact absurd q (by assumption))
      exact hZX _ _ _ _ _ _ (frB (by assumption) (by rfl)) (by assumption) (by rw [hf, hs, List.take_length]) (by omega)
  · rintro c t2 d' h₂ tk₂ m₁ F2 N2 rfl rfl
    walk_at "S"
    exact hPQ _ _ ⟨_, _, by assumption, by assumption, fun b => hret _ _ _ b.fr b.nw⟩
end
end
section
noncomputable def sd0 : SD := ⟨-1, false, false, false, false, false, 0, -1, Str.ofString ""⟩
section
variable {w : World} {dp un : Nat} {gd : Option (List Code)} {cn : Str} {cs : Scope} {a : Addr} {ccd : Value} {cl : List (Str × Addr)} {outer : List Env} {A₀ : Around} {base h₀ : Heap} {L : Addr}
  {m : Str → Option Value} {s : Shared} {Q E : Value → Shared → Prop} {loose : List Str} {mean : ExcName → Option Value} {mg mb : Str → Option Value} {p : Program} {news : List (Addr × Obj)}

theorem specnew_c
  (B : Below A₀ base outer h₀) (F : Fr h₀ L s.heap m) (X : (heapK w.params).In h₀) (N : News h₀ L s.heap news) (T : Top p loose mean mg mb h₀) (hk : cs.kind = .function)
  (hd : dp + 3 < recursionLimit) (hu : un + 24 < cLine)
  (hret : ∀ x dx kt ta tb tc td h' tk', Fr h₀ L h' m → News h₀ L h' ((x, instO 58 dx) :: (dx, dictOf (specEs w sd0 kt ta tb tc td) 9) :: news) → LCg.Off1 x news → LCg.Off1 dx news → x ≠ dx → Q (.ref x) { s with heap := h', toks := tk' })  :
  wpAny (model PySem.Challenge.rw_np0086_01.row.prog w) (ktrTop dp un gd cn cs L a ccd cl outer) (call (.ref 58) []) Q E s := by
  (revert X; k_fill; intro X)
  k_dflt (refine call_cls F X N (by k_is) (by k_is) (by k_is) ?_)
  intro x dx h1 F1 N1 l1 l2
  k_dflt (refine enterC (binds := [("self", .ref x)]) B F1 X N1 T [(x, instO 58 dx), (dx, dictOf [] 0)] news (by intro q hq; simp only [List.mem_cons, List.not_mem_nil, or_false] at hq; rcases hq with rfl | rfl <;> simp) (by intro q hq; refine ⟨by simp [hq], ?_⟩; simp only [List.map_cons, List.map_nil, List.mem_cons, List.not_mem_nil, or_false, not_or]; exact ⟨Nat.ne_of_lt (Nat.lt_trans (l1 q hq) l2), Nat.ne_of_lt (l1 q hq)⟩) rfl rfl hk (by k_is) (by k_is) (by ktr_room) (BindsTo.of_eq rfl) (locs rfl) ?_ rfl rfl rfl (by decide))
  intro g L' h₁ tk PQ PE G F' N' B' X' T' hPQ hPE hEx
  set_option simprocs false in dsimp only [b35, qb35, b55, qb55, b69, qb69, b76, qb76, b83, qb83, b90, qb90, b97, qb97, b104, qb104, b197, qb197, b309, qb309, b316, qb316, b344, qb344, b381, qb381, b442, qb442, b449, qb449, b456, qb456, b463, qb463, b470, qb470, b477, qb477, b512, qb512, b526, qb526, b533, qb533, b540, qb540, b547, qb547, b552, qb552, b559, qb559, b564, qb564, b569, qb569, b576, qb576, b583, qb583, b588, qb588, b595, qb595, b600, qb600]
  clear B F N T X G F1 N1
  have l3 := ltN l2
  iterate 9 walk_at "S"
  refine hPQ _ _ ⟨_, _, by assumption, by assumption, fun b => ⟨rfl, ?_⟩⟩
  exact hret x dx (fun k => [_, _, _, _, _, _, _, _, _].getD k 0) _ _ _ _ _ _ b.fr b.nw (off1_of fun q hq => Nat.ne_of_lt (Nat.lt_trans (l1 q hq) l2)) (off1_of fun q hq => Nat.ne_of_lt (l1 q hq)) (Ne.symm (Nat.ne_of_lt l2))
end
end
section
noncomputable def rsF (ns : List Int) (k : Nat) : Bool := decide (0 < (digRun ns k).length) && decide (k + (digRun ns k).length < ns.length) && decide (ns.getD (k + (digRun ns k).length) 0 = 36)
noncomputable def rsField (ns : List Int) (k : Nat) : Int := if rsF ns k then digVal (digRun ns k) - 1 else -1
noncomputable def rsK1 (ns : List Int) (k : Nat) : Nat := if rsF ns k then k + (digRun ns k).length + 1 else k
noncomputable def rsK2 (ns : List Int) (k : Nat) : Nat := rsK1 ns k + (flagRun ns (rsK1 ns k)).length
noncomputable def rsK3 (ns : List Int) (k : Nat) : Nat := rsK2 ns k + (digRun ns (rsK2 ns k)).length
noncomputable def rsP (ns : List Int) (k : Nat) : Bool := decide (rsK3 ns k < ns.length) && decide (ns.getD (rsK3 ns k) 0 = 46)
noncomputable def rsPrec (ns : List Int) (k : Nat) : Int := if rsP ns k then digVal (digRun ns (rsK3 ns k + 1)) else (setFlags { sd0 with field := rsField ns k } (flagRun ns (rsK1 ns k))).prec
noncomputable def rsK4 (ns : List Int) (k : Nat) : Nat := if rsP ns k then rsK3 ns k + 1 + (digRun ns (rsK3 ns k + 1)).length else rsK3 ns k
noncomputable def rsSD (ns : List Int) (k : Nat) : SD := { setFlags { sd0 with field := rsField ns k } (flagRun ns (rsK1 ns k)) with width := digVal (digRun ns (rsK2 ns k)), prec := rsPrec ns k, letter := Str.mk #[(ns.getD (rsK4 ns k) 0).toNat] }
/-- what a specifier wants to be read without a word of complaint -/
structure ROk (ns : List Int) (k : Nat) : Prop where
  r1 : (digRun ns k).length ≤ 4
  r2 : (digRun ns (rsK2 ns k)).length ≤ 4
  r3 : (digRun ns (rsK3 ns k + 1)).length ≤ 4
  f0 : rsF ns k = true → digVal (digRun ns k) ≠ 0
  k4 : rsK4 ns k < ns.length
  lo : 32 ≤ ns.getD (rsK4 ns k) 0
  hi : ns.getD (rsK4 ns k) 0 < 127
section
variable {w : World} {dp un : Nat} {gd : Option (List Code)} {cn : Str} {cs : Scope} {a : Addr} {ccd : Value} {cl : List (Str × Addr)} {outer : List Env} {A₀ : Around} {base h₀ : Heap} {L : Addr}
  {m : Str → Option Value} {s : Shared} {Q E : Value → Shared → Prop} {loose : List Str} {mean : ExcName → Option Value} {mg mb : Str → Option Value} {p : Program} {news : List (Addr × Obj)}

theorem readspec_c {lc : Addr} {vs : List Value} {ns : List Int} {k : Nat} {tk₀ : Tok}
  (B : Below A₀ base outer h₀) (F : Fr h₀ L s.heap m) (X : (heapK w.params).In h₀) (N : News h₀ L s.heap news) (T : Top p loose mean mg mb h₀) (hk : cs.kind = .function)
  (hl : s.heap.IsList lc vs.toArray) (hi : IntsAre vs ns) (hlen : ns.length ≤ 1000) (hk0 : k ≤ ns.length) (hR : ROk ns k)
  (hd : dp + 6 < recursionLimit) (hu : un + 48 < cLine)
  (hret : ∀ r x dx kt ta tb tc td t1 n h' tk', Fr h₀ L h' m → News h₀ L h' ((r, ({ cls := .type "tuple", data := .seq #[.ref x, .int (rsK4 ns k + 1) t1] n } : Obj)) :: (x, instO 58 dx) :: (dx, dictOf (specEs w (rsSD ns k) kt ta tb tc td) 9) :: news) → LCg.Off1 r news → LCg.Off1 x news → LCg.Off1 dx news → r ≠ x → r ≠ dx → x ≠ dx → Q (.ref r) { s with heap := h', toks := tk' })  :
  wpAny (model PySem.Challenge.rw_np0086_01.row.prog w) (ktrTop dp un gd cn cs L a ccd cl outer) (call (.ref 83) [.ref lc, .int k tk₀]) Q E s := by
  (revert X; k_fill; intro X)
  k_dflt (refine enterD (binds := [("codes", .ref lc), ("at", .int k tk₀)]) B F X N T [] news (fun _ h => nomatch h) (fun q hq => ⟨hq, fun h => nomatch h⟩) rfl rfl hk (by k_is) (by k_is) (by ktr_room) (BindsTo.of_eq rfl) (locs rfl) ?_ rfl rfl rfl (by decide))
  intro g L' h₁ tk PQ PE G F' N' B' X' T' hPQ hPE hEx
  set_option simprocs false in dsimp only [b83, qb83]
  have hl' := gList G hl
  have hr1 := hR.r1
  clear B F N T X G hl
  refine cutA (fun Z => ∀ (x dx : Addr) (kt : Nat → Tok) (ta tb tc td : Tok) h' tk' m', Fr g L' h' (over m' [(Str.ofString "spec", .ref x), (Str.ofString "codes", .ref lc), (Str.ofString "at", .int k tk₀)]) → News g L' h' [(x, instO 58 dx), (dx, dictOf (specEs w sd0 kt ta tb tc td) 9)] → x ≠ dx → Z h' tk') ?_ ?_
  · intro Z hZ
    repeat' (first | ((with_reducible show wpAny _ _ (call (Value.ref 76) _) _ _ _); k_dflt (refine flags_c (rest := []) (by k_asm) (by k_asm) (by k_asm) (by k_asm) (by k_asm) (by rfl) (by walk_at "ISLIST") (by assumption) (by assumption) (by k_mem) (by k_mem) (by assumption) (fun _ h => nomatch h) (by ktr_room) (by ktr_units) ?_); intro t1' h' tk' F' N'; (try dsimp only)) | ((with_reducible show wpAny _ _ (call (Value.ref 69) _) _ _ _); k_dflt (refine numfrom_c (by k_asm) (by k_asm) (by k_asm) (by k_asm) (by k_asm) (by rfl) (by walk_at "ISLIST") (by assumption) (by assumption) (by assumption) (by ktr_room) (by ktr_units) ?_); intro r' t1' t2' n' h' tk' F' N' o1'; (try simp only [LCg.Off1, and_true] at o1'); (try dsimp only)) | ((with_reducible show wpAny _ _ (call (Value.ref 58) _) _ _ _); k_dflt (refine specnew_c (by k_asm) (by k_asm) (by k_asm) (by k_asm) (by k_asm) (by rfl) (by ktr_room) (by ktr_units) ?_); intro x' dx' kt' ta' tb' tc' td' h' tk' F' N' o1' o2' o3'; (try simp only [LCg.Off1, and_true] at o1' o2'); (try dsimp only)) | walk_at "K")
    all_goals exact hZ _ _ _ _ _ _ _ _ _ _ (frB (by assumption) (by rfl)) (ledA (by assumption) (by lcg_sub)) (by assumption)
  clear F' N'
  intro x dx kt ta tb tc td h2 tk2 m2 F2 NL2 hxd
  refine cutA (fun Z => ∀ (t1 t2 : Tok) h' tk' m', Fr g L' h' (over m' [(Str.ofString "field", .int (digVal (digRun ns k)) t1), (Str.ofString "behind", .int (k + (digRun ns k).length) t2), (Str.ofString "spec", .ref x), (Str.ofString "codes", .ref lc), (Str.ofString "at", .int k tk₀)]) → News g L' h' [(x, instO 58 dx), (dx, dictOf (specEs w sd0 kt ta tb tc td) 9)] → Z h' tk') ?_ ?_
  · intro Z hZ
    repeat' (first | ((with_reducible show wpAny _ _ (call (Value.ref 76) _) _ _ _); k_dflt (refine flags_c (rest := []) (by k_asm) (by k_asm) (by k_asm) (by k_asm) (by k_asm) (by rfl) (by walk_at "ISLIST") (by assumption) (by assumption) (by k_mem) (by k_mem) (by assumption) (fun _ h => nomatch h) (by ktr_room) (by ktr_units) ?_); intro t1' h' tk' F' N'; (try dsimp only)) | ((with_reducible show wpAny _ _ (call (Value.ref 69) _) _ _ _); k_dflt (refine numfrom_c (by k_asm) (by k_asm) (by k_asm) (by k_asm) (by k_asm) (by rfl) (by walk_at "ISLIST") (by assumption) (by assumption) (by assumption) (by ktr_room) (by ktr_units) ?_); intro r' t1' t2' n' h' tk' F' N' o1'; (try simp only [LCg.Off1, and_true] at o1'); (try dsimp only)) | ((with_reducible show wpAny _ _ (call (Value.ref 58) _) _ _ _); k_dflt (refine specnew_c (by k_asm) (by k_asm) (by k_asm) (by k_asm) (by k_asm) (by rfl) (by ktr_room) (by ktr_units) ?_); intro x' dx' kt' ta' tb' tc' td' h' tk' F' N' o1' o2' o3'; (try simp only [LCg.Off1, and_true] at o1' o2'); (try dsimp only)) | walk_at "K")
    all_goals exact hZ _ _ _ _ _ (frB (by assumption) (by rfl)) (ledA (by assumption) (by lcg_sub))
  (try clear F2 NL2)
  intro t1 t2 h3 tk3 m3 F3 NL3
  refine cutA (fun Z => ∀ (t3 ta' : Tok) h' tk' m', Fr g L' h' (over m' [(Str.ofString "at", .int (rsK1 ns k : Nat) t3), (Str.ofString "spec", .ref x), (Str.ofString "codes", .ref lc)]) → News g L' h' [(x, instO 58 dx), (dx, dictOf (specEs w { sd0 with field := rsField ns k } kt ta' tb tc td) 9)] → Z h' tk') ?_ ?_
  · intro Z hZ
    have ek : ((k : Int) + (digRun ns k).length).toNat = k + (digRun ns k).length := by omega
    repeat' (first | ((with_reducible show wpAny _ _ (call (Value.ref 76) _) _ _ _); k_dflt (refine flags_c (rest := []) (by k_asm) (by k_asm) (by k_asm) (by k_asm) (by k_asm) (by rfl) (by walk_at "ISLIST") (by assumption) (by assumption) (by k_mem) (by k_mem) (by assumption) (fun _ h => nomatch h) (by ktr_room) (by ktr_units) ?_); intro t1' h' tk' F' N'; (try dsimp only)) | ((with_reducible show wpAny _ _ (call (Value.ref 69) _) _ _ _); k_dflt (refine numfrom_c (by k_asm) (by k_asm) (by k_asm) (by k_asm) (by k_asm) (by rfl) (by walk_at "ISLIST") (by assumption) (by assumption) (by assumption) (by ktr_room) (by ktr_units) ?_); intro r' t1' t2' n' h' tk' F' N' o1'; (try simp only [LCg.Off1, and_true] at o1'); (try dsimp only)) | ((with_reducible show wpAny _ _ (call (Value.ref 58) _) _ _ _); k_dflt (refine specnew_c (by k_asm) (by k_asm) (by k_asm) (by k_asm) (by k_asm) (by rfl) (by ktr_room) (by ktr_units) ?_); intro x' dx' kt' ta' tb' tc' td' h' tk' F' N' o1' o2' o3'; (try simp only [LCg.Off1, and_true] at o1' o2'); (try dsimp only)) | walk_at "K")
    · have hF : rsF ns k = true := by
        rw [ek] at *
        simp only [rsF, Bool.and_eq_true, decide_eq_true_eq]
        refine ⟨⟨by omega, by omega⟩, by assumption⟩
      have h0 : 0 < digVal (digRun ns k) := by
        have h1 := hR.f0 hF
        have h2 := (digVal_small (ns := ns) (k := k) (i := (digRun ns k).length) hr1).1
        rw [List.take_length] at h2
        omega
      ((refine wpAny_execs_cons ?_); repeat' (first | ((with_reducible show wpAny _ _ (call (Value.ref 76) _) _ _ _); k_dflt (refine flags_c (rest := []) (by k_asm) (by k_asm) (by k_asm) (by k_asm) (by k_asm) (by rfl) (by walk_at "ISLIST") (by assumption) (by assumption) (by k_mem) (by k_mem) (by assumption) (fun _ h => nomatch h) (by ktr_room) (by ktr_units) ?_); intro t1' h' tk' F' N'; (try dsimp only)) | ((with_reducible show wpAny _ _ (call (Value.ref 69) _) _ _ _); k_dflt (refine numfrom_c (by k_asm) (by k_asm) (by k_asm) (by k_asm) (by k_asm) (by rfl) (by walk_at "ISLIST") (by assumption) (by assumption) (by assumption) (by ktr_room) (by ktr_units) ?_); intro r' t1' t2' n' h' tk' F' N' o1'; (try simp only [LCg.Off1, and_true] at o1'); (try dsimp only)) | ((with_reducible show wpAny _ _ (call (Value.ref 58) _) _ _ _); k_dflt (refine specnew_c (by k_asm) (by k_asm) (by k_asm) (by k_asm) (by k_asm) (by rfl) (by ktr_room) (by ktr_units) ?_); intro x' dx' kt' ta' tb' tc' td' h' tk' F' N' o1' o2' o3'; (try simp only [LCg.Off1, and_true] at o1' o2'); (try dsimp only)) | walk_at "K"))
      ((refine wpAny_execs_cons ?_); repeat' (first | ((with_reducible show wpAny _ _ (call (Value.ref 76) _) _ _ _); k_dflt (refine flags_c (rest := []) (by k_asm) (by k_asm) (by k_asm) (by k_asm) (by k_asm) (by rfl) (by walk_at "ISLIST") (by assumption) (by assumption) (by k_mem) (by k_mem) (by assumption) (fun _ h => nomatch h) (by ktr_room) (by ktr_units) ?_); intro t1' h' tk' F' N'; (try dsimp only)) | ((with_reducible show wpAny _ _ (call (Value.ref 69) _) _ _ _); k_dflt (refine numfrom_c (by k_asm) (by k_asm) (by k_asm) (by k_asm) (by k_asm) (by rfl) (by walk_at "ISLIST") (by assumption) (by assumption) (by assumption) (by ktr_room) (by ktr_units) ?_); intro r' t1' t2' n' h' tk' F' N' o1'; (try simp only [LCg.Off1, and_true] at o1'); (try dsimp only)) | ((with_reducible show wpAny _ _ (call (Value.ref 58) _) _ _ _); k_dflt (refine specnew_c (by k_asm) (by k_asm) (by k_asm) (by k_asm) (by k_asm) (by rfl) (by ktr_room) (by ktr_units) ?_); intro x' dx' kt' ta' tb' tc' td' h' tk' F' N' o1' o2' o3'; (try simp only [LCg.Off1, and_true] at o1' o2'); (try dsimp only)) | walk_at "K"))
      exact hZ _ _ _ _ _ (frA (by assumption) (by exact ⟨by unfold rsK1; rw [if_pos hF]; rfl, rfl, rfl, trivial⟩)) (ledA (by assumption) (by unfold rsField; rw [if_pos hF]; lcg_sub))
    all_goals
      have hF : rsF ns k = false := by
        rw [ek] at *
        simp only [rsF, Bool.and_eq_false_iff, decide_eq_false_iff_not]
        first | (right; assumption) | (left; right; omega) | (left; left; omega)
      exact hZ _ _ _ _ _ (frA (by assumption) (by exact ⟨by unfold rsK1; rw [hF]; rfl, rfl, rfl, trivial⟩)) (ledA (by assumption) (by unfold rsField; rw [hF]; lcg_sub))
  (try clear F3 NL3)
  intro t3 ta' h4 tk4 m4 F4 NL4
  refine cutA (fun Z => ∀ (t3 : Tok) h' tk' m', Fr g L' h' (over m' [(Str.ofString "at", .int (rsK2 ns k : Nat) t3), (Str.ofString "spec", .ref x), (Str.ofString "codes", .ref lc)]) → News g L' h' [(x, instO 58 dx), (dx, dictOf (specEs w (setFlags { sd0 with field := rsField ns k } (flagRun ns (rsK1 ns k))) kt ta' tb tc td) 9)] → Z h' tk') ?_ ?_
  · intro Z hZ
    repeat' (first | ((with_reducible show wpAny _ _ (call (Value.ref 76) _) _ _ _); k_dflt (refine flags_c (rest := []) (by k_asm) (by k_asm) (by k_asm) (by k_asm) (by k_asm) (by rfl) (by walk_at "ISLIST") (by assumption) (by assumption) (by k_mem) (by k_mem) (by assumption) (fun _ h => nomatch h) (by ktr_room) (by ktr_units) ?_); intro t1' h' tk' F' N'; (try dsimp only)) | ((with_reducible show wpAny _ _ (call (Value.ref 69) _) _ _ _); k_dflt (refine numfrom_c (by k_asm) (by k_asm) (by k_asm) (by k_asm) (by k_asm) (by rfl) (by walk_at "ISLIST") (by assumption) (by assumption) (by assumption) (by ktr_room) (by ktr_units) ?_); intro r' t1' t2' n' h' tk' F' N' o1'; (try simp only [LCg.Off1, and_true] at o1'); (try dsimp only)) | ((with_reducible show wpAny _ _ (call (Value.ref 58) _) _ _ _); k_dflt (refine specnew_c (by k_asm) (by k_asm) (by k_asm) (by k_asm) (by k_asm) (by rfl) (by ktr_room) (by ktr_units) ?_); intro x' dx' kt' ta' tb' tc' td' h' tk' F' N' o1' o2' o3'; (try simp only [LCg.Off1, and_true] at o1' o2'); (try dsimp only)) | walk_at "K")
    all_goals exact hZ _ _ _ _ (frA (by assumption) (by exact ⟨by unfold rsK2; rfl, rfl, rfl, trivial⟩)) (ledA (by assumption) (by lcg_sub))
  (try clear F4 NL4)
  intro t3 h5 tk5 m5 F5 NL5
  have hr2 := hR.r2
  refine cutA (fun Z => ∀ (t3 tb' : Tok) h' tk' m', Fr g L' h' (over m' [(Str.ofString "at", .int (rsK3 ns k : Nat) t3), (Str.ofString "spec", .ref x), (Str.ofString "codes", .ref lc)]) → News g L' h' [(x, instO 58 dx), (dx, dictOf (specEs w { setFlags { sd0 with field := rsField ns k } (flagRun ns (rsK1 ns k)) with width := digVal (digRun ns (rsK2 ns k)) } kt ta' tb' tc td) 9)] → Z h' tk') ?_ ?_
  · intro Z hZ
    repeat' (first | ((with_reducible show wpAny _ _ (call (Value.ref 76) _) _ _ _); k_dflt (refine flags_c (rest := []) (by k_asm) (by k_asm) (by k_asm) (by k_asm) (by k_asm) (by rfl) (by walk_at "ISLIST") (by assumption) (by assumption) (by k_mem) (by k_mem) (by assumption) (fun _ h => nomatch h) (by ktr_room) (by ktr_units) ?_); intro t1' h' tk' F' N'; (try dsimp only)) | ((with_reducible show wpAny _ _ (call (Value.ref 69) _) _ _ _); k_dflt (refine numfrom_c (by k_asm) (by k_asm) (by k_asm) (by k_asm) (by k_asm) (by rfl) (by walk_at "ISLIST") (by assumption) (by assumption) (by assumption) (by ktr_room) (by ktr_units) ?_); intro r' t1' t2' n' h' tk' F' N' o1'; (try simp only [LCg.Off1, and_true] at o1'); (try dsimp only)) | ((with_reducible show wpAny _ _ (call (Value.ref 58) _) _ _ _); k_dflt (refine specnew_c (by k_asm) (by k_asm) (by k_asm) (by k_asm) (by k_asm) (by rfl) (by ktr_room) (by ktr_units) ?_); intro x' dx' kt' ta' tb' tc' td' h' tk' F' N' o1' o2' o3'; (try simp only [LCg.Off1, and_true] at o1' o2'); (try dsimp only)) | walk_at "K")
    all_goals exact hZ _ _ _ _ _ (frA (by assumption) (by exact ⟨by unfold rsK3; rfl, rfl, rfl, trivial⟩)) (ledA (by assumption) (by lcg_sub))
  (try clear F5 NL5)
  intro t3 tb' h6 tk6 m6 F6 NL6
  have hr3 := hR.r3
  refine cutA (fun Z => ∀ (t3 tc' : Tok) h' tk' m', Fr g L' h' (over m' [(Str.ofString "at", .int (rsK4 ns k : Nat) t3), (Str.ofString "spec", .ref x), (Str.ofString "codes", .ref lc)]) → News g L' h' [(x, instO 58 dx), (dx, dictOf (specEs w { setFlags { sd0 with field := rsField ns k } (flagRun ns (rsK1 ns k)) with width := digVal (digRun ns (rsK2 ns k)), prec := rsPrec ns k } kt ta' tb' tc' td) 9)] → Z h' tk') ?_ ?_
  · intro Z hZ
    have ek : ((rsK3 ns k : Nat) : Int).toNat = rsK3 ns k := by omega
    repeat' (first | ((with_reducible show wpAny _ _ (call (Value.ref 76) _) _ _ _); k_dflt (refine flags_c (rest := []) (by k_asm) (by k_asm) (by k_asm) (by k_asm) (by k_asm) (by rfl) (by walk_at "ISLIST") (by assumption) (by assumption) (by k_mem) (by k_mem) (by assumption) (fun _ h => nomatch h) (by ktr_room) (by ktr_units) ?_); intro t1' h' tk' F' N'; (try dsimp only)) | ((with_reducible show wpAny _ _ (call (Value.ref 69) _) _ _ _); k_dflt (refine numfrom_c (by k_asm) (by k_asm) (by k_asm) (by k_asm) (by k_asm) (by rfl) (by walk_at "ISLIST") (by assumption) (by assumption) (by assumption) (by ktr_room) (by ktr_units) ?_); intro r' t1' t2' n' h' tk' F' N' o1'; (try simp only [LCg.Off1, and_true] at o1'); (try dsimp only)) | ((with_reducible show wpAny _ _ (call (Value.ref 58) _) _ _ _); k_dflt (refine specnew_c (by k_asm) (by k_asm) (by k_asm) (by k_asm) (by k_asm) (by rfl) (by ktr_room) (by ktr_units) ?_); intro x' dx' kt' ta' tb' tc' td' h' tk' F' N' o1' o2' o3'; (try simp only [LCg.Off1, and_true] at o1' o2'); (try dsimp only)) | walk_at "K")
    · have hP : rsP ns k = true := by
        rw [ek] at *
        simp only [rsP, Bool.and_eq_true, decide_eq_true_eq]
        exact ⟨by omega, by assumption⟩
      ((refine wpAny_execs_cons ?_); repeat' (first | ((with_reducible show wpAny _ _ (call (Value.ref 76) _) _ _ _); k_dflt (refine flags_c (rest := []) (by k_asm) (by k_asm) (by k_asm) (by k_asm) (by k_asm) (by rfl) (by walk_at "ISLIST") (by assumption) (by assumption) (by k_mem) (by k_mem) (by assumption) (fun _ h => nomatch h) (by ktr_room) (by ktr_units) ?_); intro t1' h' tk' F' N'; (try dsimp only)) | ((with_reducible show wpAny _ _ (call (Value.ref 69) _) _ _ _); k_dflt (refine numfrom_c (by k_asm) (by k_asm) (by k_asm) (by k_asm) (by k_asm) (by rfl) (by walk_at "ISLIST") (by assumption) (by assumption) (by assumption) (by ktr_room) (by ktr_units) ?_); intro r' t1' t2' n' h' tk' F' N' o1'; (try simp only [LCg.Off1, and_true] at o1'); (try dsimp only)) | ((with_reducible show wpAny _ _ (call (Value.ref 58) _) _ _ _); k_dflt (refine specnew_c (by k_asm) (by k_asm) (by k_asm) (by k_asm) (by k_asm) (by rfl) (by ktr_room) (by ktr_units) ?_); intro x' dx' kt' ta' tb' tc' td' h' tk' F' N' o1' o2' o3'; (try simp only [LCg.Off1, and_true] at o1' o2'); (try dsimp only)) | walk_at "K"))
      exact hZ _ _ _ _ _ (frA (by assumption) (by exact ⟨by unfold rsK4; rw [if_pos hP]; rfl, rfl, rfl, trivial⟩)) (ledA (by assumption) (by unfold rsPrec; rw [if_pos hP]; lcg_sub))
    all_goals
      have hP : rsP ns k = false := by
        rw [ek] at *
        simp only [rsP, Bool.and_eq_false_iff, decide_eq_false_iff_not]
        first | (right; assumption) | (left; omega)
      exact hZ _ _ _ _ _ (frA (by assumption) (by exact ⟨by unfold rsK4; rw [hP]; rfl, rfl, rfl, trivial⟩)) (ledA (by assumption) (by unfold rsPrec; rw [hP]; lcg_sub))
  (try clear F6 NL6)
  intro t3 tc' h7 tk7 m7 F7 NL7
  have hk4 := hR.k4
  have hlo := hR.lo
  have hhi := hR.hi
  have ek : ((rsK4 ns k : Nat) : Int).toNat = rsK4 ns k := by omega
  rw [← ek] at hlo hhi
  ((refine wpAny_execs_cons ?_); repeat' (first | ((with_reducible show wpAny _ _ (call (Value.ref 76) _) _ _ _); k_dflt (refine flags_c (rest := []) (by k_asm) (by k_asm) (by k_asm) (by k_asm) (by k_asm) (by rfl) (by walk_at "ISLIST") (by assumption) (by assumption) (by k_mem) (by k_mem) (by assumption) (fun _ h => nomatch h) (by ktr_room) (by ktr_units) ?_); intro t1' h' tk' F' N'; (try dsimp only)) | ((with_reducible show wpAny _ _ (call (Value.ref 69) _) _ _ _); k_dflt (refine numfrom_c (by k_asm) (by k_asm) (by k_asm) (by k_asm) (by k_asm) (by rfl) (by walk_at "ISLIST") (by assumption) (by assumption) (by assumption) (by ktr_room) (by ktr_units) ?_); intro r' t1' t2' n' h' tk' F' N' o1'; (try simp only [LCg.Off1, and_true] at o1'); (try dsimp only)) | ((with_reducible show wpAny _ _ (call (Value.ref 58) _) _ _ _); k_dflt (refine specnew_c (by k_asm) (by k_asm) (by k_asm) (by k_asm) (by k_asm) (by rfl) (by ktr_room) (by ktr_units) ?_); intro x' dx' kt' ta' tb' tc' td' h' tk' F' N' o1' o2' o3'; (try simp only [LCg.Off1, and_true] at o1' o2'); (try dsimp only)) | walk_at "K"))
  refine cutA (fun Z => ∀ (t3 td' : Tok) h' tk' m', Fr g L' h' (over m' [(Str.ofString "at", .int (rsK4 ns k : Nat) t3), (Str.ofString "spec", .ref x), (Str.ofString "codes", .ref lc)]) → News g L' h' [(x, instO 58 dx), (dx, dictOf (specEs w (rsSD ns k) kt ta' tb' tc' td') 9)] → Z h' tk') ?_ ?_
  · intro Z hZ
    repeat' (first | ((with_reducible show wpAny _ _ (call (Value.ref 76) _) _ _ _); k_dflt (refine flags_c (rest := []) (by k_asm) (by k_asm) (by k_asm) (by k_asm) (by k_asm) (by rfl) (by walk_at "ISLIST") (by assumption) (by assumption) (by k_mem) (by k_mem) (by assumption) (fun _ h => nomatch h) (by ktr_room) (by ktr_units) ?_); intro t1' h' tk' F' N'; (try dsimp only)) | ((with_reducible show wpAny _ _ (call (Value.ref 69) _) _ _ _); k_dflt (refine numfrom_c (by k_asm) (by k_asm) (by k_asm) (by k_asm) (by k_asm) (by rfl) (by walk_at "ISLIST") (by assumption) (by assumption) (by assumption) (by ktr_room) (by ktr_units) ?_); intro r' t1' t2' n' h' tk' F' N' o1'; (try simp only [LCg.Off1, and_true] at o1'); (try dsimp only)) | ((with_reducible show wpAny _ _ (call (Value.ref 58) _) _ _ _); k_dflt (refine specnew_c (by k_asm) (by k_asm) (by k_asm) (by k_asm) (by k_asm) (by rfl) (by ktr_room) (by ktr_units) ?_); intro x' dx' kt' ta' tb' tc' td' h' tk' F' N' o1' o2' o3'; (try simp only [LCg.Off1, and_true] at o1' o2'); (try dsimp only)) | walk_at "K")
    exact hZ _ _ _ _ _ (frB (by assumption) (by rfl)) (ledA (by assumption) (by lcg_sub))
  (try clear F7 NL7)
  intro t3 td' h8 tk8 m8 F8 NL8
  ((refine wpAny_execs_cons ?_); repeat' (first | ((with_reducible show wpAny _ _ (call (Value.ref 76) _) _ _ _); k_dflt (refine flags_c (rest := []) (by k_asm) (by k_asm) (by k_asm) (by k_asm) (by k_asm) (by rfl) (by walk_at "ISLIST") (by assumption) (by assumption) (by k_mem) (by k_mem) (by assumption) (fun _ h => nomatch h) (by ktr_room) (by ktr_units) ?_); intro t1' h' tk' F' N'; (try dsimp only)) | ((with_reducible show wpAny _ _ (call (Value.ref 69) _) _ _ _); k_dflt (refine numfrom_c (by k_asm) (by k_asm) (by k_asm) (by k_asm) (by k_asm) (by rfl) (by walk_at "ISLIST") (by assumption) (by assumption) (by assumption) (by ktr_room) (by ktr_units) ?_); intro r' t1' t2' n' h' tk' F' N' o1'; (try simp only [LCg.Off1, and_true] at o1'); (try dsimp only)) | ((with_reducible show wpAny _ _ (call (Value.ref 58) _) _ _ _); k_dflt (refine specnew_c (by k_asm) (by k_asm) (by k_asm) (by k_asm) (by k_asm) (by rfl) (by ktr_room) (by ktr_units) ?_); intro x' dx' kt' ta' tb' tc' td' h' tk' F' N' o1' o2' o3'; (try simp only [LCg.Off1, and_true] at o1' o2'); (try dsimp only)) | walk_at "K"))
  rename (_ < _ ∧ _ < _) => l1
  exact hPQ _ _ ⟨_, _, by assumption, by assumption, fun b => hret _ _ _ _ _ _ _ _ _ _ _ _ b.fr b.nw (b.off1 (by k_mem)) (b.off1 (by k_mem)) (b.off1 (by k_mem)) (Ne.symm (Nat.ne_of_lt l1.1)) (Ne.symm (Nat.ne_of_lt l1.2)) hxd⟩
end
end
section
section
variable {w : World} {dp un : Nat} {gd : Option (List Code)} {cn : Str} {cs : Scope} {a : Addr} {ccd : Value} {cl : List (Str × Addr)} {outer : List Env} {A₀ : Around} {base h₀ : Heap} {L : Addr}
  {m : Str → Option Value} {s : Shared} {Q E : Value → Shared → Prop} {loose : List Str} {mean : ExcName → Option Value} {mg mb : Str → Option Value} {p : Program} {news : List (Addr × Obj)}

theorem whole_int_c {n : Int} {t : Tok}
  (B : Below A₀ base outer h₀) (F : Fr h₀ L s.heap m) (X : (heapK w.params).In h₀) (N : News h₀ L s.heap news) (T : Top p loose mean mg mb h₀) (hk : cs.kind = .function)
  (hd : dp + 1 < recursionLimit) (hu : un + 8 < cLine)
  (hret : ∀ h' tk', Fr h₀ L h' m → News h₀ L h' news → Q (.bool true) { s with heap := h', toks := tk' })  :
  wpAny (model PySem.Challenge.rw_np0086_01.row.prog w) (ktrTop dp un gd cn cs L a ccd cl outer) (call (.ref 309) [.int n t]) Q E s := by
  (revert X; k_fill; intro X)
  k_dflt (refine enterD (binds := [("datum", .int n t)]) B F X N T [] news (fun _ h => nomatch h) (fun q hq => ⟨hq, fun h => nomatch h⟩) rfl rfl hk (by k_is) (by k_is) (by ktr_room) (BindsTo.of_eq rfl) (locs rfl) ?_ rfl rfl rfl (by decide))
  intro g L' h₁ tk PQ PE G F' N' B' X' T' hPQ hPE hEx
  set_option simprocs false in dsimp only [b309, qb309]
  clear B F N T X G
  k_steps
  all_goals exact hPQ _ _ ⟨_, _, by assumption, by assumption, fun b => hret _ _ b.fr b.none⟩
theorem whole_inst_c {x dx : Addr} {es : List DictEntry} {n₀ : Nat}
  (B : Below A₀ base outer h₀) (F : Fr h₀ L s.heap m) (X : (heapK w.params).In h₀) (N : News h₀ L s.heap news) (T : Top p loose mean mg mb h₀) (hk : cs.kind = .function)
  (hI : InstH s.heap x 200 dx es n₀)
  (hd : dp + 1 < recursionLimit) (hu : un + 8 < cLine)
  (hret : ∀ h' tk', Fr h₀ L h' m → News h₀ L h' news → Q (.bool false) { s with heap := h', toks := tk' })  :
  wpAny (model PySem.Challenge.rw_np0086_01.row.prog w) (ktrTop dp un gd cn cs L a ccd cl outer) (call (.ref 309) [.ref x]) Q E s := by
  (revert X; k_fill; intro X)
  k_dflt (refine enterD (binds := [("datum", .ref x)]) B F X N T [] news (fun _ h => nomatch h) (fun q hq => ⟨hq, fun h => nomatch h⟩) rfl rfl hk (by k_is) (by k_is) (by ktr_room) (BindsTo.of_eq rfl) (locs rfl) ?_ rfl rfl rfl (by decide))
  intro g L' h₁ tk PQ PE G F' N' B' X' T' hPQ hPE hEx
  set_option simprocs false in dsimp only [b309, qb309]
  have hI' := gInst G hI
  clear B F N T X G hI
  k_steps
  all_goals exact hPQ _ _ ⟨_, _, by assumption, by assumption, fun b => hret _ _ b.fr b.none⟩
end
end
section
/-! ## Trees that keep every object's class and own dict -/
noncomputable def DK (h h' : Heap) : Prop := ∀ b o, h.get? b = some o → ∃ o', h'.get? b = some o' ∧ o'.cls = o.cls ∧ o'.dict = o.dict
theorem DK.refl (h : Heap) : DK h h := fun _ o e => ⟨o, e, rfl, rfl⟩
theorem DK.trans {a b c : Heap} (x : DK a b) (y : DK b c) : DK a c := fun p o e =>
  let ⟨o1, e1, c1, d1⟩ := x p o e
  let ⟨o2, e2, c2, d2⟩ := y p o1 e1
  ⟨o2, e2, c2.trans c1, d2.trans d1⟩
theorem DK.push (h : Heap) (o : Obj) : DK h (h.push o) := fun _ o' e => ⟨o', Heap.get?_push_of_some _ e, rfl, rfl⟩
noncomputable def MildF (f : Obj → Obj) : Prop := ∀ o, o.isFreed = false → (f o).isFreed = false ∧ (f o).cls = o.cls ∧ (f o).dict = o.dict
theorem DK.update (h : Heap) (a : Addr) (f : Obj → Obj) (hf : MildF f) : DK h (h.update a f) := fun b o e => by
  by_cases q : a = b
  · subst q
    have hn := (Heap.get?_some_iff.mp e).2
    obtain ⟨m1, m2, m3⟩ := hf o hn
    exact ⟨_, Heap.get?_update_self f e m1, m2, m3⟩
  · exact ⟨o, (Heap.get?_update_other _ _ q).trans e, rfl, rfl⟩
inductive Tame {α : Type} : Sem α → Prop
  | pure (a : α) : Tame (.pure a)
  | raise (e) : Tame (.raise e)
  | unsup (w) : Tame (.unsupported w)
  | finish (e) : Tame (.finish e)
  | rule (t k) : (∀ x, Tame (k x)) → Tame (.rule t k)
  | at (p k) : (∀ x, Tame (k x)) → Tame (.at p k)
  | load (a p k) : (∀ x, Tame (k x)) → Tame (.load a p k)
  | upd (a p f k) : MildF f → (∀ x, Tame (k x)) → Tame (.update a p f k)
  | alloc (o k) : (∀ x, Tame (k x)) → Tame (.alloc o k)
  | loadIf (a k) : (∀ x, Tame (k x)) → Tame (.loadIfAlive a k)
  | point (l k) : (∀ x, Tame (k x)) → Tame (.point l k)
  | fresh (k) : (∀ x, Tame (k x)) → Tame (.fresh k)
  | ask (k) : (∀ x, Tame (k x)) → Tame (.ask k)
  | stack (k) : (∀ x, Tame (k x)) → Tame (.stack k)
theorem Tame.bind {α β : Type} {t : Sem α} {f : α → Sem β} (h : Tame t) (hf : ∀ a, Tame (f a)) : Tame (t >>= f) := by
  show Tame (t.bind f)
  induction h with
  | pure a => exact hf a
  | raise e => exact .raise e
  | unsup w => exact .unsup w
  | finish e => exact .finish e
  | rule t k _ ih => exact .rule _ _ ih
  | «at» t k _ ih => exact .at _ _ ih
  | load a p k _ ih => exact .load _ _ _ ih
  | upd a p f k m _ ih => exact .upd _ _ _ _ m ih
  | alloc o k _ ih => exact .alloc _ _ ih
  | loadIf a k _ ih => exact .loadIf _ _ ih
  | point l k _ ih => exact .point _ _ ih
  | fresh k _ ih => exact .fresh _ ih
  | ask k _ ih => exact .ask _ ih
  | stack k _ ih => exact .stack _ ih
theorem tame_wp {α : Type} {M : Model} {Γ : Ctx} {t : Sem α} (h : Tame t) {Q : α → Pos → Shared → Prop} {E : Value → Pos → Shared → Prop} {h0 : Heap} :
    ∀ p s, DK h0 s.heap → Sem.wp M Γ t Q E p s → Sem.wp M Γ t (fun a p' s' => Q a p' s' ∧ DK h0 s'.heap) E p s := by
  induction h with
  | pure a => exact fun p s d x => ⟨x, d⟩
  | raise e => exact fun p s d x => x
  | unsup w => exact fun p s d x => x
  | finish e => exact fun p s d x => x
  | rule t k _ ih => exact fun p s d x => ih () p s d x
  | «at» t k _ ih => exact fun p s d x => ih () t s d x
  | load a q k _ ih => exact fun p s d ⟨o, ho, x⟩ => ⟨o, ho, ih o p s d x⟩
  | upd a q f k m _ ih => exact fun p s d ⟨ho, x⟩ => ⟨ho, ih () p _ (d.trans (DK.update _ _ _ m)) x⟩
  | alloc o k _ ih => exact fun p s d x => ih _ p _ (d.trans (DK.push _ _)) x
  | loadIf a k _ ih => exact fun p s d x => ih _ p s d x
  | point l k _ ih => exact fun p s d x => ih _ p s d x
  | fresh k _ ih => exact fun p s d x => ih _ p _ d x
  | ask k _ ih => exact fun p s d x => ih _ p s d x
  | stack k _ ih => exact fun p s d x => ih _ p s d x
theorem tame_any {α : Type} {M : Model} {A : Around} {t : Sem α} (h : Tame t) {Q : α → Shared → Prop} {E : Value → Shared → Prop} {s : Shared} (x : wpAny M A t Q E s) :
    wpAny M A t (fun a s' => Q a s' ∧ DK s.heap s'.heap) E s := fun Γ p hΓ => tame_wp h p s (DK.refl _) (x Γ p hΓ)
theorem mild_fields (f : Array Value → Array Value) : MildF (Obj.mapFields f) := by
  rintro ⟨c, d, dt, sl⟩ hf
  cases dt <;> exact ⟨by first | exact hf | rfl, rfl, rfl⟩
theorem mild_slots (f : Obj → Array (Option Value)) : MildF (fun o => { cls := o.cls, dict := o.dict, data := o.data, slots := f o }) := by
  rintro ⟨c, d, dt, sl⟩ hf
  cases dt <;> exact ⟨by first | exact hf | rfl, rfl, rfl⟩
local macro_rules | `(tactic| walk_at "tame") => `(tactic| repeat' (first
  | exact Tame.pure _ | exact Tame.raise _ | exact Tame.unsup _ | exact Tame.finish _ | assumption
  | (refine Tame.upd _ _ _ _ (mild_fields _) ?_)
  | (refine Tame.bind ?_ ?_)
  | (refine Tame.load _ _ _ ?_) | (refine Tame.alloc _ _ ?_) | (refine Tame.stack _ ?_) | (refine Tame.loadIf _ _ ?_) | (refine Tame.ask _ ?_)
  | intro _
  | split))
theorem tame_fieldsOf (v : Value) : Tame (fieldsOf v) := by
  unfold fieldsOf PySem.load
  walk_at "tame"
theorem tame_field (v : Value) (i : Nat) : Tame (field v i) := by
  unfold field
  refine Tame.bind (tame_fieldsOf _) ?_
  walk_at "tame"
theorem tame_setField (v : Value) (i : Nat) (x : Value) : Tame (setField v i x) := by
  unfold setField updateField
  walk_at "tame"
theorem tame_setFlight (e : Value) (f : Option Addr) : Tame (setFlight e f) := by
  unfold setFlight
  refine Tame.bind (tame_field _ _) fun _ => ?_
  split
  · exact tame_setField _ _ _
  · walk_at "tame"
theorem tame_newFields (ty : String) (vs : List Value) : Tame (newFields ty vs) := by
  unfold newFields newObj newObjAsIs PySem.alloc
  walk_at "tame"
  all_goals (rename Value.type _ = Value.ref _ => hh; cases hh; done)
theorem tame_nsGet (a : Addr) (n : Str) : Tame (nsGet a n) := by
  unfold nsGet nsLook
  walk_at "tame"
theorem tame_ready : ∀ l, Tame (readyFrames l)
  | [] => .pure _
  | env :: outer => by
    unfold readyFrames behindIsImport keptBack underTheClaimsCaller PySem.load PySem.update PySem.stack
    walk_at "tame"
    all_goals first
      | exact tame_fieldsOf _
      | exact tame_ready outer
      | (refine Tame.upd _ _ _ _ (mild_slots _) ?_; intro _; exact Tame.pure _)
theorem tame_frameObject : ∀ l, Tame (frameObject l)
  | [] => .pure _
  | env :: outer => by
    unfold frameObject
    exact .bind (tame_ready _) fun _ => .pure _
theorem tame_frameOf (env : Env) : Tame (PySem.frameOf env) := by
  unfold PySem.frameOf frameEnvs PySem.stack
  walk_at "tame"
  all_goals exact tame_frameObject _
theorem tame_noteFrame (e : Value) (env : Env) : Tame (noteFrame e env) := by
  unfold noteFrame
  walk_at "tame"
  all_goals first | exact tame_fieldsOf _ | exact tame_frameObject _ | exact tame_setField _ _ _ | exact tame_newFields _ _
theorem tame_leaving (env : Env) (e : Value) : Tame (leaving env e) := .bind (tame_noteFrame _ _) fun _ => tame_setFlight _ _
end
section
/-! ## An exception of class 38 in flight, whose own dict is known -/
structure SymIs (od : Obj) : Prop where
  sym : ∃ t, lookIn (Str.ofString "symbol") od = some (some (.str (Str.ofString "error") t))
  no : ∀ vs, od.data ≠ .fields vs
noncomputable def RaisedD (base G : Heap) (l : List Env) (e dx : Addr) (od : Obj) (h : Heap) : Prop :=
  (∃ B a0, base.StaysIn B ∧ (∀ b o, G.get? b = some o → b ∉ l.filterMap (·.frame) → B.get? b = some o) ∧ (B.get? dx = some od ∧ G.get? dx = none ∧ base.get? dx = none) ∧ Heap.FlyingW B l e (.ref 38) a0 h) ∧
    (∃ oe, h.get? e = some oe ∧ oe.dict = some dx) ∧ SymIs od
theorem dict_keep {h h' : Heap} {e dx : Addr} (d : DK h h') (x : ∃ oe, h.get? e = some oe ∧ oe.dict = some dx) : ∃ oe, h'.get? e = some oe ∧ oe.dict = some dx := by
  obtain ⟨oe, he, hd⟩ := x
  obtain ⟨o', e', _, d'⟩ := d e oe he
  exact ⟨o', e', d'.trans hd⟩
section
variable {M : Model} {A : Around} {E : Value → Shared → Prop} {s : Shared}
theorem looks_D {base : Heap} {env : Env} {outer : List Env} {L e : Addr} {cls a0 : Value} {Q : Unit → Shared → Prop}
    (hfr : A.frames = some (env :: outer)) (hf : env.frame = some L) (hfl : Heap.FlyingW base (env :: outer) e cls a0 s.heap)
    (hQ : ∀ h', Heap.HeldW base (env :: outer) e cls a0 L h' → s.heap.UpToSlots h' → DK s.heap h' → Q () { s with heap := h' }) : wpAny M A (noteFrame (.ref e) env) Q E s :=
  wpAny_mono (tame_any (tame_noteFrame _ _) (wpAny_looks_onW (Q := fun _ s' => ∃ h', s' = { s with heap := h' } ∧ Heap.HeldW base (env :: outer) e cls a0 L h' ∧ s.heap.UpToSlots h') (E := E) hfr hf hfl fun h' a b => ⟨h', rfl, a, b⟩))
    (fun _ s' ⟨⟨h', e, a, b⟩, d⟩ => by subst e; exact hQ h' a b d) fun _ _ x => x
theorem lands_D {base : Heap} {l : List Env} {e L : Addr} {cls a0 : Value} {Q : Unit → Shared → Prop} (hh : Heap.HeldW base l e cls a0 L s.heap)
    (hQ : ∀ h', Heap.FlyingW base l e cls a0 h' → s.heap.UpToSlots h' → DK s.heap h' → Q () { s with heap := h' }) : wpAny M A (setFlight (.ref e) none) Q E s :=
  wpAny_mono (tame_any (tame_setFlight _ _) (wpAny_landsW (Q := fun _ s' => ∃ h', s' = { s with heap := h' } ∧ Heap.FlyingW base l e cls a0 h' ∧ s.heap.UpToSlots h') (E := E) hh fun h' a b => ⟨h', rfl, a, b⟩))
    (fun _ s' ⟨⟨h', e, a, b⟩, d⟩ => by subst e; exact hQ h' a b d) fun _ _ x => x
theorem again_D {base : Heap} {l : List Env} {e : Addr} {cls a0 : Value} {Q : Unit → Shared → Prop} (hh : Heap.FlyingW base l e cls a0 s.heap)
    (hQ : ∀ h', Heap.FlyingW base l e cls a0 h' → s.heap.UpToSlots h' → DK s.heap h' → Q () { s with heap := h' }) : wpAny M A (setFlight (.ref e) none) Q E s :=
  wpAny_mono (tame_any (tame_setFlight _ _) (lands_againW (Q := fun _ s' => ∃ h', s' = { s with heap := h' } ∧ Heap.FlyingW base l e cls a0 h' ∧ s.heap.UpToSlots h') (E := E) hh fun h' a b => ⟨h', rfl, a, b⟩))
    (fun _ s' ⟨⟨h', e, a, b⟩, d⟩ => by subst e; exact hQ h' a b d) fun _ _ x => x
theorem leaves_D {base : Heap} {env : Env} {outer : List Env} {L e : Addr} {cls a0 : Value} {Q : Unit → Shared → Prop}
    (hfr : A.frames = some (env :: outer)) (hf : env.frame = some L) (hfl : Heap.FlyingW base (env :: outer) e cls a0 s.heap)
    (hQ : ∀ h', Heap.FlyingW base outer e cls a0 h' → s.heap.UpToSlots h' → DK s.heap h' → Q () { s with heap := h' }) : wpAny M A (leaving env (.ref e)) Q E s :=
  wpAny_mono (tame_any (tame_leaving _ _) (wpAny_leaves_onW (Q := fun _ s' => ∃ h', s' = { s with heap := h' } ∧ Heap.FlyingW base outer e cls a0 h' ∧ s.heap.UpToSlots h') (E := E) hfr hf hfl fun h' a b => ⟨h', rfl, a, b⟩))
    (fun _ s' ⟨⟨h', e, a, b⟩, d⟩ => by subst e; exact hQ h' a b d) fun _ _ x => x
end
section
variable {M : Model} {A : Around} {E : Value → Shared → Prop} {s' : Shared} {base g g₂ : Heap} {outer : List Env} {L a e dx : Addr} {m : Str → Option Value} {name : Str} {scope : Scope} {cd : Value} {Q : Unit → Shared → Prop} {od oe : Obj} {vs : Array Value} {a0 : Value}
/-- a made exception leaves the frame that raised it -/
theorem leave_raiseD (K : Below A base outer g) (F : Fr g L s'.heap m) (he : s'.heap.get? e = some oe) (hc : oe.cls = .ref 38) (hd : oe.data = .fields vs) (h1 : vs[1]? = some .none) (h0 : vs[0]? = some a0) (hdd : oe.dict = some dx)
    (hne : g.get? e = none) (hx : s'.heap.get? dx = some od) (hnx : g.get? dx = none) (hxe : dx ≠ e) (hxL : dx ≠ L) (hs : SymIs od)
    (hQ : ∀ h', RaisedD base g outer e dx od h' → g.UpToSlots h' → Q () { s' with heap := h' }) (hk : scope.kind = .function := by rfl) :
    wpAny M (A.deeper (envOf name scope L a cd)) (leaving (envOf name scope L a cd) (.ref e)) Q E s' := by
  have K' := K.push (name := name) (a := a) (cd := cd) F hk
  let as := e :: (envOf name scope L a cd :: outer).filterMap (·.frame)
  have hin : ∀ env ∈ (envOf name scope L a cd :: outer), ∀ b, env.frame = some b → b ∈ as := fun env he b hb => .tail _ (List.mem_filterMap.mpr ⟨env, he, hb⟩)
  have sg : ∀ b o, g.get? b = some o → b ∉ outer.filterMap (·.frame) → (hideAll s'.heap as).get? b = some o := fun b o q nm => hideAll_get _ (F.keep b o q) fun hm => by
    rcases List.mem_cons.mp hm with z | hm
    · rw [z, hne] at q; cases q
    · rcases kts_mem hm with z | z
      · rw [z, kts_self F] at q; cases q
      · exact nm z
  have st : base.StaysIn (hideAll s'.heap as) := fun b o q => sg b o (K.stays b o q) fun hm => by
    rw [(K.frames.mem hm).1] at q; cases q
  have hnb : ∀ {b : Addr}, g.get? b = none → base.get? b = none := fun q => fresh_of_stays K.stays q
  have hxB : (hideAll s'.heap as).get? dx = some od := hideAll_get _ hx fun hm => by
    rcases List.mem_cons.mp hm with z | hm
    · exact hxe z
    · rcases kts_mem hm with z | z
      · exact hxL z
      · obtain ⟨o, ho, _⟩ := (K.frames.mem z).2
        rw [hnx] at ho; cases ho
  have H := wpAny_leaving_firstW (base := hideAll s'.heap as) (M := M) (E := E) (Q := fun _ s₂ => ∃ h', s₂ = { s' with heap := h' } ∧ Heap.LeftW (hideAll s'.heap as) (envOf name scope L a cd :: outer) e oe.cls a0 s'.heap h') K'.stack (funFrames_hide K'.frames hin) rfl he (fun b o q => of_hideAll _ q)
    (hideAll_none _ (.head _)) hd h1 h0 fun h' hL => ⟨h', rfl, hL⟩
  refine wpAny_mono (tame_any (tame_leaving _ _) H) (fun _ s₂ x => ?_) fun _ _ x => x
  obtain ⟨⟨h', rfl, k1, ⟨_, _, k2⟩, k3, k4⟩, d⟩ := x
  rw [hc] at k3
  exact hQ h' ⟨⟨_, a0, st, sg, ⟨hxB, hnx, hnb hnx⟩, k1, hideAll_none _ (.head _), k2, k3⟩, dict_keep d ⟨oe, he, hdd⟩, hs⟩ ((Heap.UpToSlots.of_keeps F.keep).trans k4)
/-- it leaves a frame on the way -/
theorem leave_onD (K : Below A base outer g) (F : Fr g L g₂ m) (R : RaisedD base g₂ (envOf name scope L a cd :: outer) e dx od s'.heap) (hsm : g₂.UpToSlots s'.heap)
    (hQ : ∀ h', RaisedD base g outer e dx od h' → g.UpToSlots h' → Q () { s' with heap := h' }) :
    wpAny M (A.deeper (envOf name scope L a cd)) (leaving (envOf name scope L a cd) (.ref e)) Q E s' := by
  obtain ⟨⟨B, a0, hB, hBG, hx, hfl⟩, hd, hs⟩ := R
  exact leaves_D (Around.frames_deeper K.stack) rfl hfl fun h' x1 x2 d =>
    hQ h' ⟨⟨B, a0, hB, fun b o q nm => hBG b o (F.keep b o q) (fun hm => by
      rcases kts_mem hm with z | z
      · rw [z, kts_self F] at q; cases q
      · exact nm z), ⟨hx.1, kts_none F.keep hx.2.1, hx.2.2⟩, x1⟩, dict_keep d hd, hs⟩ ((Heap.UpToSlots.of_keeps F.keep).trans (hsm.trans x2))
end
end
section
section
variable {prog : Program} {w : World} {A₀ : Around} {E : Value → Shared → Prop} {s' : Shared} {base g G : Heap} {outer : List Env} {L a e dx : Addr} {m : Str → Option Value} {name : Str} {scope : Scope} {cd : Value}
  {n : Str} {b₀ : Stmt} {suite : List Stmt} {pos np : Pos} {rest : List ExceptHandler} {Q : Flow → Shared → Prop} {news : List (Addr × Obj)} {KF : Frag} {od : Obj}
  {p : Program} {loose : List Str} {mean : ExcName → Option Value} {mg mb : Str → Option Value} {x : Str}
theorem caught_D (R : RaisedD base G (envOf name scope L a cd :: outer) e dx od s'.heap) (F : Fr g L G m) (K : Below A₀ base outer g) (hsm : G.UpToSlots s'.heap) (XB : KF.In base) (TB : Top p loose mean mg mb base)
    (hrest : ∀ q ∈ news, G.get? q.1 = some q.2 ∧ g.get? q.1 = none ∧ q.1 ≠ L)
    (ex : nsIn KF mainGlobals x = some (some (.ref 38))) (q : ktsIn KF 38 "BaseException" = true)
    (k : ∀ h' g' oe tk, KtsTurn (outer.filterMap (·.frame)) g g' → Fr g' L h' (fun y => if y = n then some (.ref e) else m y) → News g' L h' ((e, oe) :: (dx, od) :: news) → oe.cls = .ref 38 → oe.dict = some dx → notCls oe = true → Below A₀ base outer g' → KF.In g' → Top p loose mean mg mb g' →
      wpAny (model prog w) ((A₀.deeper (envOf name scope L a cd)).mark (some (.ref e))) (execs (b₀ :: suite) (envOf name scope L a cd))
        (fun f s₄ => wpAny (model prog w) (A₀.deeper (envOf name scope L a cd)) (do bindName (envOf name scope L a cd) n .none; unbindBehindTheSuite (envOf name scope L a cd) n pos) (fun _ s₅ => Q f s₅) E s₄)
        (AsSuiteRaised (model prog w) ((A₀.deeper (envOf name scope L a cd)).mark (some (.ref e))) (envOf name scope L a cd) n pos (notedBy (model prog w) ((A₀.deeper (envOf name scope L a cd)).mark (some (.ref e))) (envOf name scope L a cd) (cameBackBy (model prog w) (A₀.deeper (envOf name scope L a cd)) (envOf name scope L a cd) E)))
        { s' with heap := h', toks := tk })
    (hk : scope.kind = .function := by rfl) (hlo : (envOf name scope L a cd).kindOf n = some .local := by rfl) (hx : (envOf name scope L a cd).kindOf x = some .globalImplicit := by rfl) (hd : (x == ("__debug__" : Str)) = false := by decide) :
    wpAny (model prog w) (A₀.deeper (envOf name scope L a cd)) (noteFrame (.ref e) (envOf name scope L a cd))
      (fun _ s₂ => wpAny (model prog w) (A₀.deeper (envOf name scope L a cd)) (setFlight (.ref e) none) (fun _ s₃ =>
        wpAny (model prog w) (A₀.deeper (envOf name scope L a cd)) (handleBy (.ref e) (envOf name scope L a cd) (.ExceptHandler (some (.Name x np)) (some n) (b₀ :: suite) pos :: rest)) Q E s₃) E s₂) E s' := by
  obtain ⟨⟨B, a0, hB, hBG, hdx, hfl⟩, hdd, hsym⟩ := R
  have hL : B.get? L = none := by
    obtain ⟨_, ⟨L', _, hf, hn', _⟩, _⟩ := hfl.2.2.1
    obtain rfl : L = L' := Option.some.inj hf
    exact hn'
  have hfull : ∀ q ∈ news, B.get? q.1 = some q.2 := fun q hq => hBG _ _ (hrest q hq).1 fun hm => by
    rcases kts_mem hm with z | z
    · exact (hrest q hq).2.2 z
    · obtain ⟨o, ho, _⟩ := (K.frames.mem z).2
      rw [(hrest q hq).2.1] at ho; cases ho
  refine looks_D (Around.frames_deeper K.stack) rfl hfl fun h₄ hheld₄ hsm₄ d₄ => ?_
  refine lands_D hheld₄ fun h₅ hheld hsm₅' d₅ => ?_
  have hsm₅ := hsm₄.trans hsm₅'
  obtain ⟨g₅, T₅, F₅, K₅⟩ := kts_ground K F hBG hheld.1 (hsm.trans hsm₅)
  have X₅ : KF.In g₅ := XB.keeps K₅.stays
  have P₅ : TopRead p loose mg mb g₅ := topRead_of (TB.keeps K₅.stays)
  obtain ⟨ob, hob, hobc⟩ := hheld.there
  obtain ⟨nm, q', N, bs, bm, hdct, sn, sub, ab, col, dd, k0, k1, k2, k3, k5, newId, hC, hbase, hbT⟩ := kts_cls X₅ q
  have hC₅ := F₅.keep _ _ hC
  refine wpAny_handleBy_cons (codeAny_handlers_test (name_K F₅ X₅ P₅ ex ?_ hk hx hd)) (by intro q; cases q)
  refine wpAny_excMatches_sub_self hC₅ hob hobc hbase (codeAny_handlers_suite_as ?_)
  refine again_D hheld fun h₆ hfl₆ hsm₆ d₆ => ?_
  obtain ⟨g₆, T₆, F₆, K₆⟩ := kts_ground K F hBG hfl₆.1 ((hsm.trans hsm₅).trans hsm₆)
  obtain ⟨oe, ws, hoe, hoec, hoed, hoe0⟩ := hfl₆.first
  obtain ⟨oe', hoe', hoedx⟩ := dict_keep ((d₄.trans d₅).trans d₆) hdd
  obtain rfl : oe = oe' := Option.some.inj (hoe.symm.trans hoe')
  have ne₆ : g₆.get? e = none := T₆.none_ _ (kts_fresh F hBG hfl₆.2.1 fun o ho m => by
    obtain ⟨_, o', ho', hd⟩ := K.frames.mem m
    rw [ho] at ho'
    cases ho'
    obtain ⟨sl, hs⟩ := ((hsm.trans hsm₅).trans hsm₆) _ _ (F.keep _ _ ho) hd
    rw [hoe] at hs
    cases hs
    exact hd _ hoed)
  have Nl : News g₆ L h₆ ((dx, od) :: news) := fun q hq => by
    rcases List.mem_cons.mp hq with rfl | hq
    · exact ⟨hfl₆.1 _ _ hdx.1, (fun z => by have q2 := hdx.1; dsimp only at z; rw [z, hL] at q2; cases q2), T₆.none_ _ (kts_none F.keep hdx.2.1)⟩
    · exact ⟨hfl₆.1 _ _ (hfull q hq), (hrest q hq).2.2, T₆.none_ _ (hrest q hq).2.1⟩
  have N₆ := News.more F₆ Nl hoe (fun es n q => by rw [hoed] at q; cases q) ne₆
  have X₆ : KF.In g₆ := XB.keeps K₆.stays
  have P₆ : Top p loose mean mg mb g₆ := TB.keeps K₆.stays
  refine stN F₆ (news := (e, oe) :: (dx, od) :: news) N₆ (fun h₇ F₇ N₇ => ?_) hk hlo
  exact k h₇ g₆ _ _ T₆ F₇ N₇ hoec hoedx (by obtain ⟨c, d, dt, sl⟩ := oe; cases hoed; rfl) K₆ X₆ P₆
end
end
section
section
open Builtin Builtin.ObjectAttr
variable {prog : Program} {w : World} {A : Around} {E : Value → Shared → Prop} {h : Heap} {g : Array GenState} {d : Drawn} {t : Nat} {os : OsState}
variable {nm q : Str} {C N x : Addr} {bs bm : List Value} {sn : List Str} {sub : List Value} {ab : Bool} {col : Option Bool} {dd : Option Addr} {k0 k1 k2 k3 k5 : Option Value} {B newId sa owner : String}
  {mN : Str → Option Value} {name : Str} {v : Value} {o : Obj}
theorem fresh_entry {tk : Tok} {Q : Fin → Shared → Prop} (SF : StoreFacts B bm sa owner)
    (hC : h.get? C = some (excClassObj nm q C N bs bm true sn sub ab col dd k0 k1 k2 k3 k5 newId)) (hn : h.Ns N mN) (hna : mN name = none)
    (hB : typeLookup (.type B) name = pure none) (hx : h.get? x = some o) (hc : o.cls = .ref C) (hnc : ∀ c, o.data ≠ .cls c) (hdn : o.dict = none)
    (hq : ∀ h' tk', h'.get? x = some { o with dict := some h.objs.size } → h'.Ns1 h.objs.size (fun y => if y = name then some v else none) → (∀ b o, b ≠ x → h.get? b = some o → h'.get? b = some o) →
      Q (.done (.ret .none)) ⟨h', g, d, tk', os⟩) :
    wpAny (model prog w) A (Builtin.«object.__setattr__» ⟨[.ref x, .str name tk, v], []⟩) Q E ⟨h, g, d, t, os⟩ := by
  have hpass := SF.passes (.ref x)
  unfold Builtin.«object.__setattr__»
  repeat (first | rw [refuse_eq] | (rw [refuseLoop_ref, hpass]) | (with_reducible refine wpAny_loadPart_at hx ?_; rw [hc]) | with_reducible refine wpAny_mroOf_exc hC ?_ | (with_reducible refine wpAny_typeLookup_exc hC hn SF.mro hB ?_; rw [hna]) | wp_step)
  rw [hdn, if_neg (by simp [typeHasDict])]
  split
  · rename_i hcd
    cases hcd
  split
  · rename_i c hcd
    exact absurd hcd (hnc c)
  · have hx₁ : (h.push { cls := .type "dict", data := .dict #[] }).get? x = some o := Heap.get?_push_of_some _ hx
    have hxs : x ≠ h.objs.size := Nat.ne_of_lt (Heap.lt_size hx)
    refine wpAny_bind (wpAny_alloc' ?_)
    refine wpAny_bind (wpAny_update' hx₁ ?_)
    refine wpAny_pure ?_
    have hgd : ((h.push { cls := .type "dict", data := .dict #[] }).update x fun o => { cls := o.cls, dict := some h.objs.size, data := o.data, slots := o.slots }).get? h.objs.size
        = some { cls := .type "dict", data := .dict #[] } :=
      (Heap.get?_update_ne _ _ _ _ hxs.symm).trans (Heap.get?_push_at rfl rfl)
    have hnd : ((h.push { cls := .type "dict", data := .dict #[] }).update x fun o => { cls := o.cls, dict := some h.objs.size, data := o.data, slots := o.slots }).Ns h.objs.size (fun _ => none) :=
      ⟨_, #[], _, hgd, rfl, fun e he => absurd he (by simp), fun _ => rfl⟩
    show wpAny _ _ (storeInDict h.objs.size (.str name tk) name v) _ _ _
    unfold storeInDict newKeyGuard
    refine wpAny_bind (wpAny_pure (wpAny_bind (wpAny_nsSet1 (Heap.Ns1.of_empty hnd) fun h' hn' hs => ?_)))
    obtain ⟨oD, esD, epD, hoD, hdD, hcD⟩ := hn'.count (Within.cons name v Within.nil)
    refine wpAny_bind (wpAny_lookBehind hoD (by rw [hdD]; exact pastItsLine_dict (Nat.le_trans hcD (by rw [List.length_cons, List.length_nil, sizeLine_eq]; omega))) ?_)
    wp_walk
    refine hq h' _ ((hs.2 x hxs).trans (Heap.get?_update_self _ hx₁ ?_)) hn' fun b ob hbx hb => (hs.2 b (Nat.ne_of_lt (Heap.lt_size hb))).trans ((Heap.get?_update_ne _ _ _ _ hbx).trans (Heap.get?_push_of_some _ hb))
    have hfr := (Heap.get?_some_iff.mp hx).2
    obtain ⟨oc, od, odt, osl⟩ := o
    cases odt <;> first | rfl | exact hfr
theorem fresh_attr {Q : Unit → Shared → Prop} (SF : StoreFacts B bm sa owner)
    (hC : h.get? C = some (excClassObj nm q C N bs bm true sn sub ab col dd k0 k1 k2 k3 k5 newId)) (hn : h.Ns N mN) (hns : mN "__setattr__" = none) (hna : mN name = none)
    (hB : typeLookup (.type B) name = pure none) (hx : h.get? x = some o) (hc : o.cls = .ref C) (hnc : ∀ c, o.data ≠ .cls c) (hdn : o.dict = none)
    (hq : ∀ h' tk', h'.get? x = some { o with dict := some h.objs.size } → h'.Ns1 h.objs.size (fun y => if y = name then some v else none) → (∀ b o, b ≠ x → h.get? b = some o → h'.get? b = some o) → Q () ⟨h', g, d, tk', os⟩) :
    wpAny (model prog w) A (setAttr (.ref x) name v) Q E ⟨h, g, d, t, os⟩ := by
  have f3 := SF.slot.bind (.ref x)
  unfold setAttr callSpecial? specialOf
  repeat (any_goals (first | assumption | (with_reducible refine wpAny_loadPart_at hx ?_; rw [hc]) | (with_reducible refine wpAny_typeLookup_exc hC hn SF.mro SF.slot.lookup ?_; rw [hns]) | wp_step))
  refine codeAny_call_builtin SF.slot.plain SF.entry (wpAny_check_sa SF hC hx hc (fresh_entry SF hC hn hna hB hx hc hnc hdn fun h' tk' a b c => ?_))
  repeat (any_goals (first | assumption | wp_step))
  exact hq h' tk' a b c
end
theorem symIs_of {h : Heap} {dx : Addr} {mA : Str → Option Value} {t : Tok} (x : h.Ns1 dx mA) (hs : mA (Str.ofString "symbol") = some (.str (Str.ofString "error") t)) : ∃ od, h.get? dx = some od ∧ SymIs od := by
  obtain ⟨o, es, ep, ho, hd, _, _, hf⟩ := x
  refine ⟨o, ho, ⟨t, ?_⟩, fun vs q => by rw [hd] at q; cases q⟩
  have := hf (Str.ofString "symbol")
  rw [hs] at this
  unfold lookIn
  rw [hd]
  unfold nsFind findBy at this
  rw [← Array.find?_toList] at this
  dsimp only
  cases q : es.toList.find? (fun e => e.key.isStr (Str.ofString "symbol")) with
  | none => rw [q] at this; cases this
  | some en => rw [q] at this; exact congrArg some this
end
section
theorem nsv_of {K : Frag} {h : Heap} {N : Addr} {mg : Str → Option Value} {n : Str} {v : Value} (X : K.In h) (G : h.Ns N mg) (e : nsIn K N n = some (some v)) : mg n = some v := by
  obtain ⟨o, es, ep, ho, hd, _, hf⟩ := G
  unfold nsIn at e
  split at e
  · rename_i c d es' n' sl q
    have := X _ _ q
    rw [ho] at this
    cases this
    cases hd
    split at e
    · rename_i en he
      cases e
      rw [← hf]
      unfold nsFind findBy
      rw [← Array.find?_toList, he]
      rfl
    · split at e <;> cases e
  · cases e
structure MadeD (g h : Heap) (L e dx : Addr) (od : Obj) : Prop where
  obj : ∃ t, h.get? e = some ⟨.ref 38, some dx, .fields #[.ref t, .none, .none, .none, .bool false, .none], #[]⟩
  fe : g.get? e = none
  dct : h.get? dx = some od
  fx : g.get? dx = none
  ne : dx ≠ e
  neL : dx ≠ L
  sym : SymIs od
noncomputable def RaiseD (w : World) (E : Value → Shared → Prop) (v : Value) (s₁ : Shared) : Prop :=
  (heapK w.params).In s₁.heap ∧ ∃ e t dx, v = .ref e ∧ s₁.heap.get? e = some ⟨.ref 38, some dx, .fields #[.ref t, .none, .none, .none, .bool false, .none], #[]⟩ ∧ E (.ref e) s₁
section
variable {prog : Program} {w : World} {A : Around} {E : Value → Shared → Prop} {s : Shared} {env : Env}
theorem raise_close {g base : Heap} {outer : List Env} {L a e dx : Addr} {m : Str → Option Value} {name : Str} {scope : Scope} {cd : Value} {od : Obj} {PE : Value → Shared → Prop} {s₁ : Shared}
    (K : Below A base outer g) (F : Fr g L s₁.heap m) (X : (heapK w.params).In g) (M : MadeD g s₁.heap L e dx od)
    (hEx : ∀ e s', BErr (model prog w) (A.deeper (envOf name scope L a cd)) (envOf name scope L a cd) E e s' → PE e s')
    (herr : ∀ h', RaisedD base g outer e dx od h' → g.UpToSlots h' → E (.ref e) { s₁ with heap := h' }) (hk : scope.kind = .function := by rfl) : RaiseD w PE (.ref e) s₁ := by
  obtain ⟨t, hobj⟩ := M.obj
  refine ⟨X.keeps F.keep, e, t, dx, rfl, hobj, hEx _ _ ?_⟩
  exact leave_raiseD K F hobj rfl rfl rfl rfl rfl M.fe M.dct M.fx M.ne M.neL M.sym herr hk
theorem kts38 (w : World) : ktsIn (heapK w.params) 38 "BaseException" = true := by kernel_rfl
theorem raise_D {x : Expr} {pos : Pos} {Q : Flow → Shared → Prop} (hh : A.handled = none)
    (h : wpAny (model prog w) A (eval x env) (RaiseD w E) E s) :
    wpAny (model prog w) A (exec (.Raise (some x) none pos) env) Q E s := by
  show wpAny (model prog w) A (do standAt pos; raiseStmt env (some (do let v ← eval x env; standAt pos; pure v)) none) Q E s
  refine wpAny_bind (wpAny_standAt ?_)
  unfold raiseStmt
  dsimp only
  refine wpAny_bind (wpAny_bind (wpAny_mono h (fun v s₁ h₁ => wpAny_bind (wpAny_standAt (wpAny_pure ?_))) fun _ _ e => e))
  obtain ⟨X, e, t, dx, rfl, he, hE⟩ := h₁
  obtain ⟨nm, q', N, bs, bm, hdct, sn, sub, ab, col, dd, k0, k1, k2, k3, k5, newId, hC, hbase, hbT⟩ := kts_cls X (kts38 w)
  have hcB : (Value.ref 38 :: bm).contains (.type "BaseException") = true := by rw [List.contains_cons, hbase, Bool.or_true]
  obtain ⟨hp, g, d, tk, os⟩ := s₁
  repeat (first | with_reducible refine wpAny_loadPart_at he ?_ | with_reducible refine wpAny_loadPart_at hC ?_ | (with_reducible refine wpAny_isSubtype_exc hC ?_; rw [hcB]) | wp_step)
  exact wpAny_raiseNew_none hh hE
end
theorem noattr_symbol : typeLookup (.type "Exception") (Str.ofString "symbol") = pure none := by rw [typeLookup_type, builtinLookup_eq_fast]; kernel_rfl
theorem noattr_data : typeLookup (.type "Exception") (Str.ofString "data") = pure none := by rw [typeLookup_type, builtinLookup_eq_fast]; kernel_rfl
theorem fr_but {g h h' : Heap} {L e : Addr} {m : Str → Option Value} (F : Fr g L h m) (c : ∀ b o, b ≠ e → h.get? b = some o → h'.get? b = some o) (hg : g.get? e = none) (hL : e ≠ L) : Fr g L h' m :=
  ⟨by obtain ⟨o, es, ep, ho, r⟩ := F.ns; exact ⟨o, es, ep, c _ _ (Ne.symm hL) ho, r⟩, fun b o q => c _ _ (fun z => by rw [z, hg] at q; cases q) (F.keep b o q), F.above⟩
section
variable {w : World} {dp un : Nat} {gd : Option (List Code)} {cn : Str} {cs : Scope} {a : Addr} {ccd : Value} {cl : List (Str × Addr)} {outer : List Env} {A₀ : Around} {base h₀ : Heap} {L : Addr}
  {m : Str → Option Value} {s : Shared} {Q E : Value → Shared → Prop} {loose : List Str} {mean : ExcName → Option Value} {mg mb : Str → Option Value} {p : Program} {news : List (Addr × Obj)}

theorem sig_c {la : Addr} {t : Tok}
  (B : Below A₀ base outer h₀) (F : Fr h₀ L s.heap m) (X : (heapK w.params).In h₀) (N : News h₀ L s.heap news) (T : Top p loose mean mg mb h₀) (hk : cs.kind = .function)
  (hd : dp + 3 < recursionLimit) (hu : un + 24 < cLine)
  (hret : ∀ e dx od h' tk', Fr h₀ L h' m → News h₀ L h' news → MadeD h₀ h' L e dx od → Q (.ref e) { s with heap := h', toks := tk' })  :
  wpAny (model PySem.Challenge.rw_np0086_01.row.prog w) (ktrTop dp un gd cn cs L a ccd cl outer) (call (.ref 38) [.str (Str.ofString "error") t, .ref la]) Q E s := by
  (revert X; k_fill; intro X)
  obtain ⟨hh, gg, dd, tt, oo⟩ := s
  have hX := X.keeps F.keep
  have hns : hh.Ns 37 (hh.nsMap 37) := .of_isNs (isNs_of_in hX (by kernel_rfl))
  refine wpAny_call_exc_init PySem.F.excBase_Exception (hX 38 _ (by k_is)) hns (nsv_of hX hns (by k_is)) (hX 35 _ (by k_is)) rfl (fun h' e hm => ?_) (by simp [sizeLine_eq])
  obtain ⟨t0, hobj, ht0, htup⟩ := hm.there
  have hLe : e ≠ L := fun z => by
    obtain ⟨o, es, ep, ho, _⟩ := F.ns
    have q := hm.new
    rw [z] at q
    rw [q] at ho; cases ho
  have F1 : Fr h₀ L h' m := F.keeps hm.keeps
  have N1 : News h₀ L h' ((e, ({ cls := .ref 38, data := .fields #[.ref t0, .none, .none, .none, .bool false, .none] } : Obj)) :: news) := fun q hq => by
    rcases List.mem_cons.mp hq with rfl | hq
    · exact ⟨hobj, hLe, kts_none F.keep hm.new⟩
    · exact ⟨hm.keeps _ _ (N q hq).1, (N q hq).2⟩
  k_dflt (refine enterD (binds := [("self", .ref e), ("symbol", .str (Str.ofString "error") t), ("data", .ref la)]) B F1 X N1 T [(e, ({ cls := .ref 38, data := .fields #[.ref t0, .none, .none, .none, .bool false, .none] } : Obj))] news (by intro q hq; simp only [List.mem_cons, List.not_mem_nil, or_false] at hq; rw [hq]; exact .head _) (by intro q hq; refine ⟨.tail _ hq, ?_⟩; simp only [List.map_cons, List.map_nil, List.mem_cons, List.not_mem_nil, or_false]; intro z; have w := (N q hq).1; rw [z] at w; exact absurd (w.symm.trans hm.new) (by simp)) rfl rfl hk (by k_is) (by k_is) (by ktr_room) (BindsTo.of_eq rfl) (locs rfl) ?_ rfl rfl rfl (by decide))
  intro g L' h₁ tk PQ PE G F' N' B' X' T' hPQ hPE hEx
  set_option simprocs false in dsimp only [b35, qb35, b55, qb55, b69, qb69, b76, qb76, b83, qb83, b90, qb90, b97, qb97, b104, qb104, b197, qb197, b309, qb309, b316, qb316, b344, qb344, b381, qb381, b442, qb442, b449, qb449, b456, qb456, b463, qb463, b470, qb470, b477, qb477, b512, qb512, b526, qb526, b533, qb533, b540, qb540, b547, qb547, b552, qb552, b559, qb559, b564, qb564, b569, qb569, b576, qb576, b583, qb583, b588, qb588, b595, qb595, b600, qb600]
  have hc1 := (N' _ (.head _)).1
  have hne' := (N' _ (.head _)).2.1
  have hge := (N' _ (.head _)).2.2
  dsimp only at hc1 hne' hge
  have X1 := X'.keeps F'.keep
  have ns1 : h₁.Ns 37 (h₁.nsMap 37) := .of_isNs (isNs_of_in X1 (by kernel_rfl))
  clear B F N T X G F1 N1 N' hX hns
  refine wpAny_execs_cons ?_
  repeat' walk_at "K"
  refine fresh_attr PySem.F.store_Exception (X1 38 _ (by k_is)) ns1 ?_ ?_ noattr_symbol hc1 rfl (fun c q => by cases q) rfl fun h2 tk2 a2 b2 c2 => ?_
  · exact nsMap_none_of_in X1 (by kernel_rfl) (by k_is)
  · exact nsMap_none_of_in X1 (by kernel_rfl) (by k_is)
  have F2 := fr_but F' c2 hge hne'
  have X2 := X'.keeps F2.keep
  have ns2 : h2.Ns 37 (h2.nsMap 37) := .of_isNs (isNs_of_in X2 (by kernel_rfl))
  have hdxe : h₁.objs.size ≠ e := Nat.ne_of_gt (Heap.lt_size hc1)
  have hdxL : h₁.objs.size ≠ L' := fun z => by
    obtain ⟨o, es, ep, ho, _⟩ := F'.ns
    exact absurd (Heap.lt_size ho) (by rw [← z]; exact Nat.lt_irrefl _)
  have hdxg : g.get? h₁.objs.size = none := none_at_size (s := ⟨h₁, gg, dd, tt, oo⟩) F'
  generalize h₁.objs.size = dx at *
  clear F' X1 ns1 hc1 c2
  refine wpAny_execs_cons ?_
  repeat' walk_at "K"
  refine store_attr PySem.F.store_Exception (X2 38 _ (by k_is)) ns2 ?_ ?_ noattr_data ?_ ⟨_, a2, rfl, (fun c q => by cases q), .inr ⟨dx, rfl, hdxe, b2⟩⟩ (fun h3 tk3 I3 k3 s3 => ?_)
  · exact nsMap_none_of_in X2 (by kernel_rfl) (by k_is)
  · exact nsMap_none_of_in X2 (by kernel_rfl) (by k_is)
  · intro z
    have q := X' 38 _ (by k_is)
    rw [← z, hge] at q
    cases q
  obtain ⟨o₁, ho₁, c1, d1, sl1, dk1⟩ := s3 _ a2
  have dk1' := dk1 dx rfl
  obtain ⟨cc, dc, dtc, slc⟩ := o₁
  dsimp only at c1 d1 sl1 dk1'
  subst c1 d1 sl1 dk1'
  obtain ⟨oI, hoI, cI, ncI, hI⟩ := I3
  obtain rfl := Option.some.inj (ho₁.symm.trans hoI)
  have hN3 : h3.Ns1 dx (fun y => if y = Str.ofString "data" then some (.ref la) else if y = Str.ofString "symbol" then some (.str (Str.ofString "error") t) else none) := by
    rcases hI with ⟨z, _⟩ | ⟨dx', z, _, q⟩
    · cases z
    · cases z; exact q
  obtain ⟨od, hod, hsy⟩ := symIs_of hN3 (t := t) rfl
  have F3 : Fr g L' h3 _ := ⟨by
      obtain ⟨o, es, ep, ho, r⟩ := F2.ns
      exact ⟨o, es, ep, k3 _ _ (Ne.symm hne') (fun o₀ dx' q1 q2 => by rw [a2] at q1; cases q1; cases q2; exact Ne.symm hdxL) ho, r⟩,
    fun b o q => k3 _ _ (fun z => by rw [z, hge] at q; cases q) (fun o₀ dx' q1 q2 z => by rw [a2] at q1; cases q1; cases q2; rw [z, hdxg] at q; cases q) (F2.keep b o q), F2.above⟩
  have N3 : News g L' h3 [(e, ⟨.ref 38, some dx, .fields #[.ref t0, .none, .none, .none, .bool false, .none], #[]⟩), (dx, od)] := by
    intro q hq
    simp only [List.mem_cons, List.not_mem_nil, or_false] at hq
    rcases hq with rfl | rfl
    · exact ⟨ho₁, hne', hge⟩
    · exact ⟨hod, hdxL, hdxg⟩
  refine wpAny_execs_nil (hPQ _ _ ?_)
  refine ⟨_, _, F3, N3, fun b => ⟨rfl, ?_⟩⟩
  have b1 := b.nw _ (.head _)
  have b2' := b.nw _ (.tail _ (.head _))
  exact hret e dx od h3 _ b.fr b.none ⟨⟨t0, ho₁⟩, b1.2.2, hod, b2'.2.2, hdxe, b2'.2.1, hsy⟩
end
end
section
section
variable {w : World} {dp un : Nat} {gd : Option (List Code)} {cn : Str} {cs : Scope} {a : Addr} {ccd : Value} {cl : List (Str × Addr)} {outer : List Env} {A₀ : Around} {base h₀ : Heap} {L : Addr}
  {m : Str → Option Value} {s : Shared} {Q E : Value → Shared → Prop} {loose : List Str} {mean : ExcName → Option Value} {mg mb : Str → Option Value} {p : Program} {news : List (Addr × Obj)}

theorem thingfor_c {x dx : Addr} {fi : Int} {le pl bl no ma : Bool} {wi pr : Int} {l : Str} {kt : Nat → Tok} {ta tb tc td : Tok} {n₀ : Nat} {lt : Addr} {ths : List Value} {v : Value} {at_ pc : Int} {tk₀ : Tok}
  (B : Below A₀ base outer h₀) (F : Fr h₀ L s.heap m) (X : (heapK w.params).In h₀) (N : News h₀ L s.heap news) (T : Top p loose mean mg mb h₀) (hk : cs.kind = .function)
  (hI : InstH s.heap x 58 dx (specEs w ⟨fi, le, pl, bl, no, ma, wi, pr, l⟩ kt ta tb tc td) n₀) (hl : s.heap.IsList lt ths.toArray) (hpc : pc = if fi < 0 then at_ else fi) (h0 : 0 ≤ pc) (hx : ths[pc.toNat]? = some v) (hlen : ths.length ≤ 100)
  (hd : dp + 2 < recursionLimit) (hu : un + 16 < cLine)
  (hret : ∀ r t1 n h' tk', Fr h₀ L h' m → News h₀ L h' ((r, ({ cls := .type "tuple", data := .seq #[v, .int (pc + 1) t1] n } : Obj)) :: news) → LCg.Off1 r news → Q (.ref r) { s with heap := h', toks := tk' })  :
  wpAny (model PySem.Challenge.rw_np0086_01.row.prog w) (ktrTop dp un gd cn cs L a ccd cl outer) (call (.ref 533) [.ref x, .ref lt, .int at_ tk₀]) Q E s := by
  (revert X; k_fill; intro X)
  k_dflt (refine enterD (binds := [("spec", .ref x), ("things", .ref lt), ("at", .int at_ tk₀)]) B F X N T [] news (fun _ h => nomatch h) (fun q hq => ⟨hq, fun h => nomatch h⟩) rfl rfl hk (by k_is) (by k_is) (by ktr_room) (BindsTo.of_eq rfl) (locs rfl) ?_ rfl rfl rfl (by decide))
  intro g L' h₁ tk PQ PE G F' N' B' X' T' hPQ hPE hEx
  set_option simprocs false in dsimp only [b533, qb533]
  have hl' := gList G hl
  have hI' := gInst G hI
  have hlt : pc.toNat < ths.length := by
    have := List.getElem?_eq_some_iff.mp hx
    exact this.1
  clear B F N T X G hl hI
  refine cutA (fun Z => ∀ (t1 : Tok) h' tk' m', Fr g L' h' (over m' [(Str.ofString "place", .int pc t1), (Str.ofString "things", .ref lt)]) → Z h' tk') ?_ ?_
  · intro Z hZ
    repeat' (first | ((with_reducible show wpAny _ _ (call (Value.builtin _) [Value.ref _]) _ _ _); k_dflt (refine len_list (by first | assumption | exact stays_list (Fr.keep (by k_asm)) (by assumption)) (by simp only [List.size_toArray]; omega) ?_); (try simp only [List.size_toArray])) | ((with_reducible show wpAny _ _ (subscriptTail _ _ (Value.ref _) (Value.int _ _)) _ _ _); k_dflt (refine item_litK (by first | assumption | exact stays_list (Fr.keep (by k_asm)) (by assumption)) (by omega) (by omega) (by assumption) ?_ (by with_unfolding_all rfl))) | ((with_reducible show wpAny _ _ (call (Value.ref 38) _) _ _ _); k_dflt (refine sig_c (by k_asm) (by k_asm) (by k_asm) (by k_asm) (by k_asm) (by rfl) (by ktr_room) (by ktr_units) ?_); intro e' dx' od' h' tk' F' N' M'; (try dsimp only)) | walk_at "K")
    · have e : at_ = pc := by rw [hpc, if_pos (by assumption)]
      exact hZ _ _ _ _ (frA (by assumption) (by exact ⟨congrArg (fun z => some (Value.int z _)) e, rfl, trivial⟩))
    · have e : fi = pc := by rw [hpc, if_neg (by assumption)]
      exact hZ _ _ _ _ (frA (by assumption) (by exact ⟨congrArg (fun z => some (Value.int z _)) e, rfl, trivial⟩))
  clear F' N'
  intro t3 h5 tk5 m5 F5
  have N5 : News g L' h5 [] := News.nil
  ((refine wpAny_execs_cons ?_); repeat' (first | ((with_reducible show wpAny _ _ (call (Value.builtin _) [Value.ref _]) _ _ _); k_dflt (refine len_list (by first | assumption | exact stays_list (Fr.keep (by k_asm)) (by assumption)) (by simp only [List.size_toArray]; omega) ?_); (try simp only [List.size_toArray])) | ((with_reducible show wpAny _ _ (subscriptTail _ _ (Value.ref _) (Value.int _ _)) _ _ _); k_dflt (refine item_litK (by first | assumption | exact stays_list (Fr.keep (by k_asm)) (by assumption)) (by omega) (by omega) (by assumption) ?_ (by with_unfolding_all rfl))) | ((with_reducible show wpAny _ _ (call (Value.ref 38) _) _ _ _); k_dflt (refine sig_c (by k_asm) (by k_asm) (by k_asm) (by k_asm) (by k_asm) (by rfl) (by ktr_room) (by ktr_units) ?_); intro e' dx' od' h' tk' F' N' M'; (try dsimp only)) | walk_at "K"))
  ((refine wpAny_execs_cons ?_); repeat' (first | ((with_reducible show wpAny _ _ (call (Value.builtin _) [Value.ref _]) _ _ _); k_dflt (refine len_list (by first | assumption | exact stays_list (Fr.keep (by k_asm)) (by assumption)) (by simp only [List.size_toArray]; omega) ?_); (try simp only [List.size_toArray])) | ((with_reducible show wpAny _ _ (subscriptTail _ _ (Value.ref _) (Value.int _ _)) _ _ _); k_dflt (refine item_litK (by first | assumption | exact stays_list (Fr.keep (by k_asm)) (by assumption)) (by omega) (by omega) (by assumption) ?_ (by with_unfolding_all rfl))) | ((with_reducible show wpAny _ _ (call (Value.ref 38) _) _ _ _); k_dflt (refine sig_c (by k_asm) (by k_asm) (by k_asm) (by k_asm) (by k_asm) (by rfl) (by ktr_room) (by ktr_units) ?_); intro e' dx' od' h' tk' F' N' M'; (try dsimp only)) | walk_at "K"))
  exact hPQ _ _ ⟨_, _, by assumption, by assumption, fun b => hret _ _ _ _ _ b.fr (b.one (by k_mem)) (b.off1 (by k_mem))⟩
theorem thingfor_end_c {x dx : Addr} {fi : Int} {le pl bl no ma : Bool} {wi pr : Int} {l : Str} {kt : Nat → Tok} {ta tb tc td : Tok} {n₀ : Nat} {lt : Addr} {ths : List Value} {v : Value} {at_ pc : Int} {tk₀ : Tok}
  (B : Below A₀ base outer h₀) (F : Fr h₀ L s.heap m) (X : (heapK w.params).In h₀) (N : News h₀ L s.heap news) (T : Top p loose mean mg mb h₀) (hk : cs.kind = .function)
  (hI : InstH s.heap x 58 dx (specEs w ⟨fi, le, pl, bl, no, ma, wi, pr, l⟩ kt ta tb tc td) n₀) (hl : s.heap.IsList lt ths.toArray) (hpc : pc = if fi < 0 then at_ else fi) (h0 : ths.length ≤ pc) (hlen : ths.length ≤ 100)
  (hd : dp + 5 < recursionLimit) (hu : un + 40 < cLine)
  (herr : ∀ g e dx od h' tk', GSub s.heap g [] → RaisedD base g (envX cn cs L a ccd cl :: outer) e dx od h' → g.UpToSlots h' → E (.ref e) { s with heap := h', toks := tk' }) :
  wpAny (model PySem.Challenge.rw_np0086_01.row.prog w) (ktrTop dp un gd cn cs L a ccd cl outer) (call (.ref 533) [.ref x, .ref lt, .int at_ tk₀]) Q E s := by
  (revert X; k_fill; intro X)
  k_dflt (refine enterD (binds := [("spec", .ref x), ("things", .ref lt), ("at", .int at_ tk₀)]) B F X N T [] news (fun _ h => nomatch h) (fun q hq => ⟨hq, fun h => nomatch h⟩) rfl rfl hk (by k_is) (by k_is) (by ktr_room) (BindsTo.of_eq rfl) (locs rfl) ?_ rfl rfl rfl (by decide))
  intro g L' h₁ tk PQ PE G F' N' B' X' T' hPQ hPE hEx
  set_option simprocs false in dsimp only [b533, qb533]
  have hl' := gList G hl
  have hI' := gInst G hI
  clear B F N T X hl hI
  refine cutA (fun Z => ∀ (t1 : Tok) h' tk' m', Fr g L' h' (over m' [(Str.ofString "place", .int pc t1), (Str.ofString "things", .ref lt)]) → Z h' tk') ?_ ?_
  · intro Z hZ
    repeat' (first | ((with_reducible show wpAny _ _ (call (Value.builtin _) [Value.ref _]) _ _ _); k_dflt (refine len_list (by first | assumption | exact stays_list (Fr.keep (by k_asm)) (by assumption)) (by simp only [List.size_toArray]; omega) ?_); (try simp only [List.size_toArray])) | ((with_reducible show wpAny _ _ (subscriptTail _ _ (Value.ref _) (Value.int _ _)) _ _ _); k_dflt (refine item_litK (by first | assumption | exact stays_list (Fr.keep (by k_asm)) (by assumption)) (by omega) (by omega) (by assumption) ?_ (by with_unfolding_all rfl))) | ((with_reducible show wpAny _ _ (call (Value.ref 38) _) _ _ _); k_dflt (refine sig_c (by k_asm) (by k_asm) (by k_asm) (by k_asm) (by k_asm) (by rfl) (by ktr_room) (by ktr_units) ?_); intro e' dx' od' h' tk' F' N' M'; (try dsimp only)) | walk_at "K")
    · have e : at_ = pc := by rw [hpc, if_pos (by assumption)]
      exact hZ _ _ _ _ (frA (by assumption) (by exact ⟨congrArg (fun z => some (Value.int z _)) e, rfl, trivial⟩))
    · have e : fi = pc := by rw [hpc, if_neg (by assumption)]
      exact hZ _ _ _ _ (frA (by assumption) (by exact ⟨congrArg (fun z => some (Value.int z _)) e, rfl, trivial⟩))
  clear F' N'
  intro t3 h5 tk5 m5 F5
  have N5 : News g L' h5 [] := News.nil
  ((refine wpAny_execs_cons ?_); repeat' (first | ((with_reducible show wpAny _ _ (call (Value.builtin _) [Value.ref _]) _ _ _); k_dflt (refine len_list (by first | assumption | exact stays_list (Fr.keep (by k_asm)) (by assumption)) (by simp only [List.size_toArray]; omega) ?_); (try simp only [List.size_toArray])) | ((with_reducible show wpAny _ _ (subscriptTail _ _ (Value.ref _) (Value.int _ _)) _ _ _); k_dflt (refine item_litK (by first | assumption | exact stays_list (Fr.keep (by k_asm)) (by assumption)) (by omega) (by omega) (by assumption) ?_ (by with_unfolding_all rfl))) | ((with_reducible show wpAny _ _ (call (Value.ref 38) _) _ _ _); k_dflt (refine sig_c (by k_asm) (by k_asm) (by k_asm) (by k_asm) (by k_asm) (by rfl) (by ktr_room) (by ktr_units) ?_); intro e' dx' od' h' tk' F' N' M'; (try dsimp only)) | walk_at "K"))
  refine wpAny_execs_cons ?_
  refine raise_D (by rfl) ?_
  repeat' (first | ((with_reducible show wpAny _ _ (call (Value.builtin _) [Value.ref _]) _ _ _); k_dflt (refine len_list (by first | assumption | exact stays_list (Fr.keep (by k_asm)) (by assumption)) (by simp only [List.size_toArray]; omega) ?_); (try simp only [List.size_toArray])) | ((with_reducible show wpAny _ _ (subscriptTail _ _ (Value.ref _) (Value.int _ _)) _ _ _); k_dflt (refine item_litK (by first | assumption | exact stays_list (Fr.keep (by k_asm)) (by assumption)) (by omega) (by omega) (by assumption) ?_ (by with_unfolding_all rfl))) | ((with_reducible show wpAny _ _ (call (Value.ref 38) _) _ _ _); k_dflt (refine sig_c (by k_asm) (by k_asm) (by k_asm) (by k_asm) (by k_asm) (by rfl) (by ktr_room) (by ktr_units) ?_); intro e' dx' od' h' tk' F' N' M'; (try dsimp only)) | walk_at "K")
  rename MadeD _ _ _ _ _ _ => M'
  exact raise_close (by assumption) (by assumption) (by assumption) M' hEx (fun h' r u => herr _ _ _ _ _ _ G r u)
end
end
section
noncomputable def OffN (r : Addr) : List (Addr × Obj) → Prop
  | [] => True
  | q :: l => @Ne Nat q.1 r ∧ OffN r l
theorem offN {r : Addr} {l : List (Addr × Obj)} (h : LCg.Off1 r l) : OffN r l := by
  induction l with
  | nil => exact True.intro
  | cons q l ih => exact ⟨h.1, ih h.2⟩
section
variable {prog : Program} {w : World} {A : Around} {E : Value → Shared → Prop} {s : Shared} {a b : Int} {t u : Tok} {Q : Value → Shared → Prop}
theorem divmod_F {h₀ : Heap} {L : Addr} {m : Str → Option Value} {news : List (Addr × Obj)} (F : Fr h₀ L s.heap m) (N : News h₀ L s.heap news) (hb : b ≠ 0) (hl : b.natAbs.log2 < 9000)
    (h : ∀ r t1 t2 h', Fr h₀ L h' m → News h₀ L h' ((r, { cls := .type "tuple", data := .seq #[.int (a.fdiv b) t1, .int (a.fmod b) t2] }) :: news) → LCg.Off1 r news →
      Q (.ref r) { s with toks := s.toks + 1 + 1, heap := h' }) :
    wpAny (model prog w) A (call (.builtin "divmod") [.int a t, .int b u]) Q E s :=
  divmod_N F N hb (fun h' F' N' => h _ _ _ h' F' N' (off1_of fun q hq => Nat.ne_of_lt (Heap.lt_size (N q hq).1))) (Or.inl (PyProof.noPylong_of_log2 hl))
end
theorem Led.cons {g h : Heap} {L : Addr} {news l : List (Addr × Obj)} {q : Addr × Obj} (x : Led news l) (N : News g L h (q :: news)) : News g L h (q :: l) := fun r hr => N r (by
  rcases List.mem_cons.mp hr with rfl | hr
  · exact .head _
  · exact .tail _ (x r hr))
noncomputable def rdx (l : Str) : Int := if l = Str.ofString "d" then 10 else if l = Str.ofString "o" then 8 else 16
noncomputable def digC (big : Bool) (own : Int) : Int := if own < 10 then 48 + own else (if big then 55 else 87) + own
noncomputable def stepF (r : Int) (big : Bool) (pf : Int × List Int) : Int × List Int := if pf.1 > 0 ∨ pf.2 = [] then (Int.fdiv pf.1 r, pf.2 ++ [digC big (Int.fmod pf.1 r)]) else pf
noncomputable def iterF (r : Int) (big : Bool) : Nat → Int × List Int → Int × List Int
  | 0, pf => pf
  | i + 1, pf => stepF r big (iterF r big i pf)
theorem iterF_len (r : Int) (big : Bool) (n : Int) : ∀ i, (iterF r big i (n, [])).2.length ≤ i
  | 0 => Nat.le_refl _
  | i + 1 => by
    show (stepF r big (iterF r big i (n, []))).2.length ≤ i + 1
    have := iterF_len r big n i
    unfold stepF
    split
    · simp only [List.length_append, List.length_cons, List.length_nil]; omega
    · omega
theorem iterF_ne (r : Int) (big : Bool) (i : Nat) (n : Int) : (iterF r big (i + 1) (n, [])).2 ≠ [] := by
  have h : ∀ pf, (stepF r big pf).2 ≠ [] := by
    intro pf
    unfold stepF
    split
    · simp
    · rename_i h
      exact fun e => h (.inr e)
  exact h _
noncomputable def figS (n : Int) (l : Str) : List Int := (iterF (rdx l) (l == Str.ofString "X") 8 (n, [])).2.reverse
theorem figS_len (n : Int) (l : Str) : (figS n l).length ≤ 8 := by
  unfold figS
  rw [List.length_reverse]
  exact iterF_len _ _ _ _
theorem figS_ne (n : Int) (l : Str) : figS n l ≠ [] := by
  unfold figS
  intro e
  exact iterF_ne _ _ _ _ (List.reverse_eq_nil_iff.mp e)
noncomputable def Four (l : Str) : Prop := l = Str.ofString "d" ∨ l = Str.ofString "o" ∨ l = Str.ofString "x" ∨ l = Str.ofString "X"
section
variable {w : World} {dp un : Nat} {gd : Option (List Code)} {cn : Str} {cs : Scope} {a : Addr} {ccd : Value} {cl : List (Str × Addr)} {outer : List Env} {A₀ : Around} {base h₀ : Heap} {L : Addr}
  {m : Str → Option Value} {s : Shared} {Q E : Value → Shared → Prop} {loose : List Str} {mean : ExcName → Option Value} {mg mb : Str → Option Value} {p : Program} {news : List (Addr × Obj)}

theorem figs_c {n : Int} {tn tl : Tok} {l : Str}
  (B : Below A₀ base outer h₀) (F : Fr h₀ L s.heap m) (X : (heapK w.params).In h₀) (N : News h₀ L s.heap news) (T : Top p loose mean mg mb h₀) (hk : cs.kind = .function)
  (h0 : 0 ≤ n) (hn : n ≤ 10000) (hl4 : Four l)
  (hd : dp + 1 < recursionLimit) (hu : un + 108 < cLine)
  (hret : ∀ r ws k h' tk', Fr h₀ L h' m → News h₀ L h' ((r, listOf (List.toArray ws) k) :: news) → LCg.Off1 r news → IntsAre ws (figS n l) → Q (.ref r) { s with heap := h', toks := tk' })  :
  wpAny (model PySem.Challenge.rw_np0086_01.row.prog w) (ktrTop dp un gd cn cs L a ccd cl outer) (call (.ref 97) [.int n tn, .str l tl]) Q E s := by
  (revert X; k_fill; intro X)
  k_dflt (refine enterD (binds := [("number", .int n tn), ("letter", .str l tl)]) B F X N T [] news (fun _ h => nomatch h) (fun q hq => ⟨hq, fun h => nomatch h⟩) rfl rfl hk (by k_is) (by k_is) (by ktr_room) (BindsTo.of_eq rfl) (locs rfl) ?_ rfl rfl rfl (by decide))
  intro g L' h₁ tk PQ PE G F' N' B' X' T' hPQ hPE hEx
  set_option simprocs false in dsimp only [b97, qb97]
  clear B F N T X G
  refine cutA (fun Z => ∀ (tr : Tok) h' tk' m', Fr g L' h' (over m' [(Str.ofString "radix", .int (rdx l) tr), (Str.ofString "number", .int n tn), (Str.ofString "letter", .str l tl)]) → News g L' h' [] → Z h' tk') ?_ ?_
  · intro Z hZ
    unfold Four at hl4
    rcases hl4 with rfl | rfl | rfl | rfl
    all_goals repeat' (first | ((with_reducible show wpAny _ _ (call (Value.builtin _) [Value.int _ _, Value.int _ _]) _ _ _); k_dflt (refine divmod_F (by k_asm) (by k_asm) (by assumption) (by assumption) ?_); intro r' t1' t2' h' F' N' o1'; (have n1' := offN o1'); (try simp only [OffN, and_true] at n1')) | walk_at "K")
    all_goals exact hZ _ _ _ _ (frB (by assumption) (by rfl)) News.nil
  clear F' N'
  intro tr h2 tk2 m2 F2 NL2
  refine cutA (fun Z => ∀ (tr tc : Tok) (fd : Addr) (c : Int) h' tk' m', Fr g L' h' (over m' [(Str.ofString "chunk", .int c tc), (Str.ofString "found", .ref fd), (Str.ofString "radix", .int (rdx l) tr), (Str.ofString "number", .int n tn), (Str.ofString "letter", .str l tl)]) → News g L' h' [(fd, listOf #[] 0)] → n < c → c ≠ 0 → c.natAbs.log2 < 9000 → Z h' tk') ?_ ?_
  · intro Z hZ
    have hc : rdx l = 10 ∨ rdx l = 8 ∨ rdx l = 16 := by
      unfold Four at hl4
      rcases hl4 with rfl | rfl | rfl | rfl
      · exact .inl rfl
      · exact .inr (.inl rfl)
      · exact .inr (.inr rfl)
      · exact .inr (.inr rfl)
    generalize rdx l = r at *
    rcases hc with rfl | rfl | rfl
    all_goals repeat' (first | ((with_reducible show wpAny _ _ (call (Value.builtin _) [Value.int _ _, Value.int _ _]) _ _ _); k_dflt (refine divmod_F (by k_asm) (by k_asm) (by assumption) (by assumption) ?_); intro r' t1' t2' h' F' N' o1'; (have n1' := offN o1'); (try simp only [OffN, and_true] at n1')) | walk_at "K")
    all_goals exact hZ _ _ _ _ _ _ _ (frB (by assumption) (by rfl)) (ledA (by assumption) (by lcg_sub)) (by simp only [show Int.toNat 8 = 8 from rfl]; omega) (by decide) (by decide +kernel)
  (try clear F2 NL2)
  intro tr tc fd c h3 tk3 m3 F3 NL3 hnc hc0 hcl
  refine whileA (n₀ := 1) (fun i Z => ∀ (tr tc tn : Tok) (vs : Array Value) (n' : Int) (kk : Nat) h' tk' m', Fr g L' h' (over m' [(Str.ofString "chunk", .int c tc), (Str.ofString "found", .ref fd), (Str.ofString "radix", .int (rdx l) tr), (Str.ofString "number", .int n' tn), (Str.ofString "letter", .str l tl)]) → News g L' h' [(fd, listOf vs kk)] → (i = 1 → n' = n ∧ vs = #[]) → (i = 0 → n' = 0 ∧ (iterF (rdx l) (l == Str.ofString "X") 8 (n, [])).2 ≠ [] ∧ vs.size ≤ 8 ∧ IntsAre vs.toList (iterF (rdx l) (l == Str.ofString "X") 8 (n, [])).2) → (i = 0 ∨ i = 1) → Z h' tk')
    (fun Z => ∀ (vs : Array Value) (kk : Nat) h' tk' m', Fr g L' h' (over m' [(Str.ofString "found", .ref fd)]) → News g L' h' [(fd, listOf vs kk)] → vs.size ≤ 8 → IntsAre vs.toList (iterF (rdx l) (l == Str.ofString "X") 8 (n, [])).2 → Z h' tk') (fun _ _ c9 tr tc tn vs n' kk h' tk' m' x0 x1 x2 x3 x4 => c9 _ _ fun _ q9 => q9 tr tc tn vs n' kk h' tk' m' x0 x1 x2 x3 x4) ?_ ?_ ?_ hPE
  · exact fun Z hZ => hZ _ _ _ _ _ _ _ _ _ (frB (by assumption) (by rfl)) (ledA NL3 (by lcg_sub)) (fun _ => ⟨rfl, rfl⟩) (fun h => absurd h (by decide)) (.inr rfl)
  · intro i ZJ ZX hZJ hZX tr tc tn vs n' kk h₁ tk₁ m₁ F₁ NL₁ hi1 hi0 hi
    clear F3 NL3
    rcases hi with rfl | rfl
    · obtain ⟨rfl, hvs, hv8, hI⟩ := hi0 rfl
      clear hi0 hi1
      repeat' (first | ((with_reducible show wpAny _ _ (call (Value.builtin _) [Value.int _ _, Value.int _ _]) _ _ _); k_dflt (refine divmod_F (by k_asm) (by k_asm) (by assumption) (by assumption) ?_); intro r' t1' t2' h' F' N' o1'; (have n1' := offN o1'); (try simp only [OffN, and_true] at n1')) | walk_at "K")
      · exact hZX _ _ _ _ _ (frB (by assumption) (by rfl)) (ledA (by assumption) (by lcg_sub)) hv8 hI
    · obtain ⟨rfl, rfl⟩ := hi1 rfl
      clear hi0 hi1
      refine testA (fun Z => ∀ (t1 t2 t3 : Tok) h' tk' m', Fr g L' h' (over m' [(Str.ofString "chunk", .int c t1), (Str.ofString "found", .ref fd), (Str.ofString "radix", .int (rdx l) t2), (Str.ofString "number", .int n' t3), (Str.ofString "letter", .str l tl)]) → News g L' h' [(fd, listOf #[] kk)] → Z true h' tk') ?_ ?_
      · intro Z hZ
        repeat' (first | ((with_reducible show wpAny _ _ (call (Value.builtin _) [Value.int _ _, Value.int _ _]) _ _ _); k_dflt (refine divmod_F (by k_asm) (by k_asm) (by assumption) (by assumption) ?_); intro r' t1' t2' h' F' N' o1'; (have n1' := offN o1'); (try simp only [OffN, and_true] at n1')) | walk_at "K")
        all_goals exact hZ _ _ _ _ _ _ (frB (by assumption) (by rfl)) (ledA (by assumption) (by lcg_sub))
      (try clear F₁ NL₁)
      intro t1 t2 t3 h4 tk4 m4 F4 NL4
      simp only [if_true]
      refine cutA (fun Z => ∀ (t1 t2 t3 t4 : Tok) h' tk' m', Fr g L' h' (over m' [(Str.ofString "chunk", .int c t1), (Str.ofString "found", .ref fd), (Str.ofString "radix", .int (rdx l) t2), (Str.ofString "number", .int 0 t3), (Str.ofString "part", .int n' t4), (Str.ofString "letter", .str l tl)]) → News g L' h' [(fd, listOf #[] kk)] → Z h' tk') ?_ ?_
      · intro Z hZ
        have e1 : n'.fdiv c = 0 := by rw [Int.fdiv_eq_ediv_of_nonneg _ (by omega)]; exact Int.ediv_eq_zero_of_lt h0 hnc
        have e2 : n'.fmod c = n' := by rw [Int.fmod_eq_emod_of_nonneg _ (by omega)]; exact Int.emod_eq_of_lt h0 hnc
        repeat' (first | ((with_reducible show wpAny _ _ (call (Value.builtin _) [Value.int _ _, Value.int _ _]) _ _ _); k_dflt (refine divmod_F (by k_asm) (by k_asm) (by assumption) (by assumption) ?_); intro r' t1' t2' h' F' N' o1'; (have n1' := offN o1'); (try simp only [OffN, and_true] at n1')) | walk_at "K")
        exact hZ _ _ _ _ _ _ _ (frA (by assumption) (by exact ⟨rfl, rfl, rfl, congrArg (fun z => some (Value.int z _)) e1, congrArg (fun z => some (Value.int z _)) e2, rfl, trivial⟩)) (ledA (by assumption) (by lcg_sub))
      (try clear F4 NL4)
      intro t1 t2 t3 t4 h5 tk5 m5 F5 NL5
      refine forRange (g := g) (fun i m nw => ∃ (t1 t2 t3 t4 : Tok) (vs : Array Value) (kk : Nat), Has m [(Str.ofString "chunk", .int c t1), (Str.ofString "found", .ref fd), (Str.ofString "radix", .int (rdx l) t2), (Str.ofString "number", .int 0 t3), (Str.ofString "part", .int (iterF (rdx l) (l == Str.ofString "X") i (n', [])).1 t4), (Str.ofString "letter", .str l tl)] ∧ Led nw [(fd, listOf vs kk)] ∧ vs.size ≤ i ∧ IntsAre vs.toList (iterF (rdx l) (l == Str.ofString "X") i (n', [])).2)
        (fun m nw => ∃ (t1 t2 t3 t4 : Tok) (vs : Array Value) (kk : Nat), Has m [(Str.ofString "chunk", .int c t1), (Str.ofString "found", .ref fd), (Str.ofString "radix", .int (rdx l) t2), (Str.ofString "number", .int 0 t3), (Str.ofString "letter", .str l tl)] ∧ Led nw [(fd, listOf vs kk)] ∧ vs.size ≤ 8 ∧ IntsAre vs.toList (iterF (rdx l) (l == Str.ofString "X") 8 (n', [])).2) 0 8 rfl rfl rfl rfl rfl ?_ ?_ ?_ ?_ (by assumption)
      · repeat' (first | ((with_reducible show wpAny _ _ (call (Value.builtin _) [Value.int _ _, Value.int _ _]) _ _ _); k_dflt (refine divmod_F (by k_asm) (by k_asm) (by assumption) (by assumption) ?_); intro r' t1' t2' h' F' N' o1'; (have n1' := offN o1'); (try simp only [OffN, and_true] at n1')) | walk_at "K")
        exact ⟨_, _, _, _, _, _, _, _, rfl, rfl, by assumption, by assumption, by assumption, _, _, _, _, _, _, ⟨rfl, rfl, rfl, rfl, rfl, rfl, trivial⟩, by lcg_sub, Nat.le_refl _, .nil⟩
      · rintro i m₁ nw₁ h₁ tk₁ t I oI hi ⟨t1, t2, t3, t4, vs, kk, hm, hsub, hvz, hI⟩ hoff F6 N6
        have hr : rdx l ≠ 0 ∧ (rdx l).natAbs.log2 < 9000 := by
          unfold Four at hl4
          rcases hl4 with rfl | rfl | rfl | rfl <;> exact ⟨by decide, by decide +kernel⟩
        obtain ⟨hr0, hr1⟩ := hr
        rw [← hm.over] at F6
        change Fr g L' h₁ _ at F6
        have N7 : News g L' h₁ _ := hsub.cons N6
        have hne : fd ≠ I := off1_mem hoff _ (hsub _ (.head _))
        have hnN : @Ne Nat fd I := hne
        clear hm hsub N6 F5 NL5 hoff
        generalize hrr : rdx l = r at *
        generalize hbig : (l == Str.ofString "X") = big at *
        have hs : iterF r big (i + 1) (n', []) = stepF r big (iterF r big i (n', [])) := rfl
        generalize iterF r big i (n', []) = pf at *
        · ((refine wpAny_execs_cons ?_); repeat' (first | ((with_reducible show wpAny _ _ (call (Value.builtin _) [Value.int _ _, Value.int _ _]) _ _ _); k_dflt (refine divmod_F (by k_asm) (by k_asm) (by assumption) (by assumption) ?_); intro r' t1' t2' h' F' N' o1'; (have n1' := offN o1'); (try simp only [OffN, and_true] at n1')) | walk_at "K"))
          rotate_right 1
          · have he : iterF _ _ (i + 1) (n', []) = pf := hs.trans (if_neg (by
              rintro (h | h)
              · omega
              · simp_all))
            exact ⟨_, _, _, _, [(fd, listOf vs kk)], rfl, by assumption, by assumption, by lcg_sub, ⟨hne, trivial⟩, _, _, _, _, vs, kk, ⟨rfl, rfl, rfl, rfl, congrArg (fun z : Int × List Int => some (Value.int z.1 _)) he.symm, rfl, trivial⟩, by lcg_sub, by omega, by rw [he]; exact hI⟩
          all_goals
            have hc : pf.1 > 0 ∨ pf.2 = [] := by first | exact .inl (by assumption) | exact .inr (of_decide_eq_true (by assumption))
            ((refine wpAny_execs_cons ?_); repeat' (first | ((with_reducible show wpAny _ _ (call (Value.builtin _) [Value.int _ _, Value.int _ _]) _ _ _); k_dflt (refine divmod_F (by k_asm) (by k_asm) (by assumption) (by assumption) ?_); intro r' t1' t2' h' F' N' o1'; (have n1' := offN o1'); (try simp only [OffN, and_true] at n1')) | walk_at "K"))
            ((refine wpAny_execs_cons ?_); repeat' (first | ((with_reducible show wpAny _ _ (call (Value.builtin _) [Value.int _ _, Value.int _ _]) _ _ _); k_dflt (refine divmod_F (by k_asm) (by k_asm) (by assumption) (by assumption) ?_); intro r' t1' t2' h' F' N' o1'; (have n1' := offN o1'); (try simp only [OffN, and_true] at n1')) | walk_at "K"))
            · have he : iterF r big (i + 1) (n', []) = _ := hs.trans (if_pos hc)
              have hq : digC big (pf.1.fmod r) = 48 + pf.1.fmod r := if_pos (by assumption)
              exact ⟨_, _, _, _, [(fd, listOf _ _)], rfl, by assumption, by assumption, by lcg_sub, ⟨hne, trivial⟩, _, _, _, _, _, _, ⟨rfl, rfl, rfl, rfl, congrArg (fun z : Int × List Int => some (Value.int z.1 _)) he.symm, rfl, trivial⟩, by lcg_sub, by rw [Array.size_push]; omega, by rw [he, hq, Array.toList_push]; exact IntsAre.append hI (.cons _ _ .nil)⟩
            all_goals
              have he : iterF r big (i + 1) (n', []) = _ := hs.trans (if_pos hc)
              have hq : digC big (pf.1.fmod r) = _ + pf.1.fmod r := if_neg (by assumption)
              rename (l == _) = _ => hX
              have hbb := hbig.symm.trans hX
              rw [hbb] at hq
              simp only [if_true, Bool.false_eq_true, if_false] at hq
              exact ⟨_, _, _, _, [(fd, listOf _ _)], rfl, by assumption, by assumption, by lcg_sub, ⟨hne, trivial⟩, _, _, _, _, _, _, ⟨rfl, rfl, rfl, rfl, congrArg (fun z : Int × List Int => some (Value.int z.1 _)) he.symm, rfl, trivial⟩, by lcg_sub, by rw [Array.size_push]; omega, by rw [he, hbb, hq, Array.toList_push]; exact IntsAre.append hI (.cons _ _ .nil)⟩
      · rintro m nw ⟨t1, t2, t3, t4, vs, kk, hm, hsub, hv8, hI⟩
        exact ⟨t1, t2, t3, t4, vs, kk, ⟨hm.1, hm.2.1, hm.2.2.1, hm.2.2.2.1, hm.2.2.2.2.2.1, trivial⟩, hsub, hv8, hI⟩
      · skip
        rintro h6 tk6 m6 nw6 F6 N6 ⟨t1, t2, t3, t4, vs, kk, hm, hsub, hv8, hI⟩
        replace F6 := hm.fr F6
        clear hm
        have NL6 := hsub.nw N6
        clear hsub N6
        change Fr g L' h6 _ at F6
        change News g L' h6 _ at NL6
        have hne : (iterF (rdx l) (l == Str.ofString "X") 8 (n', [])).2 ≠ [] := iterF_ne _ _ _ _
        refine wpAny_execs_nil ?_
        exact hZJ 0 (by decide) _ _ _ _ _ _ _ _ _ (frB (by assumption) (by rfl)) (ledA (by assumption) (by lcg_sub)) (fun h => absurd h (by decide)) (fun _ => ⟨rfl, hne, hv8, hI⟩) (.inl rfl)
  · skip
    intro vs kk h4 tk4 m4 F4 NL4 hv8 hI
    clear F3 NL3
    obtain ⟨vl⟩ := vs
    simp only [List.size_toArray] at hv8
    change IntsAre vl _ at hI
    change News g L' h4 [(fd, listOf vl.toArray kk)] at NL4
    ((refine wpAny_execs_cons ?_); repeat' (first | ((with_reducible show wpAny _ _ (call (Value.builtin _) [Value.int _ _, Value.int _ _]) _ _ _); k_dflt (refine divmod_F (by k_asm) (by k_asm) (by assumption) (by assumption) ?_); intro r' t1' t2' h' F' N' o1'; (have n1' := offN o1'); (try simp only [OffN, and_true] at n1')) | walk_at "K"))
    rename IntsAre _ (List.reverse _) => hI'
    exact hPQ _ _ ⟨_, _, by assumption, by assumption, fun b => hret _ _ _ _ _ b.fr (b.one (by k_mem)) (b.off1 (by k_mem)) hI'⟩
end
end
section
noncomputable def nHead (d : SD) (n : Int) : List Int := if n < 0 then [45] else if d.plus then [43] else if d.blank then [32] else []
noncomputable def nF1 (d : SD) (n : Int) : List Int := List.replicate (d.prec - (figS (if n < 0 then -n else n) d.letter).length).toNat 48 ++ figS (if n < 0 then -n else n) d.letter
noncomputable def nF2 (d : SD) (n : Int) : List Int := if d.marked = true ∧ d.letter = Str.ofString "o" ∧ (nF1 d n).getD 0 0 ≠ 48 then 48 :: nF1 d n else nF1 d n
noncomputable def nHead2 (d : SD) (n : Int) : List Int := if d.marked = true ∧ (d.letter = Str.ofString "x" ∨ d.letter = Str.ofString "X") ∧ n ≠ 0 then nHead d n ++ [48, if d.letter = Str.ofString "x" then 120 else 88] else nHead d n
noncomputable def nF3 (d : SD) (n : Int) : List Int := if d.noughts = true ∧ d.left = false ∧ d.prec < 0 then List.replicate (d.width - (nHead2 d n).length - (nF2 d n).length).toNat 48 ++ nF2 d n else nF2 d n
noncomputable def nCodes (d : SD) (n : Int) : List Int := padS d.left d.width (nHead2 d n ++ nF3 d n)
section
variable {w : World} {dp un : Nat} {gd : Option (List Code)} {cn : Str} {cs : Scope} {a : Addr} {ccd : Value} {cl : List (Str × Addr)} {outer : List Env} {A₀ : Around} {base h₀ : Heap} {L : Addr}
  {m : Str → Option Value} {s : Shared} {Q E : Value → Shared → Prop} {loose : List Str} {mean : ExcName → Option Value} {mg mb : Str → Option Value} {p : Program} {news : List (Addr × Obj)}

theorem numcodes_c
  {x dx : Addr} {fi : Int} {le pl bl no ma : Bool} {wi pr : Int} {l : Str} {kt : Nat → Tok} {ta tb tc td : Tok} {n₀ : Nat} {n : Int} {tn : Tok}
  (B : Below A₀ base outer h₀) (F : Fr h₀ L s.heap m) (X : (heapK w.params).In h₀) (N : News h₀ L s.heap news) (T : Top p loose mean mg mb h₀) (hk : cs.kind = .function)
  (hI : InstH s.heap x 58 dx (specEs w ⟨fi, le, pl, bl, no, ma, wi, pr, l⟩ kt ta tb tc td) n₀) (hw : 0 ≤ wi) (hw2 : wi ≤ 100) (hp2 : pr ≤ 100) (hl4 : Four l) (hn1 : -10000 ≤ n) (hn2 : n ≤ 10000)
  (hd : dp + 3 < recursionLimit) (hu : un + 124 < cLine)
  (hret : ∀ r ws k h' tk', Fr h₀ L h' m → News h₀ L h' ((r, listOf ws k) :: news) → LCg.Off1 r news → IntsAre ws.toList (nCodes ⟨fi, le, pl, bl, no, ma, wi, pr, l⟩ n) → Q (.ref r) { s with heap := h', toks := tk' })  :
  wpAny (model PySem.Challenge.rw_np0086_01.row.prog w) (ktrTop dp un gd cn cs L a ccd cl outer) (call (.ref 104) [.ref x, .int n tn]) Q E s := by
  (revert X; k_fill; intro X)
  k_dflt (refine enterD (binds := [("spec", .ref x), ("number", .int n tn)]) B F X N T [] news (fun _ h => nomatch h) (fun q hq => ⟨hq, fun h => nomatch h⟩) rfl rfl hk (by k_is) (by k_is) (by ktr_room) (BindsTo.of_eq rfl) (locs rfl) ?_ rfl rfl rfl (by decide))
  intro g L' h₁ tk PQ PE G F' N' B' X' T' hPQ hPE hEx
  set_option simprocs false in dsimp only [b104, qb104]
  have hI' := gInst G hI
  clear B F N T X G hI
  generalize hd' : SD.mk fi le pl bl no ma wi pr l = d at hret
  refine cutA (fun Z => ∀ (fa : Addr) (vs : List Value) (k : Nat) h' tk' m', Fr g L' h' (over m' [(Str.ofString "figures", .ref fa), (Str.ofString "spec", .ref x), (Str.ofString "number", .int n tn)]) → News g L' h' [(fa, listOf (List.toArray vs) k)] → IntsAre vs (figS (if n < 0 then -n else n) l) → Z h' tk') ?_ ?_
  · intro Z hZ
    repeat' (first | ((with_reducible show wpAny _ _ (call (Value.ref 90) _) _ _ _); k_dflt (refine padded_c (by k_asm) (by k_asm) (by k_asm) (by k_asm) (by k_asm) (by rfl) (by walk_at "ISLIST") (by l_ints) (InstH.keeps (by assumption) (Fr.keep (by k_asm))) (by assumption) (by assumption) (by assumption) (by ktr_room) (by ktr_units) ?_); intro r' ws' n' h' tk' F' N' o1' hI'; (have n1' := offN o1'); (try simp only [OffN, and_true] at n1'); (try dsimp only)) | ((with_reducible show wpAny _ _ (call (Value.ref 97) _) _ _ _); k_dflt (refine figs_c (by k_asm) (by k_asm) (by k_asm) (by k_asm) (by k_asm) (by rfl) (by omega) (by omega) (by assumption) (by ktr_room) (by ktr_units) ?_); intro r' ws' n' h' tk' F' N' o1' hI'; (have n1' := offN o1'); (try simp only [OffN, and_true] at n1'); (try dsimp only)) | walk_at "K")
    all_goals exact hZ _ _ _ _ _ _ (frB (by assumption) (by rfl)) (ledA (by assumption) (by lcg_sub)) (by assumption)
  (try clear F' N')
  intro fa vs k h2 tk2 m2 F2 NL2 hv
  refine cutA (fun Z => ∀ (ha : Addr) (hs : List Value) (k2 : Nat) h' tk' m', Fr g L' h' (over m' [(Str.ofString "head", .ref ha), (Str.ofString "figures", .ref fa), (Str.ofString "spec", .ref x), (Str.ofString "number", .int n tn)]) → News g L' h' [(ha, listOf (List.toArray hs) k2), (fa, listOf (List.toArray vs) k)] → IntsAre hs (nHead d n) → Z h' tk') ?_ ?_
  · intro Z hZ
    repeat' (first | ((with_reducible show wpAny _ _ (call (Value.ref 90) _) _ _ _); k_dflt (refine padded_c (by k_asm) (by k_asm) (by k_asm) (by k_asm) (by k_asm) (by rfl) (by walk_at "ISLIST") (by l_ints) (InstH.keeps (by assumption) (Fr.keep (by k_asm))) (by assumption) (by assumption) (by assumption) (by ktr_room) (by ktr_units) ?_); intro r' ws' n' h' tk' F' N' o1' hI'; (have n1' := offN o1'); (try simp only [OffN, and_true] at n1'); (try dsimp only)) | ((with_reducible show wpAny _ _ (call (Value.ref 97) _) _ _ _); k_dflt (refine figs_c (by k_asm) (by k_asm) (by k_asm) (by k_asm) (by k_asm) (by rfl) (by omega) (by omega) (by assumption) (by ktr_room) (by ktr_units) ?_); intro r' ws' n' h' tk' F' N' o1' hI'; (have n1' := offN o1'); (try simp only [OffN, and_true] at n1'); (try dsimp only)) | walk_at "K")
    all_goals
      exact hZ _ _ _ _ _ _ (frB (by assumption) (by rfl)) (ledA (by assumption) (by lcg_sub)) (by subst hd'; simp only [nHead, *, if_true, if_false, Bool.false_eq_true]; l_ints)
  (try clear F2 NL2)
  intro ha hs k2 h3 tk3 m3 F3 NL3 hhd
  have hl1 := figS_len (if n < 0 then -n else n) l
  have hlv := hv.length
  have hhl : (nHead d n).length ≤ 1 := by unfold nHead; (repeat' split) <;> simp
  have hlh := hhd.length
  refine cutA (fun Z => ∀ (ha fa : Addr) (hs vs : List Value) (k k2 : Nat) h' tk' m', Fr g L' h' (over m' [(Str.ofString "head", .ref ha), (Str.ofString "figures", .ref fa), (Str.ofString "spec", .ref x), (Str.ofString "number", .int n tn)]) → News g L' h' [(ha, listOf (List.toArray hs) k2), (fa, listOf (List.toArray vs) k)] → IntsAre hs (nHead d n) → IntsAre vs (nF1 d n) → Z h' tk') ?_ ?_
  · intro Z hZ
    repeat' (first | ((with_reducible show wpAny _ _ (call (Value.ref 90) _) _ _ _); k_dflt (refine padded_c (by k_asm) (by k_asm) (by k_asm) (by k_asm) (by k_asm) (by rfl) (by walk_at "ISLIST") (by l_ints) (InstH.keeps (by assumption) (Fr.keep (by k_asm))) (by assumption) (by assumption) (by assumption) (by ktr_room) (by ktr_units) ?_); intro r' ws' n' h' tk' F' N' o1' hI'; (have n1' := offN o1'); (try simp only [OffN, and_true] at n1'); (try dsimp only)) | ((with_reducible show wpAny _ _ (call (Value.ref 97) _) _ _ _); k_dflt (refine figs_c (by k_asm) (by k_asm) (by k_asm) (by k_asm) (by k_asm) (by rfl) (by omega) (by omega) (by assumption) (by ktr_room) (by ktr_units) ?_); intro r' ws' n' h' tk' F' N' o1' hI'; (have n1' := offN o1'); (try simp only [OffN, and_true] at n1'); (try dsimp only)) | walk_at "K")
    rename IntsAre _ (_ ++ _) => hI
    exact hZ _ _ _ _ _ _ _ _ _ (frB (by assumption) (by rfl)) (ledA (by assumption) (by lcg_sub)) hhd (by subst hd'; simp only [max0, List.flatten_replicate_singleton] at hI; exact hI)
  (try clear F3 NL3)
  have hz0 : 0 < (nF1 d n).length := by
    subst hd'
    have := List.length_pos_iff.mpr (figS_ne (if n < 0 then -n else n) l)
    simp only [nF1, List.length_append]
    omega
  have hz1 : (nF1 d n).length ≤ 108 := by
    subst hd'
    simp only [nF1, List.length_append, List.length_replicate]
    omega
  clear hhd hlh hlv hv
  intro ha fa hs vs k k2 h4 tk4 m4 F4 NL4 hhd hv
  refine cutA (fun Z => ∀ (ha fa : Addr) (hs vs : List Value) (k k2 : Nat) h' tk' m', Fr g L' h' (over m' [(Str.ofString "head", .ref ha), (Str.ofString "figures", .ref fa), (Str.ofString "spec", .ref x), (Str.ofString "number", .int n tn)]) → News g L' h' [(ha, listOf (List.toArray hs) k2), (fa, listOf (List.toArray vs) k)] → IntsAre hs (nHead d n) → IntsAre vs (nF2 d n) → Z h' tk') ?_ ?_
  · intro Z hZ
    repeat' (first | ((with_reducible show wpAny _ _ (call (Value.ref 90) _) _ _ _); k_dflt (refine padded_c (by k_asm) (by k_asm) (by k_asm) (by k_asm) (by k_asm) (by rfl) (by walk_at "ISLIST") (by l_ints) (InstH.keeps (by assumption) (Fr.keep (by k_asm))) (by assumption) (by assumption) (by assumption) (by ktr_room) (by ktr_units) ?_); intro r' ws' n' h' tk' F' N' o1' hI'; (have n1' := offN o1'); (try simp only [OffN, and_true] at n1'); (try dsimp only)) | ((with_reducible show wpAny _ _ (call (Value.ref 97) _) _ _ _); k_dflt (refine figs_c (by k_asm) (by k_asm) (by k_asm) (by k_asm) (by k_asm) (by rfl) (by omega) (by omega) (by assumption) (by ktr_room) (by ktr_units) ?_); intro r' ws' n' h' tk' F' N' o1' hI'; (have n1' := offN o1'); (try simp only [OffN, and_true] at n1'); (try dsimp only)) | walk_at "K")
    · have e : nF2 d n = 48 :: nF1 d n := by
        subst hd'
        exact if_pos ⟨by assumption, by simpa using ‹(l == _) = true›, by assumption⟩
      ((refine wpAny_execs_cons ?_); repeat' (first | ((with_reducible show wpAny _ _ (call (Value.ref 90) _) _ _ _); k_dflt (refine padded_c (by k_asm) (by k_asm) (by k_asm) (by k_asm) (by k_asm) (by rfl) (by walk_at "ISLIST") (by l_ints) (InstH.keeps (by assumption) (Fr.keep (by k_asm))) (by assumption) (by assumption) (by assumption) (by ktr_room) (by ktr_units) ?_); intro r' ws' n' h' tk' F' N' o1' hI'; (have n1' := offN o1'); (try simp only [OffN, and_true] at n1'); (try dsimp only)) | ((with_reducible show wpAny _ _ (call (Value.ref 97) _) _ _ _); k_dflt (refine figs_c (by k_asm) (by k_asm) (by k_asm) (by k_asm) (by k_asm) (by rfl) (by omega) (by omega) (by assumption) (by ktr_room) (by ktr_units) ?_); intro r' ws' n' h' tk' F' N' o1' hI'; (have n1' := offN o1'); (try simp only [OffN, and_true] at n1'); (try dsimp only)) | walk_at "K"))
      exact hZ _ _ _ _ _ _ _ _ _ (frB (by assumption) (by rfl)) (ledA (by assumption) (by lcg_sub)) hhd (by rw [e]; l_ints)
    all_goals
      have e : nF2 d n = nF1 d n := by
        subst hd'
        exact if_neg (by rintro ⟨h1, h2, h3⟩; simp_all)
      exact hZ _ _ _ _ _ _ _ _ _ (frB (by assumption) (by rfl)) (ledA (by assumption) (by lcg_sub)) hhd (by rw [e]; l_ints)
  (try clear F4 NL4)
  clear hhd hv
  intro ha fa hs vs k k2 h5 tk5 m5 F5 NL5 hhd hv
  have hz2 : (nF2 d n).length ≤ 109 := by unfold nF2; split <;> (try simp only [List.length_cons]) <;> omega
  refine cutA (fun Z => ∀ (ha fa : Addr) (hs vs : List Value) (k k2 : Nat) h' tk' m', Fr g L' h' (over m' [(Str.ofString "head", .ref ha), (Str.ofString "figures", .ref fa), (Str.ofString "spec", .ref x), (Str.ofString "number", .int n tn)]) → News g L' h' [(ha, listOf (List.toArray hs) k2), (fa, listOf (List.toArray vs) k)] → IntsAre hs (nHead2 d n) → IntsAre vs (nF2 d n) → Z h' tk') ?_ ?_
  · intro Z hZ
    unfold Four at hl4
    rcases hl4 with rfl | rfl | rfl | rfl
    all_goals repeat' (first | ((with_reducible show wpAny _ _ (call (Value.ref 90) _) _ _ _); k_dflt (refine padded_c (by k_asm) (by k_asm) (by k_asm) (by k_asm) (by k_asm) (by rfl) (by walk_at "ISLIST") (by l_ints) (InstH.keeps (by assumption) (Fr.keep (by k_asm))) (by assumption) (by assumption) (by assumption) (by ktr_room) (by ktr_units) ?_); intro r' ws' n' h' tk' F' N' o1' hI'; (have n1' := offN o1'); (try simp only [OffN, and_true] at n1'); (try dsimp only)) | ((with_reducible show wpAny _ _ (call (Value.ref 97) _) _ _ _); k_dflt (refine figs_c (by k_asm) (by k_asm) (by k_asm) (by k_asm) (by k_asm) (by rfl) (by omega) (by omega) (by assumption) (by ktr_room) (by ktr_units) ?_); intro r' ws' n' h' tk' F' N' o1' hI'; (have n1' := offN o1'); (try simp only [OffN, and_true] at n1'); (try dsimp only)) | walk_at "K")
    all_goals first
      | (rename List.isEmpty _ = _ => hE; exact absurd hE (by decide +kernel))
      | (((refine wpAny_execs_cons ?_); repeat' (first | ((with_reducible show wpAny _ _ (call (Value.ref 90) _) _ _ _); k_dflt (refine padded_c (by k_asm) (by k_asm) (by k_asm) (by k_asm) (by k_asm) (by rfl) (by walk_at "ISLIST") (by l_ints) (InstH.keeps (by assumption) (Fr.keep (by k_asm))) (by assumption) (by assumption) (by assumption) (by ktr_room) (by ktr_units) ?_); intro r' ws' n' h' tk' F' N' o1' hI'; (have n1' := offN o1'); (try simp only [OffN, and_true] at n1'); (try dsimp only)) | ((with_reducible show wpAny _ _ (call (Value.ref 97) _) _ _ _); k_dflt (refine figs_c (by k_asm) (by k_asm) (by k_asm) (by k_asm) (by k_asm) (by rfl) (by omega) (by omega) (by assumption) (by ktr_room) (by ktr_units) ?_); intro r' ws' n' h' tk' F' N' o1' hI'; (have n1' := offN o1'); (try simp only [OffN, and_true] at n1'); (try dsimp only)) | walk_at "K"))
         have e : nHead2 d n = nHead d n ++ [48, 120] := by
           subst hd'
           exact (if_pos ⟨by assumption, .inl rfl, by assumption⟩).trans (by rw [if_pos rfl])
         exact hZ _ _ _ _ _ _ _ _ _ (frB (by assumption) (by rfl)) (ledA (by assumption) (by lcg_sub)) (by rw [e]; l_ints) hv)
      | (((refine wpAny_execs_cons ?_); repeat' (first | ((with_reducible show wpAny _ _ (call (Value.ref 90) _) _ _ _); k_dflt (refine padded_c (by k_asm) (by k_asm) (by k_asm) (by k_asm) (by k_asm) (by rfl) (by walk_at "ISLIST") (by l_ints) (InstH.keeps (by assumption) (Fr.keep (by k_asm))) (by assumption) (by assumption) (by assumption) (by ktr_room) (by ktr_units) ?_); intro r' ws' n' h' tk' F' N' o1' hI'; (have n1' := offN o1'); (try simp only [OffN, and_true] at n1'); (try dsimp only)) | ((with_reducible show wpAny _ _ (call (Value.ref 97) _) _ _ _); k_dflt (refine figs_c (by k_asm) (by k_asm) (by k_asm) (by k_asm) (by k_asm) (by rfl) (by omega) (by omega) (by assumption) (by ktr_room) (by ktr_units) ?_); intro r' ws' n' h' tk' F' N' o1' hI'; (have n1' := offN o1'); (try simp only [OffN, and_true] at n1'); (try dsimp only)) | walk_at "K"))
         have e : nHead2 d n = nHead d n ++ [48, 88] := by
           subst hd'
           exact (if_pos ⟨by assumption, .inr rfl, by assumption⟩).trans (by rw [if_neg (show ¬(Str.ofString "X" = Str.ofString "x") by decide)])
         exact hZ _ _ _ _ _ _ _ _ _ (frB (by assumption) (by rfl)) (ledA (by assumption) (by lcg_sub)) (by rw [e]; l_ints) hv)
      | (have e : nHead2 d n = nHead d n := by
           subst hd'
           exact if_neg (by rintro ⟨h1, h2, h3⟩; dsimp only at h2; first | exact absurd h2 (by decide) | exact h3 (by assumption) | exact absurd h1 (by simp only [*]; decide))
         exact hZ _ _ _ _ _ _ _ _ _ (frB (by assumption) (by rfl)) (ledA (by assumption) (by lcg_sub)) (by rw [e]; l_ints) hv)
  (try clear F5 NL5)
  clear hhd hv
  intro ha fa hs vs k k2 h6 tk6 m6 F6 NL6 hhd hv
  have hz3 : (nHead2 d n).length ≤ 3 := by unfold nHead2; split <;> (try simp only [List.length_append, List.length_cons, List.length_nil]) <;> omega
  have hl3 := hhd.length
  have hl4' := hv.length
  refine cutA (fun Z => ∀ (ha fa : Addr) (hs vs : List Value) (k k2 : Nat) h' tk' m', Fr g L' h' (over m' [(Str.ofString "head", .ref ha), (Str.ofString "figures", .ref fa), (Str.ofString "spec", .ref x), (Str.ofString "number", .int n tn)]) → News g L' h' [(ha, listOf (List.toArray hs) k2), (fa, listOf (List.toArray vs) k)] → IntsAre hs (nHead2 d n) → IntsAre vs (nF3 d n) → Z h' tk') ?_ ?_
  · intro Z hZ
    repeat' (first | ((with_reducible show wpAny _ _ (call (Value.ref 90) _) _ _ _); k_dflt (refine padded_c (by k_asm) (by k_asm) (by k_asm) (by k_asm) (by k_asm) (by rfl) (by walk_at "ISLIST") (by l_ints) (InstH.keeps (by assumption) (Fr.keep (by k_asm))) (by assumption) (by assumption) (by assumption) (by ktr_room) (by ktr_units) ?_); intro r' ws' n' h' tk' F' N' o1' hI'; (have n1' := offN o1'); (try simp only [OffN, and_true] at n1'); (try dsimp only)) | ((with_reducible show wpAny _ _ (call (Value.ref 97) _) _ _ _); k_dflt (refine figs_c (by k_asm) (by k_asm) (by k_asm) (by k_asm) (by k_asm) (by rfl) (by omega) (by omega) (by assumption) (by ktr_room) (by ktr_units) ?_); intro r' ws' n' h' tk' F' N' o1' hI'; (have n1' := offN o1'); (try simp only [OffN, and_true] at n1'); (try dsimp only)) | walk_at "K")
    all_goals first
      | (have e : nF3 d n = nF2 d n := by
           subst hd'
           exact if_neg (by rintro ⟨h1, h2, h3⟩; dsimp only at h1 h2 h3; first | omega | simp_all)
         exact hZ _ _ _ _ _ _ _ _ _ (frB (by assumption) (by rfl)) (ledA (by assumption) (by lcg_sub)) hhd (by rw [e]; exact hv))
      | skip
    ((refine wpAny_execs_cons ?_); repeat' (first | ((with_reducible show wpAny _ _ (call (Value.ref 90) _) _ _ _); k_dflt (refine padded_c (by k_asm) (by k_asm) (by k_asm) (by k_asm) (by k_asm) (by rfl) (by walk_at "ISLIST") (by l_ints) (InstH.keeps (by assumption) (Fr.keep (by k_asm))) (by assumption) (by assumption) (by assumption) (by ktr_room) (by ktr_units) ?_); intro r' ws' n' h' tk' F' N' o1' hI'; (have n1' := offN o1'); (try simp only [OffN, and_true] at n1'); (try dsimp only)) | ((with_reducible show wpAny _ _ (call (Value.ref 97) _) _ _ _); k_dflt (refine figs_c (by k_asm) (by k_asm) (by k_asm) (by k_asm) (by k_asm) (by rfl) (by omega) (by omega) (by assumption) (by ktr_room) (by ktr_units) ?_); intro r' ws' n' h' tk' F' N' o1' hI'; (have n1' := offN o1'); (try simp only [OffN, and_true] at n1'); (try dsimp only)) | walk_at "K"))
    rename IntsAre _ (_ ++ _) => hI
    have e : nF3 d n = List.replicate (wi - (nHead2 d n).length - (nF2 d n).length).toNat 48 ++ nF2 d n := by
      subst hd'
      exact if_pos ⟨by assumption, by assumption, by assumption⟩
    exact hZ _ _ _ _ _ _ _ _ _ (frB (by assumption) (by rfl)) (ledA (by assumption) (by lcg_sub)) hhd (by rw [e]; subst hd'; simp only [max0, List.flatten_replicate_singleton] at hI; exact hI)
  (try clear F6 NL6)
  clear hhd hv hl3 hl4'
  intro ha fa hs vs k k2 h7 tk7 m7 F7 NL7 hhd hv
  have hz4 : (nF3 d n).length ≤ 209 := by
    subst hd'
    unfold nF3
    split
    · simp only [List.length_append, List.length_replicate]; omega
    · omega
  have hw3 : wi ≤ 1000 := by omega
  have hl5 : (nHead2 d n ++ nF3 d n).length ≤ 1000 := by simp only [List.length_append]; omega
  ((refine wpAny_execs_cons ?_); repeat' (first | ((with_reducible show wpAny _ _ (call (Value.ref 90) _) _ _ _); k_dflt (refine padded_c (by k_asm) (by k_asm) (by k_asm) (by k_asm) (by k_asm) (by rfl) (by walk_at "ISLIST") (by l_ints) (InstH.keeps (by assumption) (Fr.keep (by k_asm))) (by assumption) (by assumption) (by assumption) (by ktr_room) (by ktr_units) ?_); intro r' ws' n' h' tk' F' N' o1' hI'; (have n1' := offN o1'); (try simp only [OffN, and_true] at n1'); (try dsimp only)) | ((with_reducible show wpAny _ _ (call (Value.ref 97) _) _ _ _); k_dflt (refine figs_c (by k_asm) (by k_asm) (by k_asm) (by k_asm) (by k_asm) (by rfl) (by omega) (by omega) (by assumption) (by ktr_room) (by ktr_units) ?_); intro r' ws' n' h' tk' F' N' o1' hI'; (have n1' := offN o1'); (try simp only [OffN, and_true] at n1'); (try dsimp only)) | walk_at "K"))
  rename IntsAre (Array.toList _) _ => hI
  exact hPQ _ _ ⟨_, _, by assumption, by assumption, fun b => hret _ _ _ _ _ b.fr (b.one (by k_mem)) (b.off1 (by k_mem)) (by subst hd'; exact hI)⟩
end
end
section
section
variable {w : World} {dp un : Nat} {gd : Option (List Code)} {cn : Str} {cs : Scope} {a : Addr} {ccd : Value} {cl : List (Str × Addr)} {outer : List Env} {A₀ : Around} {base h₀ : Heap} {L : Addr}
  {m : Str → Option Value} {s : Shared} {Q E : Value → Shared → Prop} {loose : List Str} {mean : ExcName → Option Value} {mg mb : Str → Option Value} {p : Program} {news : List (Addr × Obj)}

theorem told_num_c
  {x dx : Addr} {fi : Int} {le pl bl no ma : Bool} {wi pr : Int} {l : Str} {kt : Nat → Tok} {ta tb tc td : Tok} {n₀ : Nat} {n : Int} {tn : Tok} {ob : Value}
  (B : Below A₀ base outer h₀) (F : Fr h₀ L s.heap m) (X : (heapK w.params).In h₀) (N : News h₀ L s.heap news) (T : Top p loose mean mg mb h₀) (hk : cs.kind = .function)
  (hI : InstH s.heap x 58 dx (specEs w ⟨fi, le, pl, bl, no, ma, wi, pr, l⟩ kt ta tb tc td) n₀) (hw : 0 ≤ wi) (hw2 : wi ≤ 100) (hp2 : pr ≤ 100) (hl4 : Four l) (hn1 : -10000 ≤ n) (hn2 : n ≤ 10000)
  (hd : dp + 5 < recursionLimit) (hu : un + 140 < cLine)
  (hret : ∀ r ws k h' tk', Fr h₀ L h' m → News h₀ L h' ((r, listOf ws k) :: news) → LCg.Off1 r news → IntsAre ws.toList (nCodes ⟨fi, le, pl, bl, no, ma, wi, pr, l⟩ n) → Q (.ref r) { s with heap := h', toks := tk' })  :
  wpAny (model PySem.Challenge.rw_np0086_01.row.prog w) (ktrTop dp un gd cn cs L a ccd cl outer) (call (.ref 540) [.ref x, .int n tn, .none]) Q E s := by
  (revert X; k_fill; intro X)
  k_dflt (refine enterD (binds := [("spec", .ref x), ("thing", .int n tn), ("obarray", .none)]) B F X N T [] news (fun _ h => nomatch h) (fun q hq => ⟨hq, fun h => nomatch h⟩) rfl rfl hk (by k_is) (by k_is) (by ktr_room) (BindsTo.of_eq rfl) (locs rfl) ?_ rfl rfl rfl (by decide))
  intro g L' h₁ tk PQ PE G F' N' B' X' T' hPQ hPE hEx
  set_option simprocs false in dsimp only [b540, qb540]
  have hI' := gInst G hI
  clear B F N T X G hI
  have hc : (Builtin.Str.occurrences (Str.ofString "sS") l 0 (Str.ofString "sS").length 1).isEmpty = true := by
    unfold Four at hl4
    rcases hl4 with rfl | rfl | rfl | rfl <;> decide +kernel
  have hc2 : (l == Str.ofString "c") = false := by
    unfold Four at hl4
    rcases hl4 with rfl | rfl | rfl | rfl <;> decide +kernel
  have N0 : News g L' h₁ [] := News.nil
  clear N'
  refine cutA (fun Z => ∀ h' tk' m', Fr g L' h' (over m' [(Str.ofString "spec", .ref x), (Str.ofString "thing", .int n tn)]) → Z h' tk') ?_ ?_
  · intro Z hZ
    repeat' (first | ((with_reducible show wpAny _ _ (call (Value.ref 90) _) _ _ _); k_dflt (refine padded_c (by k_asm) (by k_asm) (by k_asm) (by k_asm) (by k_asm) (by rfl) (by walk_at "ISLIST") (by l_ints) (InstH.keeps (by assumption) (Fr.keep (by k_asm))) (by simp only [List.length_cons, List.length_nil]; omega) (by assumption) (by assumption) (by ktr_room) (by ktr_units) ?_); intro r' ws' n' h' tk' F' N' o1' hI'; (try dsimp only)) | ((with_reducible show wpAny _ _ (call (Value.ref 104) _) _ _ _); k_dflt (refine numcodes_c (by k_asm) (by k_asm) (by k_asm) (by k_asm) (by k_asm) (by rfl) (InstH.keeps (by assumption) (Fr.keep (by k_asm))) (by assumption) (by assumption) (by assumption) (by assumption) (by assumption) (by assumption) (by ktr_room) (by ktr_units) ?_); intro r' ws' n' h' tk' F' N' o1' hI'; (try dsimp only)) | ((with_reducible show wpAny _ _ (call (Value.ref 309) _) _ _ _); k_dflt (refine whole_inst_c (by k_asm) (by k_asm) (by k_asm) (by k_asm) (by k_asm) (by rfl) (InstH.keeps (by assumption) (Fr.keep (by k_asm))) (by ktr_room) (by ktr_units) ?_); intro h' tk' F' N'; (try dsimp only)) | ((with_reducible show wpAny _ _ (call (Value.ref 309) _) _ _ _); k_dflt (refine whole_int_c (by k_asm) (by k_asm) (by k_asm) (by k_asm) (by k_asm) (by rfl) (by ktr_room) (by ktr_units) ?_); intro h' tk' F' N'; (try dsimp only)) | ((with_reducible show wpAny _ _ (call (Value.ref 38) _) _ _ _); k_dflt (refine sig_c (by k_asm) (by k_asm) (by k_asm) (by k_asm) (by k_asm) (by rfl) (by ktr_room) (by ktr_units) ?_); intro e' dx' od' h' tk' F' N' M'; (try dsimp only)) | walk_at "K")
    all_goals first
      | exact absurd (hc.symm.trans (by assumption)) (by decide)
      | exact hZ _ _ _ (frB (by assumption) (by rfl))
  clear F'
  intro h5 tk5 m5 F5
  have N5 : News g L' h5 [] := News.nil
  ((refine wpAny_execs_cons ?_); repeat' (first | ((with_reducible show wpAny _ _ (call (Value.ref 90) _) _ _ _); k_dflt (refine padded_c (by k_asm) (by k_asm) (by k_asm) (by k_asm) (by k_asm) (by rfl) (by walk_at "ISLIST") (by l_ints) (InstH.keeps (by assumption) (Fr.keep (by k_asm))) (by simp only [List.length_cons, List.length_nil]; omega) (by assumption) (by assumption) (by ktr_room) (by ktr_units) ?_); intro r' ws' n' h' tk' F' N' o1' hI'; (try dsimp only)) | ((with_reducible show wpAny _ _ (call (Value.ref 104) _) _ _ _); k_dflt (refine numcodes_c (by k_asm) (by k_asm) (by k_asm) (by k_asm) (by k_asm) (by rfl) (InstH.keeps (by assumption) (Fr.keep (by k_asm))) (by assumption) (by assumption) (by assumption) (by assumption) (by assumption) (by assumption) (by ktr_room) (by ktr_units) ?_); intro r' ws' n' h' tk' F' N' o1' hI'; (try dsimp only)) | ((with_reducible show wpAny _ _ (call (Value.ref 309) _) _ _ _); k_dflt (refine whole_inst_c (by k_asm) (by k_asm) (by k_asm) (by k_asm) (by k_asm) (by rfl) (InstH.keeps (by assumption) (Fr.keep (by k_asm))) (by ktr_room) (by ktr_units) ?_); intro h' tk' F' N'; (try dsimp only)) | ((with_reducible show wpAny _ _ (call (Value.ref 309) _) _ _ _); k_dflt (refine whole_int_c (by k_asm) (by k_asm) (by k_asm) (by k_asm) (by k_asm) (by rfl) (by ktr_room) (by ktr_units) ?_); intro h' tk' F' N'; (try dsimp only)) | ((with_reducible show wpAny _ _ (call (Value.ref 38) _) _ _ _); k_dflt (refine sig_c (by k_asm) (by k_asm) (by k_asm) (by k_asm) (by k_asm) (by rfl) (by ktr_room) (by ktr_units) ?_); intro e' dx' od' h' tk' F' N' M'; (try dsimp only)) | walk_at "K"))
  ((refine wpAny_execs_cons ?_); repeat' (first | ((with_reducible show wpAny _ _ (call (Value.ref 90) _) _ _ _); k_dflt (refine padded_c (by k_asm) (by k_asm) (by k_asm) (by k_asm) (by k_asm) (by rfl) (by walk_at "ISLIST") (by l_ints) (InstH.keeps (by assumption) (Fr.keep (by k_asm))) (by simp only [List.length_cons, List.length_nil]; omega) (by assumption) (by assumption) (by ktr_room) (by ktr_units) ?_); intro r' ws' n' h' tk' F' N' o1' hI'; (try dsimp only)) | ((with_reducible show wpAny _ _ (call (Value.ref 104) _) _ _ _); k_dflt (refine numcodes_c (by k_asm) (by k_asm) (by k_asm) (by k_asm) (by k_asm) (by rfl) (InstH.keeps (by assumption) (Fr.keep (by k_asm))) (by assumption) (by assumption) (by assumption) (by assumption) (by assumption) (by assumption) (by ktr_room) (by ktr_units) ?_); intro r' ws' n' h' tk' F' N' o1' hI'; (try dsimp only)) | ((with_reducible show wpAny _ _ (call (Value.ref 309) _) _ _ _); k_dflt (refine whole_inst_c (by k_asm) (by k_asm) (by k_asm) (by k_asm) (by k_asm) (by rfl) (InstH.keeps (by assumption) (Fr.keep (by k_asm))) (by ktr_room) (by ktr_units) ?_); intro h' tk' F' N'; (try dsimp only)) | ((with_reducible show wpAny _ _ (call (Value.ref 309) _) _ _ _); k_dflt (refine whole_int_c (by k_asm) (by k_asm) (by k_asm) (by k_asm) (by k_asm) (by rfl) (by ktr_room) (by ktr_units) ?_); intro h' tk' F' N'; (try dsimp only)) | ((with_reducible show wpAny _ _ (call (Value.ref 38) _) _ _ _); k_dflt (refine sig_c (by k_asm) (by k_asm) (by k_asm) (by k_asm) (by k_asm) (by rfl) (by ktr_room) (by ktr_units) ?_); intro e' dx' od' h' tk' F' N' M'; (try dsimp only)) | walk_at "K"))
  ((refine wpAny_execs_cons ?_); repeat' (first | ((with_reducible show wpAny _ _ (call (Value.ref 90) _) _ _ _); k_dflt (refine padded_c (by k_asm) (by k_asm) (by k_asm) (by k_asm) (by k_asm) (by rfl) (by walk_at "ISLIST") (by l_ints) (InstH.keeps (by assumption) (Fr.keep (by k_asm))) (by simp only [List.length_cons, List.length_nil]; omega) (by assumption) (by assumption) (by ktr_room) (by ktr_units) ?_); intro r' ws' n' h' tk' F' N' o1' hI'; (try dsimp only)) | ((with_reducible show wpAny _ _ (call (Value.ref 104) _) _ _ _); k_dflt (refine numcodes_c (by k_asm) (by k_asm) (by k_asm) (by k_asm) (by k_asm) (by rfl) (InstH.keeps (by assumption) (Fr.keep (by k_asm))) (by assumption) (by assumption) (by assumption) (by assumption) (by assumption) (by assumption) (by ktr_room) (by ktr_units) ?_); intro r' ws' n' h' tk' F' N' o1' hI'; (try dsimp only)) | ((with_reducible show wpAny _ _ (call (Value.ref 309) _) _ _ _); k_dflt (refine whole_inst_c (by k_asm) (by k_asm) (by k_asm) (by k_asm) (by k_asm) (by rfl) (InstH.keeps (by assumption) (Fr.keep (by k_asm))) (by ktr_room) (by ktr_units) ?_); intro h' tk' F' N'; (try dsimp only)) | ((with_reducible show wpAny _ _ (call (Value.ref 309) _) _ _ _); k_dflt (refine whole_int_c (by k_asm) (by k_asm) (by k_asm) (by k_asm) (by k_asm) (by rfl) (by ktr_room) (by ktr_units) ?_); intro h' tk' F' N'; (try dsimp only)) | ((with_reducible show wpAny _ _ (call (Value.ref 38) _) _ _ _); k_dflt (refine sig_c (by k_asm) (by k_asm) (by k_asm) (by k_asm) (by k_asm) (by rfl) (by ktr_room) (by ktr_units) ?_); intro e' dx' od' h' tk' F' N' M'; (try dsimp only)) | walk_at "K"))
  rename IntsAre (Array.toList _) _ => hI
  exact hPQ _ _ ⟨_, _, by assumption, by assumption, fun b => hret _ _ _ _ _ b.fr (b.one (by k_mem)) (b.off1 (by k_mem)) hI⟩
theorem told_c_c
  {x dx : Addr} {fi : Int} {le pl bl no ma : Bool} {wi pr : Int} {kt : Nat → Tok} {ta tb tc td : Tok} {n₀ : Nat} {n : Int} {tn : Tok}
  (B : Below A₀ base outer h₀) (F : Fr h₀ L s.heap m) (X : (heapK w.params).In h₀) (N : News h₀ L s.heap news) (T : Top p loose mean mg mb h₀) (hk : cs.kind = .function)
  (hI : InstH s.heap x 58 dx (specEs w ⟨fi, le, pl, bl, no, ma, wi, pr, Str.ofString "c"⟩ kt ta tb tc td) n₀) (hw : 0 ≤ wi) (hw2 : wi ≤ 1000) (hn1 : 0 ≤ n) (hn2 : n ≤ 10000)
  (hd : dp + 5 < recursionLimit) (hu : un + 140 < cLine)
  (hret : ∀ r ws k h' tk', Fr h₀ L h' m → News h₀ L h' ((r, listOf ws k) :: news) → LCg.Off1 r news → IntsAre ws.toList (padS le wi [n]) → Q (.ref r) { s with heap := h', toks := tk' })  :
  wpAny (model PySem.Challenge.rw_np0086_01.row.prog w) (ktrTop dp un gd cn cs L a ccd cl outer) (call (.ref 540) [.ref x, .int n tn, .none]) Q E s := by
  (revert X; k_fill; intro X)
  k_dflt (refine enterD (binds := [("spec", .ref x), ("thing", .int n tn), ("obarray", .none)]) B F X N T [] news (fun _ h => nomatch h) (fun q hq => ⟨hq, fun h => nomatch h⟩) rfl rfl hk (by k_is) (by k_is) (by ktr_room) (BindsTo.of_eq rfl) (locs rfl) ?_ rfl rfl rfl (by decide))
  intro g L' h₁ tk PQ PE G F' N' B' X' T' hPQ hPE hEx
  set_option simprocs false in dsimp only [b540, qb540]
  have hI' := gInst G hI
  clear B F N T X G hI
  have hc : (Builtin.Str.occurrences (Str.ofString "sS") (Str.ofString "c") 0 (Str.ofString "sS").length 1).isEmpty = true := by decide +kernel
  have N0 : News g L' h₁ [] := News.nil
  clear N'
  refine cutA (fun Z => ∀ h' tk' m', Fr g L' h' (over m' [(Str.ofString "spec", .ref x), (Str.ofString "thing", .int n tn)]) → Z h' tk') ?_ ?_
  · intro Z hZ
    repeat' (first | ((with_reducible show wpAny _ _ (call (Value.ref 90) _) _ _ _); k_dflt (refine padded_c (by k_asm) (by k_asm) (by k_asm) (by k_asm) (by k_asm) (by rfl) (by walk_at "ISLIST") (by l_ints) (InstH.keeps (by assumption) (Fr.keep (by k_asm))) (by simp only [List.length_cons, List.length_nil]; omega) (by assumption) (by assumption) (by ktr_room) (by ktr_units) ?_); intro r' ws' n' h' tk' F' N' o1' hI'; (try dsimp only)) | ((with_reducible show wpAny _ _ (call (Value.ref 104) _) _ _ _); k_dflt (refine numcodes_c (by k_asm) (by k_asm) (by k_asm) (by k_asm) (by k_asm) (by rfl) (InstH.keeps (by assumption) (Fr.keep (by k_asm))) (by assumption) (by assumption) (by assumption) (by assumption) (by assumption) (by assumption) (by ktr_room) (by ktr_units) ?_); intro r' ws' n' h' tk' F' N' o1' hI'; (try dsimp only)) | ((with_reducible show wpAny _ _ (call (Value.ref 309) _) _ _ _); k_dflt (refine whole_inst_c (by k_asm) (by k_asm) (by k_asm) (by k_asm) (by k_asm) (by rfl) (InstH.keeps (by assumption) (Fr.keep (by k_asm))) (by ktr_room) (by ktr_units) ?_); intro h' tk' F' N'; (try dsimp only)) | ((with_reducible show wpAny _ _ (call (Value.ref 309) _) _ _ _); k_dflt (refine whole_int_c (by k_asm) (by k_asm) (by k_asm) (by k_asm) (by k_asm) (by rfl) (by ktr_room) (by ktr_units) ?_); intro h' tk' F' N'; (try dsimp only)) | ((with_reducible show wpAny _ _ (call (Value.ref 38) _) _ _ _); k_dflt (refine sig_c (by k_asm) (by k_asm) (by k_asm) (by k_asm) (by k_asm) (by rfl) (by ktr_room) (by ktr_units) ?_); intro e' dx' od' h' tk' F' N' M'; (try dsimp only)) | walk_at "K")
    all_goals first
      | exact absurd (hc.symm.trans (by assumption)) (by decide)
      | exact hZ _ _ _ (frB (by assumption) (by rfl))
  clear F'
  intro h5 tk5 m5 F5
  have N5 : News g L' h5 [] := News.nil
  ((refine wpAny_execs_cons ?_); repeat' (first | ((with_reducible show wpAny _ _ (call (Value.ref 90) _) _ _ _); k_dflt (refine padded_c (by k_asm) (by k_asm) (by k_asm) (by k_asm) (by k_asm) (by rfl) (by walk_at "ISLIST") (by l_ints) (InstH.keeps (by assumption) (Fr.keep (by k_asm))) (by simp only [List.length_cons, List.length_nil]; omega) (by assumption) (by assumption) (by ktr_room) (by ktr_units) ?_); intro r' ws' n' h' tk' F' N' o1' hI'; (try dsimp only)) | ((with_reducible show wpAny _ _ (call (Value.ref 104) _) _ _ _); k_dflt (refine numcodes_c (by k_asm) (by k_asm) (by k_asm) (by k_asm) (by k_asm) (by rfl) (InstH.keeps (by assumption) (Fr.keep (by k_asm))) (by assumption) (by assumption) (by assumption) (by assumption) (by assumption) (by assumption) (by ktr_room) (by ktr_units) ?_); intro r' ws' n' h' tk' F' N' o1' hI'; (try dsimp only)) | ((with_reducible show wpAny _ _ (call (Value.ref 309) _) _ _ _); k_dflt (refine whole_inst_c (by k_asm) (by k_asm) (by k_asm) (by k_asm) (by k_asm) (by rfl) (InstH.keeps (by assumption) (Fr.keep (by k_asm))) (by ktr_room) (by ktr_units) ?_); intro h' tk' F' N'; (try dsimp only)) | ((with_reducible show wpAny _ _ (call (Value.ref 309) _) _ _ _); k_dflt (refine whole_int_c (by k_asm) (by k_asm) (by k_asm) (by k_asm) (by k_asm) (by rfl) (by ktr_room) (by ktr_units) ?_); intro h' tk' F' N'; (try dsimp only)) | ((with_reducible show wpAny _ _ (call (Value.ref 38) _) _ _ _); k_dflt (refine sig_c (by k_asm) (by k_asm) (by k_asm) (by k_asm) (by k_asm) (by rfl) (by ktr_room) (by ktr_units) ?_); intro e' dx' od' h' tk' F' N' M'; (try dsimp only)) | walk_at "K"))
  ((refine wpAny_execs_cons ?_); repeat' (first | ((with_reducible show wpAny _ _ (call (Value.ref 90) _) _ _ _); k_dflt (refine padded_c (by k_asm) (by k_asm) (by k_asm) (by k_asm) (by k_asm) (by rfl) (by walk_at "ISLIST") (by l_ints) (InstH.keeps (by assumption) (Fr.keep (by k_asm))) (by simp only [List.length_cons, List.length_nil]; omega) (by assumption) (by assumption) (by ktr_room) (by ktr_units) ?_); intro r' ws' n' h' tk' F' N' o1' hI'; (try dsimp only)) | ((with_reducible show wpAny _ _ (call (Value.ref 104) _) _ _ _); k_dflt (refine numcodes_c (by k_asm) (by k_asm) (by k_asm) (by k_asm) (by k_asm) (by rfl) (InstH.keeps (by assumption) (Fr.keep (by k_asm))) (by assumption) (by assumption) (by assumption) (by assumption) (by assumption) (by assumption) (by ktr_room) (by ktr_units) ?_); intro r' ws' n' h' tk' F' N' o1' hI'; (try dsimp only)) | ((with_reducible show wpAny _ _ (call (Value.ref 309) _) _ _ _); k_dflt (refine whole_inst_c (by k_asm) (by k_asm) (by k_asm) (by k_asm) (by k_asm) (by rfl) (InstH.keeps (by assumption) (Fr.keep (by k_asm))) (by ktr_room) (by ktr_units) ?_); intro h' tk' F' N'; (try dsimp only)) | ((with_reducible show wpAny _ _ (call (Value.ref 309) _) _ _ _); k_dflt (refine whole_int_c (by k_asm) (by k_asm) (by k_asm) (by k_asm) (by k_asm) (by rfl) (by ktr_room) (by ktr_units) ?_); intro h' tk' F' N'; (try dsimp only)) | ((with_reducible show wpAny _ _ (call (Value.ref 38) _) _ _ _); k_dflt (refine sig_c (by k_asm) (by k_asm) (by k_asm) (by k_asm) (by k_asm) (by rfl) (by ktr_room) (by ktr_units) ?_); intro e' dx' od' h' tk' F' N' M'; (try dsimp only)) | walk_at "K"))
  ((refine wpAny_execs_cons ?_); repeat' (first | ((with_reducible show wpAny _ _ (call (Value.ref 90) _) _ _ _); k_dflt (refine padded_c (by k_asm) (by k_asm) (by k_asm) (by k_asm) (by k_asm) (by rfl) (by walk_at "ISLIST") (by l_ints) (InstH.keeps (by assumption) (Fr.keep (by k_asm))) (by simp only [List.length_cons, List.length_nil]; omega) (by assumption) (by assumption) (by ktr_room) (by ktr_units) ?_); intro r' ws' n' h' tk' F' N' o1' hI'; (try dsimp only)) | ((with_reducible show wpAny _ _ (call (Value.ref 104) _) _ _ _); k_dflt (refine numcodes_c (by k_asm) (by k_asm) (by k_asm) (by k_asm) (by k_asm) (by rfl) (InstH.keeps (by assumption) (Fr.keep (by k_asm))) (by assumption) (by assumption) (by assumption) (by assumption) (by assumption) (by assumption) (by ktr_room) (by ktr_units) ?_); intro r' ws' n' h' tk' F' N' o1' hI'; (try dsimp only)) | ((with_reducible show wpAny _ _ (call (Value.ref 309) _) _ _ _); k_dflt (refine whole_inst_c (by k_asm) (by k_asm) (by k_asm) (by k_asm) (by k_asm) (by rfl) (InstH.keeps (by assumption) (Fr.keep (by k_asm))) (by ktr_room) (by ktr_units) ?_); intro h' tk' F' N'; (try dsimp only)) | ((with_reducible show wpAny _ _ (call (Value.ref 309) _) _ _ _); k_dflt (refine whole_int_c (by k_asm) (by k_asm) (by k_asm) (by k_asm) (by k_asm) (by rfl) (by ktr_room) (by ktr_units) ?_); intro h' tk' F' N'; (try dsimp only)) | ((with_reducible show wpAny _ _ (call (Value.ref 38) _) _ _ _); k_dflt (refine sig_c (by k_asm) (by k_asm) (by k_asm) (by k_asm) (by k_asm) (by rfl) (by ktr_room) (by ktr_units) ?_); intro e' dx' od' h' tk' F' N' M'; (try dsimp only)) | walk_at "K"))
  ((refine wpAny_execs_cons ?_); repeat' (first | ((with_reducible show wpAny _ _ (call (Value.ref 90) _) _ _ _); k_dflt (refine padded_c (by k_asm) (by k_asm) (by k_asm) (by k_asm) (by k_asm) (by rfl) (by walk_at "ISLIST") (by l_ints) (InstH.keeps (by assumption) (Fr.keep (by k_asm))) (by simp only [List.length_cons, List.length_nil]; omega) (by assumption) (by assumption) (by ktr_room) (by ktr_units) ?_); intro r' ws' n' h' tk' F' N' o1' hI'; (try dsimp only)) | ((with_reducible show wpAny _ _ (call (Value.ref 104) _) _ _ _); k_dflt (refine numcodes_c (by k_asm) (by k_asm) (by k_asm) (by k_asm) (by k_asm) (by rfl) (InstH.keeps (by assumption) (Fr.keep (by k_asm))) (by assumption) (by assumption) (by assumption) (by assumption) (by assumption) (by assumption) (by ktr_room) (by ktr_units) ?_); intro r' ws' n' h' tk' F' N' o1' hI'; (try dsimp only)) | ((with_reducible show wpAny _ _ (call (Value.ref 309) _) _ _ _); k_dflt (refine whole_inst_c (by k_asm) (by k_asm) (by k_asm) (by k_asm) (by k_asm) (by rfl) (InstH.keeps (by assumption) (Fr.keep (by k_asm))) (by ktr_room) (by ktr_units) ?_); intro h' tk' F' N'; (try dsimp only)) | ((with_reducible show wpAny _ _ (call (Value.ref 309) _) _ _ _); k_dflt (refine whole_int_c (by k_asm) (by k_asm) (by k_asm) (by k_asm) (by k_asm) (by rfl) (by ktr_room) (by ktr_units) ?_); intro h' tk' F' N'; (try dsimp only)) | ((with_reducible show wpAny _ _ (call (Value.ref 38) _) _ _ _); k_dflt (refine sig_c (by k_asm) (by k_asm) (by k_asm) (by k_asm) (by k_asm) (by rfl) (by ktr_room) (by ktr_units) ?_); intro e' dx' od' h' tk' F' N' M'; (try dsimp only)) | walk_at "K"))
  rename IntsAre (Array.toList _) _ => hI
  exact hPQ _ _ ⟨_, _, by assumption, by assumption, fun b => hret _ _ _ _ _ b.fr (b.one (by k_mem)) (b.off1 (by k_mem)) hI⟩
theorem told_err_c
  {x dx : Addr} {fi : Int} {le pl bl no ma : Bool} {wi pr : Int} {kt : Nat → Tok} {ta tb tc td : Tok} {n₀ n₁ : Nat} {y dy : Addr} {esy : List DictEntry}
  (B : Below A₀ base outer h₀) (F : Fr h₀ L s.heap m) (X : (heapK w.params).In h₀) (N : News h₀ L s.heap news) (T : Top p loose mean mg mb h₀) (hk : cs.kind = .function)
  (hI : InstH s.heap x 58 dx (specEs w ⟨fi, le, pl, bl, no, ma, wi, pr, Str.ofString "d"⟩ kt ta tb tc td) n₀) (hY : InstH s.heap y 200 dy esy n₁)
  (hd : dp + 6 < recursionLimit) (hu : un + 148 < cLine)
  (herr : ∀ g e dx od h' tk', GSub s.heap g [] → RaisedD base g (envX cn cs L a ccd cl :: outer) e dx od h' → g.UpToSlots h' → E (.ref e) { s with heap := h', toks := tk' }) :
  wpAny (model PySem.Challenge.rw_np0086_01.row.prog w) (ktrTop dp un gd cn cs L a ccd cl outer) (call (.ref 540) [.ref x, .ref y, .none]) Q E s := by
  (revert X; k_fill; intro X)
  k_dflt (refine enterD (binds := [("spec", .ref x), ("thing", .ref y), ("obarray", .none)]) B F X N T [] news (fun _ h => nomatch h) (fun q hq => ⟨hq, fun h => nomatch h⟩) rfl rfl hk (by k_is) (by k_is) (by ktr_room) (BindsTo.of_eq rfl) (locs rfl) ?_ rfl rfl rfl (by decide))
  intro g L' h₁ tk PQ PE G F' N' B' X' T' hPQ hPE hEx
  set_option simprocs false in dsimp only [b540, qb540]
  have hI' := gInst G hI
  have hY' := gInst G hY
  clear B F N T X hI hY
  have hc : (Builtin.Str.occurrences (Str.ofString "sS") (Str.ofString "d") 0 (Str.ofString "sS").length 1).isEmpty = true := by decide +kernel
  have N0 : News g L' h₁ [] := News.nil
  clear N'
  refine cutA (fun Z => ∀ h' tk' m', Fr g L' h' (over m' [(Str.ofString "spec", .ref x), (Str.ofString "thing", .ref y)]) → Z h' tk') ?_ ?_
  · intro Z hZ
    repeat' (first | ((with_reducible show wpAny _ _ (call (Value.ref 90) _) _ _ _); k_dflt (refine padded_c (by k_asm) (by k_asm) (by k_asm) (by k_asm) (by k_asm) (by rfl) (by walk_at "ISLIST") (by l_ints) (InstH.keeps (by assumption) (Fr.keep (by k_asm))) (by simp only [List.length_cons, List.length_nil]; omega) (by assumption) (by assumption) (by ktr_room) (by ktr_units) ?_); intro r' ws' n' h' tk' F' N' o1' hI'; (try dsimp only)) | ((with_reducible show wpAny _ _ (call (Value.ref 104) _) _ _ _); k_dflt (refine numcodes_c (by k_asm) (by k_asm) (by k_asm) (by k_asm) (by k_asm) (by rfl) (InstH.keeps (by assumption) (Fr.keep (by k_asm))) (by assumption) (by assumption) (by assumption) (by assumption) (by assumption) (by assumption) (by ktr_room) (by ktr_units) ?_); intro r' ws' n' h' tk' F' N' o1' hI'; (try dsimp only)) | ((with_reducible show wpAny _ _ (call (Value.ref 309) _) _ _ _); k_dflt (refine whole_inst_c (by k_asm) (by k_asm) (by k_asm) (by k_asm) (by k_asm) (by rfl) (InstH.keeps (by assumption) (Fr.keep (by k_asm))) (by ktr_room) (by ktr_units) ?_); intro h' tk' F' N'; (try dsimp only)) | ((with_reducible show wpAny _ _ (call (Value.ref 309) _) _ _ _); k_dflt (refine whole_int_c (by k_asm) (by k_asm) (by k_asm) (by k_asm) (by k_asm) (by rfl) (by ktr_room) (by ktr_units) ?_); intro h' tk' F' N'; (try dsimp only)) | ((with_reducible show wpAny _ _ (call (Value.ref 38) _) _ _ _); k_dflt (refine sig_c (by k_asm) (by k_asm) (by k_asm) (by k_asm) (by k_asm) (by rfl) (by ktr_room) (by ktr_units) ?_); intro e' dx' od' h' tk' F' N' M'; (try dsimp only)) | walk_at "K")
    all_goals first
      | exact absurd (hc.symm.trans (by assumption)) (by decide)
      | exact hZ _ _ _ (frB (by assumption) (by rfl))
  clear F'
  intro h5 tk5 m5 F5
  have N5 : News g L' h5 [] := News.nil
  ((refine wpAny_execs_cons ?_); repeat' (first | ((with_reducible show wpAny _ _ (call (Value.ref 90) _) _ _ _); k_dflt (refine padded_c (by k_asm) (by k_asm) (by k_asm) (by k_asm) (by k_asm) (by rfl) (by walk_at "ISLIST") (by l_ints) (InstH.keeps (by assumption) (Fr.keep (by k_asm))) (by simp only [List.length_cons, List.length_nil]; omega) (by assumption) (by assumption) (by ktr_room) (by ktr_units) ?_); intro r' ws' n' h' tk' F' N' o1' hI'; (try dsimp only)) | ((with_reducible show wpAny _ _ (call (Value.ref 104) _) _ _ _); k_dflt (refine numcodes_c (by k_asm) (by k_asm) (by k_asm) (by k_asm) (by k_asm) (by rfl) (InstH.keeps (by assumption) (Fr.keep (by k_asm))) (by assumption) (by assumption) (by assumption) (by assumption) (by assumption) (by assumption) (by ktr_room) (by ktr_units) ?_); intro r' ws' n' h' tk' F' N' o1' hI'; (try dsimp only)) | ((with_reducible show wpAny _ _ (call (Value.ref 309) _) _ _ _); k_dflt (refine whole_inst_c (by k_asm) (by k_asm) (by k_asm) (by k_asm) (by k_asm) (by rfl) (InstH.keeps (by assumption) (Fr.keep (by k_asm))) (by ktr_room) (by ktr_units) ?_); intro h' tk' F' N'; (try dsimp only)) | ((with_reducible show wpAny _ _ (call (Value.ref 309) _) _ _ _); k_dflt (refine whole_int_c (by k_asm) (by k_asm) (by k_asm) (by k_asm) (by k_asm) (by rfl) (by ktr_room) (by ktr_units) ?_); intro h' tk' F' N'; (try dsimp only)) | ((with_reducible show wpAny _ _ (call (Value.ref 38) _) _ _ _); k_dflt (refine sig_c (by k_asm) (by k_asm) (by k_asm) (by k_asm) (by k_asm) (by rfl) (by ktr_room) (by ktr_units) ?_); intro e' dx' od' h' tk' F' N' M'; (try dsimp only)) | walk_at "K"))
  refine wpAny_execs_cons ?_
  refine raise_D (by rfl) ?_
  repeat' (first | ((with_reducible show wpAny _ _ (call (Value.ref 90) _) _ _ _); k_dflt (refine padded_c (by k_asm) (by k_asm) (by k_asm) (by k_asm) (by k_asm) (by rfl) (by walk_at "ISLIST") (by l_ints) (InstH.keeps (by assumption) (Fr.keep (by k_asm))) (by simp only [List.length_cons, List.length_nil]; omega) (by assumption) (by assumption) (by ktr_room) (by ktr_units) ?_); intro r' ws' n' h' tk' F' N' o1' hI'; (try dsimp only)) | ((with_reducible show wpAny _ _ (call (Value.ref 104) _) _ _ _); k_dflt (refine numcodes_c (by k_asm) (by k_asm) (by k_asm) (by k_asm) (by k_asm) (by rfl) (InstH.keeps (by assumption) (Fr.keep (by k_asm))) (by assumption) (by assumption) (by assumption) (by assumption) (by assumption) (by assumption) (by ktr_room) (by ktr_units) ?_); intro r' ws' n' h' tk' F' N' o1' hI'; (try dsimp only)) | ((with_reducible show wpAny _ _ (call (Value.ref 309) _) _ _ _); k_dflt (refine whole_inst_c (by k_asm) (by k_asm) (by k_asm) (by k_asm) (by k_asm) (by rfl) (InstH.keeps (by assumption) (Fr.keep (by k_asm))) (by ktr_room) (by ktr_units) ?_); intro h' tk' F' N'; (try dsimp only)) | ((with_reducible show wpAny _ _ (call (Value.ref 309) _) _ _ _); k_dflt (refine whole_int_c (by k_asm) (by k_asm) (by k_asm) (by k_asm) (by k_asm) (by rfl) (by ktr_room) (by ktr_units) ?_); intro h' tk' F' N'; (try dsimp only)) | ((with_reducible show wpAny _ _ (call (Value.ref 38) _) _ _ _); k_dflt (refine sig_c (by k_asm) (by k_asm) (by k_asm) (by k_asm) (by k_asm) (by rfl) (by ktr_room) (by ktr_units) ?_); intro e' dx' od' h' tk' F' N' M'; (try dsimp only)) | walk_at "K")
  rename MadeD _ _ _ _ _ _ => M'
  exact raise_close (by assumption) (by assumption) (by assumption) M' hEx (fun h' r u => herr _ _ _ _ _ _ G r u)
end
end
section
section
variable {w : World} {dp un : Nat} {gd : Option (List Code)} {cn : Str} {cs : Scope} {a : Addr} {ccd : Value} {cl : List (Str × Addr)} {outer : List Env} {A₀ : Around} {base h₀ : Heap} {L : Addr}
  {m : Str → Option Value} {s : Shared} {Q E : Value → Shared → Prop} {loose : List Str} {mean : ExcName → Option Value} {mg mb : Str → Option Value} {p : Program} {news : List (Addr × Obj)}

theorem readspec_end_c {lc : Addr} {vs : List Value} {ns : List Int} {tk₀ : Tok} {k : Nat}
  (B : Below A₀ base outer h₀) (F : Fr h₀ L s.heap m) (X : (heapK w.params).In h₀) (N : News h₀ L s.heap news) (T : Top p loose mean mg mb h₀) (hk : cs.kind = .function)
  (hl : s.heap.IsList lc vs.toArray) (hi : IntsAre vs ns) (hlen : ns.length ≤ 1000) (hk0 : k = ns.length)
  (hd : dp + 6 < recursionLimit) (hu : un + 48 < cLine)
  (herr : ∀ g e dx od h' tk', GSub s.heap g [] → RaisedD base g (envX cn cs L a ccd cl :: outer) e dx od h' → g.UpToSlots h' → E (.ref e) { s with heap := h', toks := tk' }) :
  wpAny (model PySem.Challenge.rw_np0086_01.row.prog w) (ktrTop dp un gd cn cs L a ccd cl outer) (call (.ref 83) [.ref lc, .int k tk₀]) Q E s := by
  (revert X; k_fill; intro X)
  k_dflt (refine enterD (binds := [("codes", .ref lc), ("at", .int k tk₀)]) B F X N T [] news (fun _ h => nomatch h) (fun q hq => ⟨hq, fun h => nomatch h⟩) rfl rfl hk (by k_is) (by k_is) (by ktr_room) (BindsTo.of_eq rfl) (locs rfl) ?_ rfl rfl rfl (by decide))
  intro g L' h₁ tk PQ PE G F' N' B' X' T' hPQ hPE hEx
  set_option simprocs false in dsimp only [b83, qb83]
  have hl' := gList G hl
  have hd0 : digRun ns k = [] := by unfold digRun; rw [List.drop_of_length_le (by omega)]; rfl
  have hf0 : flagRun ns k = [] := by unfold flagRun; rw [List.drop_of_length_le (by omega)]; rfl
  have hr1 : (digRun ns k).length ≤ 4 := by rw [hd0]; exact Nat.zero_le _
  have hr0 : (digRun ns k).length = 0 := by rw [hd0]; rfl
  have hr2 : (flagRun ns k).length = 0 := by rw [hf0]; rfl
  have hkk : k ≤ ns.length := by omega
  clear B F N T X hl
  have e0 : ((k : Int) + (digRun ns k).length) = k := by omega
  have e1 : ((k : Int) + (flagRun ns k).length) = k := by omega
  refine cutA (fun Z => ∀ (x dx : Addr) (kt : Nat → Tok) (ta tb tc td : Tok) h' tk' m', Fr g L' h' (over m' [(Str.ofString "spec", .ref x), (Str.ofString "codes", .ref lc), (Str.ofString "at", .int k tk₀)]) → News g L' h' [(x, instO 58 dx), (dx, dictOf (specEs w sd0 kt ta tb tc td) 9)] → x ≠ dx → Z h' tk') ?_ ?_
  · intro Z hZ
    repeat' (first | ((with_reducible show wpAny _ _ (call (Value.ref 76) _) _ _ _); k_dflt (refine flags_c (rest := []) (by k_asm) (by k_asm) (by k_asm) (by k_asm) (by k_asm) (by rfl) (by walk_at "ISLIST") (by assumption) (by assumption) (by k_mem) (by k_mem) (by assumption) (fun _ h => nomatch h) (by ktr_room) (by ktr_units) ?_); intro t1' h' tk' F' N'; (try dsimp only)) | ((with_reducible show wpAny _ _ (call (Value.ref 69) _) _ _ _); k_dflt (refine numfrom_c (by k_asm) (by k_asm) (by k_asm) (by k_asm) (by k_asm) (by rfl) (by walk_at "ISLIST") (by assumption) (by assumption) (by assumption) (by ktr_room) (by ktr_units) ?_); intro r' t1' t2' n' h' tk' F' N' o1'; (try simp only [LCg.Off1, and_true] at o1'); (try dsimp only)) | ((with_reducible show wpAny _ _ (call (Value.ref 58) _) _ _ _); k_dflt (refine specnew_c (by k_asm) (by k_asm) (by k_asm) (by k_asm) (by k_asm) (by rfl) (by ktr_room) (by ktr_units) ?_); intro x' dx' kt' ta' tb' tc' td' h' tk' F' N' o1' o2' o3'; (try simp only [LCg.Off1, and_true] at o1' o2'); (try dsimp only)) | ((with_reducible show wpAny _ _ (call (Value.ref 38) _) _ _ _); k_dflt (refine sig_c (by k_asm) (by k_asm) (by k_asm) (by k_asm) (by k_asm) (by rfl) (by ktr_room) (by ktr_units) ?_); intro e' dx' od' h' tk' F' N' M'; (try dsimp only)) | walk_at "K")
    all_goals exact hZ _ _ _ _ _ _ _ _ _ _ (frB (by assumption) (by rfl)) (ledA (by assumption) (by lcg_sub)) (by assumption)
  clear F' N'
  intro x dx kt ta tb tc td h2 tk2 m2 F2 NL2 hxd
  refine cutA (fun Z => ∀ (t1 t2 : Tok) h' tk' m', Fr g L' h' (over m' [(Str.ofString "behind", .int k t2), (Str.ofString "spec", .ref x), (Str.ofString "codes", .ref lc), (Str.ofString "at", .int k tk₀)]) → News g L' h' [(x, instO 58 dx), (dx, dictOf (specEs w sd0 kt ta tb tc td) 9)] → Z h' tk') ?_ ?_
  · intro Z hZ
    repeat' (first | ((with_reducible show wpAny _ _ (call (Value.ref 76) _) _ _ _); k_dflt (refine flags_c (rest := []) (by k_asm) (by k_asm) (by k_asm) (by k_asm) (by k_asm) (by rfl) (by walk_at "ISLIST") (by assumption) (by assumption) (by k_mem) (by k_mem) (by assumption) (fun _ h => nomatch h) (by ktr_room) (by ktr_units) ?_); intro t1' h' tk' F' N'; (try dsimp only)) | ((with_reducible show wpAny _ _ (call (Value.ref 69) _) _ _ _); k_dflt (refine numfrom_c (by k_asm) (by k_asm) (by k_asm) (by k_asm) (by k_asm) (by rfl) (by walk_at "ISLIST") (by assumption) (by assumption) (by assumption) (by ktr_room) (by ktr_units) ?_); intro r' t1' t2' n' h' tk' F' N' o1'; (try simp only [LCg.Off1, and_true] at o1'); (try dsimp only)) | ((with_reducible show wpAny _ _ (call (Value.ref 58) _) _ _ _); k_dflt (refine specnew_c (by k_asm) (by k_asm) (by k_asm) (by k_asm) (by k_asm) (by rfl) (by ktr_room) (by ktr_units) ?_); intro x' dx' kt' ta' tb' tc' td' h' tk' F' N' o1' o2' o3'; (try simp only [LCg.Off1, and_true] at o1' o2'); (try dsimp only)) | ((with_reducible show wpAny _ _ (call (Value.ref 38) _) _ _ _); k_dflt (refine sig_c (by k_asm) (by k_asm) (by k_asm) (by k_asm) (by k_asm) (by rfl) (by ktr_room) (by ktr_units) ?_); intro e' dx' od' h' tk' F' N' M'; (try dsimp only)) | walk_at "K")
    all_goals exact hZ 0 _ _ _ _ (frA (by assumption) (by exact ⟨congrArg (fun z => some (Value.int z _)) e0, rfl, rfl, rfl, trivial⟩)) (ledA (by assumption) (by lcg_sub))
  (try clear F2 NL2)
  intro t1 t2 h3 tk3 m3 F3 NL3
  ((refine wpAny_execs_cons ?_); repeat' (first | ((with_reducible show wpAny _ _ (call (Value.ref 76) _) _ _ _); k_dflt (refine flags_c (rest := []) (by k_asm) (by k_asm) (by k_asm) (by k_asm) (by k_asm) (by rfl) (by walk_at "ISLIST") (by assumption) (by assumption) (by k_mem) (by k_mem) (by assumption) (fun _ h => nomatch h) (by ktr_room) (by ktr_units) ?_); intro t1' h' tk' F' N'; (try dsimp only)) | ((with_reducible show wpAny _ _ (call (Value.ref 69) _) _ _ _); k_dflt (refine numfrom_c (by k_asm) (by k_asm) (by k_asm) (by k_asm) (by k_asm) (by rfl) (by walk_at "ISLIST") (by assumption) (by assumption) (by assumption) (by ktr_room) (by ktr_units) ?_); intro r' t1' t2' n' h' tk' F' N' o1'; (try simp only [LCg.Off1, and_true] at o1'); (try dsimp only)) | ((with_reducible show wpAny _ _ (call (Value.ref 58) _) _ _ _); k_dflt (refine specnew_c (by k_asm) (by k_asm) (by k_asm) (by k_asm) (by k_asm) (by rfl) (by ktr_room) (by ktr_units) ?_); intro x' dx' kt' ta' tb' tc' td' h' tk' F' N' o1' o2' o3'; (try simp only [LCg.Off1, and_true] at o1' o2'); (try dsimp only)) | ((with_reducible show wpAny _ _ (call (Value.ref 38) _) _ _ _); k_dflt (refine sig_c (by k_asm) (by k_asm) (by k_asm) (by k_asm) (by k_asm) (by rfl) (by ktr_room) (by ktr_units) ?_); intro e' dx' od' h' tk' F' N' M'; (try dsimp only)) | walk_at "K"))
  refine cutA (fun Z => ∀ (t3 : Tok) h' tk' m', Fr g L' h' (over m' [(Str.ofString "at", .int k t3), (Str.ofString "spec", .ref x), (Str.ofString "codes", .ref lc)]) → News g L' h' [(x, instO 58 dx), (dx, dictOf (specEs w (setFlags sd0 (flagRun ns k)) kt ta tb tc td) 9)] → Z h' tk') ?_ ?_
  · intro Z hZ
    repeat' (first | ((with_reducible show wpAny _ _ (call (Value.ref 76) _) _ _ _); k_dflt (refine flags_c (rest := []) (by k_asm) (by k_asm) (by k_asm) (by k_asm) (by k_asm) (by rfl) (by walk_at "ISLIST") (by assumption) (by assumption) (by k_mem) (by k_mem) (by assumption) (fun _ h => nomatch h) (by ktr_room) (by ktr_units) ?_); intro t1' h' tk' F' N'; (try dsimp only)) | ((with_reducible show wpAny _ _ (call (Value.ref 69) _) _ _ _); k_dflt (refine numfrom_c (by k_asm) (by k_asm) (by k_asm) (by k_asm) (by k_asm) (by rfl) (by walk_at "ISLIST") (by assumption) (by assumption) (by assumption) (by ktr_room) (by ktr_units) ?_); intro r' t1' t2' n' h' tk' F' N' o1'; (try simp only [LCg.Off1, and_true] at o1'); (try dsimp only)) | ((with_reducible show wpAny _ _ (call (Value.ref 58) _) _ _ _); k_dflt (refine specnew_c (by k_asm) (by k_asm) (by k_asm) (by k_asm) (by k_asm) (by rfl) (by ktr_room) (by ktr_units) ?_); intro x' dx' kt' ta' tb' tc' td' h' tk' F' N' o1' o2' o3'; (try simp only [LCg.Off1, and_true] at o1' o2'); (try dsimp only)) | ((with_reducible show wpAny _ _ (call (Value.ref 38) _) _ _ _); k_dflt (refine sig_c (by k_asm) (by k_asm) (by k_asm) (by k_asm) (by k_asm) (by rfl) (by ktr_room) (by ktr_units) ?_); intro e' dx' od' h' tk' F' N' M'; (try dsimp only)) | walk_at "K")
    all_goals exact hZ _ _ _ _ (frA (by assumption) (by exact ⟨congrArg (fun z => some (Value.int z _)) e1, rfl, rfl, trivial⟩)) (ledA (by assumption) (by lcg_sub))
  (try clear F3 NL3)
  intro t3 h4 tk4 m4 F4 NL4
  refine cutA (fun Z => ∀ (t3 : Tok) h' tk' m', Fr g L' h' (over m' [(Str.ofString "at", .int k t3), (Str.ofString "codes", .ref lc)]) → Z h' tk') ?_ ?_
  · intro Z hZ
    repeat' (first | ((with_reducible show wpAny _ _ (call (Value.ref 76) _) _ _ _); k_dflt (refine flags_c (rest := []) (by k_asm) (by k_asm) (by k_asm) (by k_asm) (by k_asm) (by rfl) (by walk_at "ISLIST") (by assumption) (by assumption) (by k_mem) (by k_mem) (by assumption) (fun _ h => nomatch h) (by ktr_room) (by ktr_units) ?_); intro t1' h' tk' F' N'; (try dsimp only)) | ((with_reducible show wpAny _ _ (call (Value.ref 69) _) _ _ _); k_dflt (refine numfrom_c (by k_asm) (by k_asm) (by k_asm) (by k_asm) (by k_asm) (by rfl) (by walk_at "ISLIST") (by assumption) (by assumption) (by assumption) (by ktr_room) (by ktr_units) ?_); intro r' t1' t2' n' h' tk' F' N' o1'; (try simp only [LCg.Off1, and_true] at o1'); (try dsimp only)) | ((with_reducible show wpAny _ _ (call (Value.ref 58) _) _ _ _); k_dflt (refine specnew_c (by k_asm) (by k_asm) (by k_asm) (by k_asm) (by k_asm) (by rfl) (by ktr_room) (by ktr_units) ?_); intro x' dx' kt' ta' tb' tc' td' h' tk' F' N' o1' o2' o3'; (try simp only [LCg.Off1, and_true] at o1' o2'); (try dsimp only)) | ((with_reducible show wpAny _ _ (call (Value.ref 38) _) _ _ _); k_dflt (refine sig_c (by k_asm) (by k_asm) (by k_asm) (by k_asm) (by k_asm) (by rfl) (by ktr_room) (by ktr_units) ?_); intro e' dx' od' h' tk' F' N' M'; (try dsimp only)) | walk_at "K")
    all_goals exact hZ _ _ _ _ (frA (by assumption) (by exact ⟨congrArg (fun z => some (Value.int z _)) e0, rfl, trivial⟩))
  (try clear F4 NL4)
  intro t3 h5 tk5 m5 F5
  have N5 : News g L' h5 [] := News.nil
  ((refine wpAny_execs_cons ?_); repeat' (first | ((with_reducible show wpAny _ _ (call (Value.ref 76) _) _ _ _); k_dflt (refine flags_c (rest := []) (by k_asm) (by k_asm) (by k_asm) (by k_asm) (by k_asm) (by rfl) (by walk_at "ISLIST") (by assumption) (by assumption) (by k_mem) (by k_mem) (by assumption) (fun _ h => nomatch h) (by ktr_room) (by ktr_units) ?_); intro t1' h' tk' F' N'; (try dsimp only)) | ((with_reducible show wpAny _ _ (call (Value.ref 69) _) _ _ _); k_dflt (refine numfrom_c (by k_asm) (by k_asm) (by k_asm) (by k_asm) (by k_asm) (by rfl) (by walk_at "ISLIST") (by assumption) (by assumption) (by assumption) (by ktr_room) (by ktr_units) ?_); intro r' t1' t2' n' h' tk' F' N' o1'; (try simp only [LCg.Off1, and_true] at o1'); (try dsimp only)) | ((with_reducible show wpAny _ _ (call (Value.ref 58) _) _ _ _); k_dflt (refine specnew_c (by k_asm) (by k_asm) (by k_asm) (by k_asm) (by k_asm) (by rfl) (by ktr_room) (by ktr_units) ?_); intro x' dx' kt' ta' tb' tc' td' h' tk' F' N' o1' o2' o3'; (try simp only [LCg.Off1, and_true] at o1' o2'); (try dsimp only)) | ((with_reducible show wpAny _ _ (call (Value.ref 38) _) _ _ _); k_dflt (refine sig_c (by k_asm) (by k_asm) (by k_asm) (by k_asm) (by k_asm) (by rfl) (by ktr_room) (by ktr_units) ?_); intro e' dx' od' h' tk' F' N' M'; (try dsimp only)) | walk_at "K"))
  ((refine wpAny_execs_cons ?_); repeat' (first | ((with_reducible show wpAny _ _ (call (Value.ref 76) _) _ _ _); k_dflt (refine flags_c (rest := []) (by k_asm) (by k_asm) (by k_asm) (by k_asm) (by k_asm) (by rfl) (by walk_at "ISLIST") (by assumption) (by assumption) (by k_mem) (by k_mem) (by assumption) (fun _ h => nomatch h) (by ktr_room) (by ktr_units) ?_); intro t1' h' tk' F' N'; (try dsimp only)) | ((with_reducible show wpAny _ _ (call (Value.ref 69) _) _ _ _); k_dflt (refine numfrom_c (by k_asm) (by k_asm) (by k_asm) (by k_asm) (by k_asm) (by rfl) (by walk_at "ISLIST") (by assumption) (by assumption) (by assumption) (by ktr_room) (by ktr_units) ?_); intro r' t1' t2' n' h' tk' F' N' o1'; (try simp only [LCg.Off1, and_true] at o1'); (try dsimp only)) | ((with_reducible show wpAny _ _ (call (Value.ref 58) _) _ _ _); k_dflt (refine specnew_c (by k_asm) (by k_asm) (by k_asm) (by k_asm) (by k_asm) (by rfl) (by ktr_room) (by ktr_units) ?_); intro x' dx' kt' ta' tb' tc' td' h' tk' F' N' o1' o2' o3'; (try simp only [LCg.Off1, and_true] at o1' o2'); (try dsimp only)) | ((with_reducible show wpAny _ _ (call (Value.ref 38) _) _ _ _); k_dflt (refine sig_c (by k_asm) (by k_asm) (by k_asm) (by k_asm) (by k_asm) (by rfl) (by ktr_room) (by ktr_units) ?_); intro e' dx' od' h' tk' F' N' M'; (try dsimp only)) | walk_at "K"))
  refine wpAny_execs_cons ?_
  refine raise_D (by rfl) ?_
  repeat' (first | ((with_reducible show wpAny _ _ (call (Value.ref 76) _) _ _ _); k_dflt (refine flags_c (rest := []) (by k_asm) (by k_asm) (by k_asm) (by k_asm) (by k_asm) (by rfl) (by walk_at "ISLIST") (by assumption) (by assumption) (by k_mem) (by k_mem) (by assumption) (fun _ h => nomatch h) (by ktr_room) (by ktr_units) ?_); intro t1' h' tk' F' N'; (try dsimp only)) | ((with_reducible show wpAny _ _ (call (Value.ref 69) _) _ _ _); k_dflt (refine numfrom_c (by k_asm) (by k_asm) (by k_asm) (by k_asm) (by k_asm) (by rfl) (by walk_at "ISLIST") (by assumption) (by assumption) (by assumption) (by ktr_room) (by ktr_units) ?_); intro r' t1' t2' n' h' tk' F' N' o1'; (try simp only [LCg.Off1, and_true] at o1'); (try dsimp only)) | ((with_reducible show wpAny _ _ (call (Value.ref 58) _) _ _ _); k_dflt (refine specnew_c (by k_asm) (by k_asm) (by k_asm) (by k_asm) (by k_asm) (by rfl) (by ktr_room) (by ktr_units) ?_); intro x' dx' kt' ta' tb' tc' td' h' tk' F' N' o1' o2' o3'; (try simp only [LCg.Off1, and_true] at o1' o2'); (try dsimp only)) | ((with_reducible show wpAny _ _ (call (Value.ref 38) _) _ _ _); k_dflt (refine sig_c (by k_asm) (by k_asm) (by k_asm) (by k_asm) (by k_asm) (by rfl) (by ktr_room) (by ktr_units) ?_); intro e' dx' od' h' tk' F' N' M'; (try dsimp only)) | walk_at "K")
  rename MadeD _ _ _ _ _ _ => M'
  exact raise_close (by assumption) (by assumption) (by assumption) M' hEx (fun h' r u => herr _ _ _ _ _ _ G r u)
end
end
section
section
variable {w : World} {dp un : Nat} {gd : Option (List Code)} {cn : Str} {cs : Scope} {a : Addr} {ccd : Value} {cl : List (Str × Addr)} {outer : List Env} {A₀ : Around} {base h₀ : Heap} {L : Addr}
  {m : Str → Option Value} {s : Shared} {Q E : Value → Shared → Prop} {loose : List Str} {mean : ExcName → Option Value} {mg mb : Str → Option Value} {p : Program} {news : List (Addr × Obj)}

theorem deck_c {ls : Addr} {vs : List Value} {ns : List Int}
  (B : Below A₀ base outer h₀) (F : Fr h₀ L s.heap m) (X : (heapK w.params).In h₀) (N : News h₀ L s.heap news) (T : Top p loose mean mg mb h₀) (hk : cs.kind = .function)
  (hl : s.heap.IsList ls vs.toArray) (hi : IntsAre vs ns) (hlen : ns.length ≤ 1000)
  (hd : dp + 1 < recursionLimit) (hu : un + 108 < cLine)
  (hret : ∀ r ws ds k h' tk', Fr h₀ L h' m → News h₀ L h' ((r, listOf (List.toArray ws) k) :: news) → LCg.Off1 r news → Dk ws ds → Q (.ref r) { s with heap := h', toks := tk' })  :
  wpAny (model PySem.Challenge.rw_np0086_01.row.prog w) (ktrTop dp un gd cn cs L a ccd cl outer) (call (.ref 552) [.ref ls]) Q E s := by
  (revert X; k_fill; intro X)
  k_dflt (refine enterD (binds := [("script", .ref ls)]) B F X N T [] news (fun _ h => nomatch h) (fun q hq => ⟨hq, fun h => nomatch h⟩) rfl rfl hk (by k_is) (by k_is) (by ktr_room) (BindsTo.of_eq rfl) (locs rfl) ?_ rfl rfl rfl (by decide))
  intro g L' h₁ tk PQ PE G F' N' B' X' T' hPQ hPE hEx
  set_option simprocs false in dsimp only [b552, qb552]
  have hl' := gList G hl
  clear B F N T X G hl
  ((refine wpAny_execs_cons ?_); repeat' (first | ((with_reducible show wpAny _ _ (subscriptTail _ (PySem.Expr.Slice none (some _) none _) (Value.ref _) (Value.ref _)) _ _ _); k_dflt (refine' kmk_slice_ints (s := ⟨_, _, _, _, _⟩) ?F ?N ?l IsPart.none (IsPart.int _ _) ?i (kmk_upto ?i2 ?h) rfl ?_ ?s ?t ?z; (case F => k_asm); (case N => k_asm); (case l => kmk_list); (case i => l_ints); (case i2 => assumption); (case h => omega); (case s => with_unfolding_all rfl); (case t => kmk_pure); (case z => kmk_size)); intro D' ws' h' F' N' l1 hI' hC' hL'; clear hC'; (try k_lt l1)) | ((with_reducible show wpAny _ _ (subscriptTail _ (PySem.Expr.Slice none (some _) none _) (Value.ref _) (Value.ref _)) _ _ _); k_dflt (refine' kmk_slice_ints (s := ⟨_, _, _, _, _⟩) ?F ?N ?l IsPart.none (IsPart.int _ _) ?i (kmk_upto ?i2 ?h) rfl ?_ ?s ?t ?z; (case F => k_asm); (case N => k_asm); (case l => kmk_list); (case i => l_ints); (case i2 => assumption); (case h => omega); (case s => with_unfolding_all rfl); (case t => kmk_pure); (case z => kmk_size)); intro D' ws' h' F' N' l1 hI' hC' hL'; clear hC'; (try k_lt l1)) | walk_at "K"))
  rename IntsAre _ (List.map _ _) => hI
  refine hPQ _ _ ⟨_, _, by assumption, by assumption, fun b => hret _ _ _ _ _ _ b.fr (b.one (by k_mem)) (b.off1 (by k_mem)) ⟨hI, ?_, ?_, ?_⟩⟩
  · rw [List.length_map, List.length_take]
    exact Nat.le_trans (Nat.min_le_left _ _) (by decide)
  · intro d hd
    obtain ⟨k, _, rfl⟩ := List.mem_map.mp hd
    rw [Int.fmod_eq_emod_of_nonneg _ (by decide)]
    exact Int.emod_nonneg _ (by decide)
  · intro d hd
    obtain ⟨k, _, rfl⟩ := List.mem_map.mp hd
    rw [Int.fmod_eq_emod_of_nonneg _ (by decide)]
    exact Int.emod_lt_of_pos _ (by decide)
end
end
section
theorem under_units (A : Around) (C : Addr) (vals : List Value) (kw : List (Str × Value)) : (A.under (.builtin "type.__call__" ⟨.ref C :: vals, kw⟩)).units = A.units + 1 := rfl
local macro_rules | `(tactic| ktr_units) => `(tactic| (simp only [under_units, units_deeper]; have hcL9 := cLine_is; simp only [units_in1, units_deeper, Around.mark_units, units_caller, cLine] at *; (first | omega | (simp only [ktrTop] at *; omega))))
noncomputable def optEs (w : World) (k : Nat → Tok) (ta tb : Tok) : List DictEntry := [
  ⟨PyData.keyHash w.params "is_quoting", .str "is_quoting" (k 0), .bool false⟩,
  ⟨PyData.keyHash w.params "length", .str "length" (k 1), .int (-1) ta⟩,
  ⟨PyData.keyHash w.params "level", .str "level" (k 2), .int (-1) tb⟩,
  ⟨PyData.keyHash w.params "escape_newlines", .str "escape_newlines" (k 3), .bool false⟩,
  ⟨PyData.keyHash w.params "quoted", .str "quoted" (k 4), .bool true⟩,
  ⟨PyData.keyHash w.params "circle", .str "circle" (k 5), .bool false⟩,
  ⟨PyData.keyHash w.params "gensym", .str "gensym" (k 6), .bool false⟩,
  ⟨PyData.keyHash w.params "spans_rows", .str "spans_rows" (k 7), .none⟩]
section
variable {w : World} {dp un : Nat} {gd : Option (List Code)} {cn : Str} {cs : Scope} {a : Addr} {ccd : Value} {cl : List (Str × Addr)} {outer : List Env} {A₀ : Around} {base h₀ : Heap} {L : Addr}
  {m : Str → Option Value} {s : Shared} {Q E : Value → Shared → Prop} {loose : List Str} {mean : ExcName → Option Value} {mg mb : Str → Option Value} {p : Program} {news : List (Addr × Obj)}

theorem options_c
  (B : Below A₀ base outer h₀) (F : Fr h₀ L s.heap m) (X : (heapK w.params).In h₀) (N : News h₀ L s.heap news) (T : Top p loose mean mg mb h₀) (hk : cs.kind = .function)
  (hd : dp + 3 < recursionLimit) (hu : un + 24 < cLine)
  (hret : ∀ x dx kt ta tb h' tk', Fr h₀ L h' m → News h₀ L h' ((x, instO 384 dx) :: (dx, dictOf (optEs w kt ta tb) 8) :: news) → LCg.Off1 x news → LCg.Off1 dx news → x ≠ dx → Q (.ref x) { s with heap := h', toks := tk' })  :
  wpAny (model PySem.Challenge.rw_np0086_01.row.prog w) (ktrTop dp un gd cn cs L a ccd cl outer) (call (.ref 384) [.bool false]) Q E s := by
  (revert X; k_fill; intro X)
  k_dflt (refine call_cls F X N (by k_is) (by k_is) (by k_is) ?_)
  intro x dx h1 F1 N1 l1 l2
  k_dflt (refine enterC (binds := [("self", .ref x), ("is_quoting", .bool false)]) B F1 X N1 T [(x, instO 384 dx), (dx, dictOf [] 0)] news (by intro q hq; simp only [List.mem_cons, List.not_mem_nil, or_false] at hq; rcases hq with rfl | rfl <;> simp) (by intro q hq; refine ⟨by simp [hq], ?_⟩; simp only [List.map_cons, List.map_nil, List.mem_cons, List.not_mem_nil, or_false, not_or]; exact ⟨Nat.ne_of_lt (Nat.lt_trans (l1 q hq) l2), Nat.ne_of_lt (l1 q hq)⟩) rfl rfl hk (by k_is) (by k_is) (by ktr_room) (BindsTo.of_eq rfl) (locs rfl) ?_ rfl rfl rfl (by decide))
  intro g L' h₁ tk PQ PE G F' N' B' X' T' hPQ hPE hEx
  set_option simprocs false in dsimp only [b35, qb35, b55, qb55, b69, qb69, b76, qb76, b83, qb83, b90, qb90, b97, qb97, b104, qb104, b197, qb197, b309, qb309, b316, qb316, b344, qb344, b381, qb381, b442, qb442, b449, qb449, b456, qb456, b463, qb463, b470, qb470, b477, qb477, b512, qb512, b526, qb526, b533, qb533, b540, qb540, b547, qb547, b552, qb552, b559, qb559, b564, qb564, b569, qb569, b576, qb576, b583, qb583, b588, qb588, b595, qb595, b600, qb600]
  clear B F N T X G F1 N1
  have l3 := ltN l2
  iterate 8 walk_at "S"
  refine hPQ _ _ ⟨_, _, by assumption, by assumption, fun b => ⟨rfl, ?_⟩⟩
  exact hret x dx (fun k => [_, _, _, _, _, _, _, _].getD k 0) _ _ _ _ b.fr b.nw (off1_of fun q hq => Nat.ne_of_lt (Nat.lt_trans (l1 q hq) l2)) (off1_of fun q hq => Nat.ne_of_lt (l1 q hq)) (Ne.symm (Nat.ne_of_lt l2))
theorem shared_nil_c
  (B : Below A₀ base outer h₀) (F : Fr h₀ L s.heap m) (X : (heapK w.params).In h₀) (N : News h₀ L s.heap news) (T : Top p loose mean mg mb h₀) (hk : cs.kind = .function)
  (hd : dp + 1 < recursionLimit) (hu : un + 8 < cLine)
  (hret : ∀ h' tk', Fr h₀ L h' m → News h₀ L h' news → Q (.bool false) { s with heap := h', toks := tk' })  :
  wpAny (model PySem.Challenge.rw_np0086_01.row.prog w) (ktrTop dp un gd cn cs L a ccd cl outer) (call (.ref 316) [.ref 160]) Q E s := by
  (revert X; k_fill; intro X)
  k_dflt (refine enterD (binds := [("datum", .ref 160)]) B F X N T [] news (fun _ h => nomatch h) (fun q hq => ⟨hq, fun h => nomatch h⟩) rfl rfl hk (by k_is) (by k_is) (by ktr_room) (BindsTo.of_eq rfl) (locs rfl) ?_ rfl rfl rfl (by decide))
  intro g L' h₁ tk PQ PE G F' N' B' X' T' hPQ hPE hEx
  set_option simprocs false in dsimp only [b316, qb316]
  clear B F N T X G
  k_steps
  all_goals exact hPQ _ _ ⟨_, _, by assumption, by assumption, fun b => hret _ _ b.fr b.none⟩
theorem labels_c
  (B : Below A₀ base outer h₀) (F : Fr h₀ L s.heap m) (X : (heapK w.params).In h₀) (N : News h₀ L s.heap news) (T : Top p loose mean mg mb h₀) (hk : cs.kind = .function)
  (hd : dp + 4 < recursionLimit) (hu : un + 132 < cLine)
  (hret : ∀ x dx od h' tk', Fr h₀ L h' m → News h₀ L h' ((x, instO 361 dx) :: (dx, od) :: news) → LCg.Off1 x news → LCg.Off1 dx news → Q (.ref x) { s with heap := h', toks := tk' })  :
  wpAny (model PySem.Challenge.rw_np0086_01.row.prog w) (ktrTop dp un gd cn cs L a ccd cl outer) (call (.ref 361) [.ref 160]) Q E s := by
  (revert X; k_fill; intro X)
  k_dflt (refine call_cls F X N (by k_is) (by k_is) (by k_is) ?_)
  intro x dx h1 F1 N1 l1 l2
  k_dflt (refine enterC (binds := [("self", .ref x), ("datum", .ref 160)]) B F1 X N1 T [(x, instO 361 dx), (dx, dictOf [] 0)] news (by intro q hq; simp only [List.mem_cons, List.not_mem_nil, or_false] at hq; rcases hq with rfl | rfl <;> simp) (by intro q hq; refine ⟨by simp [hq], ?_⟩; simp only [List.map_cons, List.map_nil, List.mem_cons, List.not_mem_nil, or_false, not_or]; exact ⟨Nat.ne_of_lt (Nat.lt_trans (l1 q hq) l2), Nat.ne_of_lt (l1 q hq)⟩) rfl rfl hk (by k_is) (by k_is) (by ktr_room) (BindsTo.of_eq rfl) (locs rfl) ?_ rfl rfl rfl (by decide))
  intro g L' h₁ tk PQ PE G F' N' B' X' T' hPQ hPE hEx
  set_option simprocs false in dsimp only [b35, qb35, b55, qb55, b69, qb69, b76, qb76, b83, qb83, b90, qb90, b97, qb97, b104, qb104, b197, qb197, b309, qb309, b316, qb316, b344, qb344, b381, qb381, b442, qb442, b449, qb449, b456, qb456, b463, qb463, b470, qb470, b477, qb477, b512, qb512, b526, qb526, b533, qb533, b540, qb540, b547, qb547, b552, qb552, b559, qb559, b564, qb564, b569, qb569, b576, qb576, b583, qb583, b588, qb588, b595, qb595, b600, qb600]
  clear B F N T X G F1 N1
  have l3 := ltN l2
  iterate 5 ((refine wpAny_execs_cons ?_); repeat' (first | ((with_reducible show wpAny _ _ (call (Value.ref 316) _) _ _ _); k_dflt (refine shared_nil_c (by k_asm) (by k_asm) (by k_asm) (by k_asm) (by k_asm) (by rfl) (by ktr_room) (by ktr_units) ?_); intro h' tk' F' N'; (try dsimp only)) | walk_at "K"))
  rename Fr g L' _ _ => Fw
  rename News g L' _ _ => Nw
  refine whileA (n₀ := 1) (fun i Z => ∀ (wa : Addr) (k : Nat) (od : Obj) h' tk' m', Fr g L' h' (over m' [(Str.ofString "waiting", .ref wa)]) → News g L' h' [(wa, listOf (if i = 1 then #[Value.ref 160] else #[]) k), (x, instO 361 dx), (dx, od)] → @Ne Nat wa x → @Ne Nat wa dx → i ≤ 1 → Z h' tk')
    (fun Z => ∀ (od : Obj) h' tk' m', Fr g L' h' m' → News g L' h' [(x, instO 361 dx), (dx, od)] → Z h' tk') (fun _ _ c9 wa k od h' tk' m' x0 x1 x2 x3 x4 => c9 _ _ fun _ q9 => q9 wa k od h' tk' m' x0 x1 x2 x3 x4) ?_ ?_ ?_ hPE
  · exact fun Z hZ => hZ _ _ _ _ _ _ (frB Fw (by rfl)) (ledA Nw (by lcg_sub)) (by omega) (by omega) (Nat.le_refl _)
  · clear Fw Nw
    intro i ZJ ZX hZJ hZX wa k od h₁ tk₁ m₁ F₁ NL₁ hne1 hne2 hi
    rcases Nat.lt_or_ge i 1 with hi0 | hi1
    · obtain rfl : i = 0 := by omega
      simp only [if_neg (show ¬ (0 = 1) by decide)] at NL₁
      repeat' (first | ((with_reducible show wpAny _ _ (call (Value.ref 316) _) _ _ _); k_dflt (refine shared_nil_c (by k_asm) (by k_asm) (by k_asm) (by k_asm) (by k_asm) (by rfl) (by ktr_room) (by ktr_units) ?_); intro h' tk' F' N'; (try dsimp only)) | walk_at "K")
      all_goals exact hZX _ _ _ _ (by assumption) (ledA (by assumption) (by lcg_sub))
    · obtain rfl : i = 1 := by omega
      simp only [if_true] at NL₁
      repeat' (first | ((with_reducible show wpAny _ _ (call (Value.ref 316) _) _ _ _); k_dflt (refine shared_nil_c (by k_asm) (by k_asm) (by k_asm) (by k_asm) (by k_asm) (by rfl) (by ktr_room) (by ktr_units) ?_); intro h' tk' F' N'; (try dsimp only)) | walk_at "K")
      ((refine wpAny_execs_cons ?_); repeat' (first | ((with_reducible show wpAny _ _ (call (Value.ref 316) _) _ _ _); k_dflt (refine shared_nil_c (by k_asm) (by k_asm) (by k_asm) (by k_asm) (by k_asm) (by rfl) (by ktr_room) (by ktr_units) ?_); intro h' tk' F' N'; (try dsimp only)) | walk_at "K"))
      ((refine wpAny_execs_cons ?_); repeat' (first | ((with_reducible show wpAny _ _ (call (Value.ref 316) _) _ _ _); k_dflt (refine shared_nil_c (by k_asm) (by k_asm) (by k_asm) (by k_asm) (by k_asm) (by rfl) (by ktr_room) (by ktr_units) ?_); intro h' tk' F' N'; (try dsimp only)) | walk_at "K"))
      ((refine wpAny_execs_cons ?_); repeat' (first | ((with_reducible show wpAny _ _ (call (Value.ref 316) _) _ _ _); k_dflt (refine shared_nil_c (by k_asm) (by k_asm) (by k_asm) (by k_asm) (by k_asm) (by rfl) (by ktr_room) (by ktr_units) ?_); intro h' tk' F' N'; (try dsimp only)) | walk_at "K"))
      all_goals exact hZJ 0 (by decide) _ _ _ _ _ _ (frB (by assumption) (by rfl)) (ledA (by assumption) (by lcg_sub)) hne1 hne2 (by decide)
  · clear Fw Nw
    intro od h4 tk4 m4 F4 NL4
    repeat' (first | ((with_reducible show wpAny _ _ (call (Value.ref 316) _) _ _ _); k_dflt (refine shared_nil_c (by k_asm) (by k_asm) (by k_asm) (by k_asm) (by k_asm) (by rfl) (by ktr_room) (by ktr_units) ?_); intro h' tk' F' N'; (try dsimp only)) | walk_at "K")
    refine hPQ _ _ ⟨_, _, F4, NL4, fun b => ⟨rfl, ?_⟩⟩
    exact hret x dx _ _ _ b.fr b.nw (off1_of fun q hq => Nat.ne_of_lt (Nat.lt_trans (l1 q hq) l2)) (off1_of fun q hq => Nat.ne_of_lt (l1 q hq))
end
end
section
noncomputable def prEs (w : World) (k : Nat → Tok) (xo xl lc lj la : Addr) : List DictEntry := [
  ⟨PyData.keyHash w.params "options", .str "options" (k 0), .ref xo⟩,
  ⟨PyData.keyHash w.params "obarray", .str "obarray" (k 1), .none⟩,
  ⟨PyData.keyHash w.params "labels", .str "labels" (k 2), .ref xl⟩,
  ⟨PyData.keyHash w.params "codes", .str "codes" (k 3), .ref lc⟩,
  ⟨PyData.keyHash w.params "jobs", .str "jobs" (k 4), .ref lj⟩,
  ⟨PyData.keyHash w.params "around", .str "around" (k 5), .ref la⟩]
section
variable {w : World} {dp un : Nat} {gd : Option (List Code)} {cn : Str} {cs : Scope} {a : Addr} {ccd : Value} {cl : List (Str × Addr)} {outer : List Env} {A₀ : Around} {base h₀ : Heap} {L : Addr}
  {m : Str → Option Value} {s : Shared} {Q E : Value → Shared → Prop} {loose : List Str} {mean : ExcName → Option Value} {mg mb : Str → Option Value} {p : Program} {news : List (Addr × Obj)}

theorem printer_c {xo xl : Addr}
  (B : Below A₀ base outer h₀) (F : Fr h₀ L s.heap m) (X : (heapK w.params).In h₀) (N : News h₀ L s.heap news) (T : Top p loose mean mg mb h₀) (hk : cs.kind = .function)
  (hd : dp + 3 < recursionLimit) (hu : un + 124 < cLine)
  (hret : ∀ x dx lc lj la kt h' tk', Fr h₀ L h' m → News h₀ L h' ((la, listOf #[] 0) :: (lj, listOf #[] 0) :: (lc, listOf #[] 0) :: (x, instO 501 dx) :: (dx, dictOf (prEs w kt xo xl lc lj la) 6) :: news) → LCg.Off1 x news → LCg.Off1 dx news → LCg.Off1 lc news → LCg.Off1 lj news → @Ne Nat x dx → @Ne Nat lc dx → @Ne Nat lc x → @Ne Nat lj dx → @Ne Nat lj x → @Ne Nat lj lc → Q (.ref x) { s with heap := h', toks := tk' })  :
  wpAny (model PySem.Challenge.rw_np0086_01.row.prog w) (ktrTop dp un gd cn cs L a ccd cl outer) (call (.ref 501) [.ref xo, .none, .ref xl]) Q E s := by
  (revert X; k_fill; intro X)
  k_dflt (refine call_cls F X N (by k_is) (by k_is) (by k_is) ?_)
  intro x dx h1 F1 N1 l1 l2
  k_dflt (refine enterC (binds := [("self", .ref x), ("options", .ref xo), ("obarray", .none), ("labels", .ref xl)]) B F1 X N1 T [(x, instO 501 dx), (dx, dictOf [] 0)] news (by intro q hq; simp only [List.mem_cons, List.not_mem_nil, or_false] at hq; rcases hq with rfl | rfl <;> simp) (by intro q hq; refine ⟨by simp [hq], ?_⟩; simp only [List.map_cons, List.map_nil, List.mem_cons, List.not_mem_nil, or_false, not_or]; exact ⟨Nat.ne_of_lt (Nat.lt_trans (l1 q hq) l2), Nat.ne_of_lt (l1 q hq)⟩) rfl rfl hk (by k_is) (by k_is) (by ktr_room) (BindsTo.of_eq rfl) (locs rfl) ?_ rfl rfl rfl (by decide))
  intro g L' h₁ tk PQ PE G F' N' B' X' T' hPQ hPE hEx
  set_option simprocs false in dsimp only [b35, qb35, b55, qb55, b69, qb69, b76, qb76, b83, qb83, b90, qb90, b97, qb97, b104, qb104, b197, qb197, b309, qb309, b316, qb316, b344, qb344, b381, qb381, b442, qb442, b449, qb449, b456, qb456, b463, qb463, b470, qb470, b477, qb477, b512, qb512, b526, qb526, b533, qb533, b540, qb540, b547, qb547, b552, qb552, b559, qb559, b564, qb564, b569, qb569, b576, qb576, b583, qb583, b588, qb588, b595, qb595, b600, qb600]
  clear B F N T X G F1 N1
  have l3 := ltN l2
  iterate 6 walk_at "S"
  refine hPQ _ _ ⟨_, _, by assumption, by assumption, fun b => ⟨rfl, ?_⟩⟩
  exact hret x dx _ _ _ (fun k => [_, _, _, _, _, _].getD k 0) _ _ b.fr b.nw (b.off1 (by k_mem)) (b.off1 (by k_mem)) (b.off1 (by k_mem)) (b.off1 (by k_mem)) (by omega) (by omega) (by omega) (by omega) (by omega) (by omega)
end
end
section
section
variable {prog : Program} {w : World} {A : Around} {E : Value → Shared → Prop} {s : Shared} {h₀ h : Heap} {L D b : Addr} {m : Str → Option Value} {news : List (Addr × Obj)} {its2 : Array Value} {n n2 : Nat}
/-- an empty list of the ledger takes in a list that lies anywhere -/
theorem extend_into {Q : Value → Shared → Prop} (F : Fr h₀ L s.heap m) (N : News h₀ L s.heap ((D, listOf #[] n) :: news)) (hoff : ∀ p ∈ news, p.1 ≠ D) (hb : s.heap.get? b = some (listOf its2 n2)) (hz : its2.size ≤ 1000)
    (h : ∀ k h', Fr h₀ L h' m → News h₀ L h' ((D, listOf its2 k) :: news) → Q .none { s with heap := h' }) : wpAny (model prog w) A (call (.builtin "list.extend") [.ref D, .ref b]) Q E s := by
  have z := N (D, listOf #[] n) (.head _)
  refine call_meets PySem.F.slot_list_extend ⟨_, z.1, rfl⟩ PySem.F.entry_list_extend (PySem.F.args_list_extend_2 _ _) (PySem.AutoSeq1.list_extend_list_list_0 D #[] n b its2 n2 (by simp) (by simp) (by simp [sizeLine_eq]; omega)) ⟨z.1, hb, ?_⟩
  by_cases q : its2.size = 0
  · have e1 : its2 = #[] := Array.eq_empty_of_size_eq_zero q
    subst e1
    exact h n _ (F.change (Heap.SameBut.update ..) z.2.1 z.2.2) (kl_turn0 (pre := []) (fun x => x ++ #[]) N (fun _ h => nomatch h) hoff (by simp) rfl)
  · exact h (n + 1) _ (F.change (Heap.SameBut.update ..) z.2.1 z.2.2) (kl_turn (pre := []) (fun x => x ++ its2) N (fun _ h => nomatch h) hoff (by simp) (by simpa using q))
end
noncomputable def textEs (w : World) (k : Nat → Tok) (lt : Addr) : List DictEntry := [
  ⟨PyData.keyHash w.params "codes", .str "codes" (k 0), .ref lt⟩,
  ⟨PyData.keyHash w.params "spans", .str "spans" (k 1), .none⟩]
/-- a printer, its options, a text and its signs -/
structure PS (w : World) (h : Heap) (x dx xo dxo y dy xl lc lj la lt : Addr) (vt : List Value) : Prop where
  I : ∃ kt n, InstH h x 501 dx (prEs w kt xo xl lc lj la) n
  O : ∃ ko to tp n, InstH h xo 384 dxo (optEs w ko to tp) n
  Y : ∃ ky n, InstH h y 200 dy (textEs w ky lt) n
  T : ∃ kq, h.get? lt = some (listOf vt.toArray kq)
section
variable {w : World} {h h' : Heap} {x dx xo dxo y dy xl lc lj la lt : Addr} {vt : List Value}
theorem PS.keeps (p : PS w h x dx xo dxo y dy xl lc lj la lt vt) (k : ∀ b o, h.get? b = some o → h'.get? b = some o) : PS w h' x dx xo dxo y dy xl lc lj la lt vt := by
  obtain ⟨⟨a, b, p1⟩, ⟨c, d, e, f, p2⟩, ⟨g, i, p3⟩, ⟨j, p4⟩⟩ := p
  exact ⟨⟨a, b, p1.keeps k⟩, ⟨c, d, e, f, p2.keeps k⟩, ⟨g, i, p3.keeps k⟩, ⟨j, k _ _ p4⟩⟩
noncomputable def Far (x dx xo dxo y dy lt : Addr) (l : List Addr) : Prop := ∀ a ∈ [x, dx, xo, dxo, y, dy, lt], a ∉ l
theorem gPS {adr : List Addr} (G : GSub h h' adr) (p : PS w h x dx xo dxo y dy xl lc lj la lt vt) (f : Far x dx xo dxo y dy lt adr) : PS w h' x dx xo dxo y dy xl lc lj la lt vt := by
  obtain ⟨⟨a, b, p1⟩, ⟨c, d, e, q, p2⟩, ⟨g, i, p3⟩, ⟨j, p4⟩⟩ := p
  simp only [Far, List.forall_mem_cons] at f
  obtain ⟨f1, f2, f3, f4, f5, f6, f7, _⟩ := f
  exact ⟨⟨a, b, gInst G p1 f1 f2⟩, ⟨c, d, e, q, gInst G p2 f3 f4⟩, ⟨g, i, gInst G p3 f5 f6⟩, ⟨j, G _ _ p4 f7⟩⟩
theorem Far.sub {l l' : List Addr} (f : Far x dx xo dxo y dy lt l) (h : ∀ a ∈ l', a ∈ l) : Far x dx xo dxo y dy lt l' := fun a ha hm => f a ha (h a hm)
end
section
variable {w : World} {dp un : Nat} {gd : Option (List Code)} {cn : Str} {cs : Scope} {a : Addr} {ccd : Value} {cl : List (Str × Addr)} {outer : List Env} {A₀ : Around} {base h₀ : Heap} {L : Addr}
  {m : Str → Option Value} {s : Shared} {Q E : Value → Shared → Prop} {loose : List Str} {mean : ExcName → Option Value} {mg mb : Str → Option Value} {p : Program} {news : List (Addr × Obj)}

theorem dotext_c {x dx xo dxo y dy xl lc lj la lt : Addr} {k₀ : Nat} {vt : List Value} {rest : List (Addr × Obj)}
  (B : Below A₀ base outer h₀) (F : Fr h₀ L s.heap m) (X : (heapK w.params).In h₀) (N : News h₀ L s.heap news) (T : Top p loose mean mg mb h₀) (hk : cs.kind = .function)
  (hp : PS w s.heap x dx xo dxo y dy xl lc lj la lt vt) (hf : Far x dx xo dxo y dy lt [lc]) (hlen : vt.length ≤ 1000)
  (hx : (lc, listOf #[] k₀) ∈ news) (hrest : ∀ q ∈ rest, q ∈ news ∧ q.1 ≠ lc)
  (hd : dp + 2 < recursionLimit) (hu : un + 116 < cLine)
  (hret : ∀ k h' tk', Fr h₀ L h' m → News h₀ L h' ((lc, listOf vt.toArray k) :: rest) → Q .none { s with heap := h', toks := tk' })  :
  wpAny (model PySem.Challenge.rw_np0086_01.row.prog w) (ktrTop dp un gd cn cs L a ccd cl outer) (call (.ref 477) [.ref x, .ref y]) Q E s := by
  (revert X; k_fill; intro X)
  k_dflt (refine enterD (binds := [("self", .ref x), ("text", .ref y)]) B F X N T [(lc, listOf #[] k₀)] rest (by intro q hq; simp only [List.mem_cons, List.not_mem_nil, or_false] at hq; rw [hq]; exact hx) (by intro q hq; exact ⟨(hrest q hq).1, by simpa using (hrest q hq).2⟩) rfl rfl hk (by k_is) (by k_is) (by ktr_room) (BindsTo.of_eq rfl) (locs rfl) ?_ rfl rfl rfl (by decide))
  intro g L' h₁ tk PQ PE G F' N' B' X' T' hPQ hPE hEx
  set_option simprocs false in dsimp only [b477, qb477]
  obtain ⟨⟨_, _, hI'⟩, ⟨_, _, _, _, hO'⟩, ⟨_, _, hY'⟩, ⟨_, hl'⟩⟩ := gPS G hp hf
  clear B F N T X G hp
  ((refine wpAny_execs_cons ?_); repeat' (first | ((with_reducible show wpAny _ _ (call (Value.builtin _) [Value.ref _, Value.ref _]) _ _ _); k_dflt (refine extend_into (by k_asm) (by k_asm) (by exact fun _ h => nomatch h) (by exact Fr.keep (by k_asm) _ _ (by assumption)) (by simp only [List.size_toArray]; omega) ?_); intro k' h' F' N'; (try dsimp only)) | walk_at "K"))
  ((refine wpAny_execs_cons ?_); repeat' (first | ((with_reducible show wpAny _ _ (call (Value.builtin _) [Value.ref _, Value.ref _]) _ _ _); k_dflt (refine extend_into (by k_asm) (by k_asm) (by exact fun _ h => nomatch h) (by exact Fr.keep (by k_asm) _ _ (by assumption)) (by simp only [List.size_toArray]; omega) ?_); intro k' h' F' N'; (try dsimp only)) | walk_at "K"))
  ((refine wpAny_execs_cons ?_); repeat' (first | ((with_reducible show wpAny _ _ (call (Value.builtin _) [Value.ref _, Value.ref _]) _ _ _); k_dflt (refine extend_into (by k_asm) (by k_asm) (by exact fun _ h => nomatch h) (by exact Fr.keep (by k_asm) _ _ (by assumption)) (by simp only [List.size_toArray]; omega) ?_); intro k' h' F' N'; (try dsimp only)) | walk_at "K"))
  exact hPQ _ _ ⟨_, _, by assumption, by assumption, fun b => hret _ _ _ b.fr b.nw⟩
theorem dowhole_c {x dx xo dxo y dy xl lc lj la lt : Addr} {k₀ : Nat} {vt : List Value} {rest : List (Addr × Obj)}
  (B : Below A₀ base outer h₀) (F : Fr h₀ L s.heap m) (X : (heapK w.params).In h₀) (N : News h₀ L s.heap news) (T : Top p loose mean mg mb h₀) (hk : cs.kind = .function)
  (hp : PS w s.heap x dx xo dxo y dy xl lc lj la lt vt) (hf : Far x dx xo dxo y dy lt [lc]) (hlen : vt.length ≤ 1000)
  (hx : (lc, listOf #[] k₀) ∈ news) (hrest : ∀ q ∈ rest, q ∈ news ∧ q.1 ≠ lc)
  (hd : dp + 3 < recursionLimit) (hu : un + 124 < cLine)
  (hret : ∀ k h' tk', Fr h₀ L h' m → News h₀ L h' ((lc, listOf vt.toArray k) :: rest) → Q .none { s with heap := h', toks := tk' })  :
  wpAny (model PySem.Challenge.rw_np0086_01.row.prog w) (ktrTop dp un gd cn cs L a ccd cl outer) (call (.ref 470) [.ref x, .ref y]) Q E s := by
  (revert X; k_fill; intro X)
  k_dflt (refine enterD (binds := [("self", .ref x), ("datum", .ref y)]) B F X N T [(lc, listOf #[] k₀)] rest (by intro q hq; simp only [List.mem_cons, List.not_mem_nil, or_false] at hq; rw [hq]; exact hx) (by intro q hq; exact ⟨(hrest q hq).1, by simpa using (hrest q hq).2⟩) rfl rfl hk (by k_is) (by k_is) (by ktr_room) (BindsTo.of_eq rfl) (locs rfl) ?_ rfl rfl rfl (by decide))
  intro g L' h₁ tk PQ PE G F' N' B' X' T' hPQ hPE hEx
  set_option simprocs false in dsimp only [b470, qb470]
  have hp' := gPS G hp hf
  obtain ⟨⟨_, _, hI'⟩, ⟨_, _, _, _, hO'⟩, ⟨_, _, hY'⟩, ⟨_, hl'⟩⟩ := id hp'
  clear B F N T X G hp
  ((refine wpAny_execs_cons ?_); repeat' (first | ((with_reducible show wpAny _ _ (call (Value.ref 477) _) _ _ _); k_dflt (refine dotext_c (rest := []) (by k_asm) (by k_asm) (by k_asm) (by k_asm) (by k_asm) (by rfl) (PS.keeps (by assumption) (Fr.keep (by k_asm))) (by assumption) (by assumption) (by k_mem) (by exact fun _ h => nomatch h) (by ktr_room) (by ktr_units) ?_); intro k' h' tk' F' N'; (try dsimp only)) | ((with_reducible show wpAny _ _ (call (Value.builtin _) [Value.ref _, Value.ref _]) _ _ _); k_dflt (refine extend_into (by k_asm) (by k_asm) (by exact fun _ h => nomatch h) (by exact Fr.keep (by k_asm) _ _ (by assumption)) (by simp only [List.size_toArray]; omega) ?_); intro k' h' F' N'; (try dsimp only)) | walk_at "K"))
  ((refine wpAny_execs_cons ?_); repeat' (first | ((with_reducible show wpAny _ _ (call (Value.ref 477) _) _ _ _); k_dflt (refine dotext_c (rest := []) (by k_asm) (by k_asm) (by k_asm) (by k_asm) (by k_asm) (by rfl) (PS.keeps (by assumption) (Fr.keep (by k_asm))) (by assumption) (by assumption) (by k_mem) (by exact fun _ h => nomatch h) (by ktr_room) (by ktr_units) ?_); intro k' h' tk' F' N'; (try dsimp only)) | ((with_reducible show wpAny _ _ (call (Value.builtin _) [Value.ref _, Value.ref _]) _ _ _); k_dflt (refine extend_into (by k_asm) (by k_asm) (by exact fun _ h => nomatch h) (by exact Fr.keep (by k_asm) _ _ (by assumption)) (by simp only [List.size_toArray]; omega) ?_); intro k' h' F' N'; (try dsimp only)) | walk_at "K"))
  ((refine wpAny_execs_cons ?_); repeat' (first | ((with_reducible show wpAny _ _ (call (Value.ref 477) _) _ _ _); k_dflt (refine dotext_c (rest := []) (by k_asm) (by k_asm) (by k_asm) (by k_asm) (by k_asm) (by rfl) (PS.keeps (by assumption) (Fr.keep (by k_asm))) (by assumption) (by assumption) (by k_mem) (by exact fun _ h => nomatch h) (by ktr_room) (by ktr_units) ?_); intro k' h' tk' F' N'; (try dsimp only)) | ((with_reducible show wpAny _ _ (call (Value.builtin _) [Value.ref _, Value.ref _]) _ _ _); k_dflt (refine extend_into (by k_asm) (by k_asm) (by exact fun _ h => nomatch h) (by exact Fr.keep (by k_asm) _ _ (by assumption)) (by simp only [List.size_toArray]; omega) ?_); intro k' h' F' N'; (try dsimp only)) | walk_at "K"))
  exact hPQ _ _ ⟨_, _, by assumption, by assumption, fun b => hret _ _ _ b.fr b.nw⟩
theorem islab_c {x dx xo dxo y dy xl lc lj la lt : Addr} {vt : List Value}
  (B : Below A₀ base outer h₀) (F : Fr h₀ L s.heap m) (X : (heapK w.params).In h₀) (N : News h₀ L s.heap news) (T : Top p loose mean mg mb h₀) (hk : cs.kind = .function)
  (hp : PS w s.heap x dx xo dxo y dy xl lc lj la lt vt)
  (hd : dp + 2 < recursionLimit) (hu : un + 116 < cLine)
  (hret : ∀ h' tk', Fr h₀ L h' m → News h₀ L h' news → Q (.bool false) { s with heap := h', toks := tk' })  :
  wpAny (model PySem.Challenge.rw_np0086_01.row.prog w) (ktrTop dp un gd cn cs L a ccd cl outer) (call (.ref 463) [.ref x, .ref y]) Q E s := by
  (revert X; k_fill; intro X)
  k_dflt (refine enterD (binds := [("self", .ref x), ("datum", .ref y)]) B F X N T [] news (fun _ h => nomatch h) (fun q hq => ⟨hq, fun h => nomatch h⟩) rfl rfl hk (by k_is) (by k_is) (by ktr_room) (BindsTo.of_eq rfl) (locs rfl) ?_ rfl rfl rfl (by decide))
  intro g L' h₁ tk PQ PE G F' N' B' X' T' hPQ hPE hEx
  set_option simprocs false in dsimp only [b463, qb463]
  have hp' := gPS G hp (fun _ _ h => nomatch h)
  obtain ⟨⟨_, _, hI'⟩, ⟨_, _, _, _, hO'⟩, ⟨_, _, hY'⟩, ⟨_, hl'⟩⟩ := id hp'
  clear B F N T X G hp
  ((refine wpAny_execs_cons ?_); repeat' (first | ((with_reducible show wpAny _ _ (call (Value.ref 477) _) _ _ _); k_dflt (refine dotext_c (rest := []) (by k_asm) (by k_asm) (by k_asm) (by k_asm) (by k_asm) (by rfl) (PS.keeps (by assumption) (Fr.keep (by k_asm))) (by assumption) (by assumption) (by k_mem) (by exact fun _ h => nomatch h) (by ktr_room) (by ktr_units) ?_); intro k' h' tk' F' N'; (try dsimp only)) | ((with_reducible show wpAny _ _ (call (Value.builtin _) [Value.ref _, Value.ref _]) _ _ _); k_dflt (refine extend_into (by k_asm) (by k_asm) (by exact fun _ h => nomatch h) (by exact Fr.keep (by k_asm) _ _ (by assumption)) (by simp only [List.size_toArray]; omega) ?_); intro k' h' F' N'; (try dsimp only)) | walk_at "K"))
  ((refine wpAny_execs_cons ?_); repeat' (first | ((with_reducible show wpAny _ _ (call (Value.ref 477) _) _ _ _); k_dflt (refine dotext_c (rest := []) (by k_asm) (by k_asm) (by k_asm) (by k_asm) (by k_asm) (by rfl) (PS.keeps (by assumption) (Fr.keep (by k_asm))) (by assumption) (by assumption) (by k_mem) (by exact fun _ h => nomatch h) (by ktr_room) (by ktr_units) ?_); intro k' h' tk' F' N'; (try dsimp only)) | ((with_reducible show wpAny _ _ (call (Value.builtin _) [Value.ref _, Value.ref _]) _ _ _); k_dflt (refine extend_into (by k_asm) (by k_asm) (by exact fun _ h => nomatch h) (by exact Fr.keep (by k_asm) _ _ (by assumption)) (by simp only [List.size_toArray]; omega) ?_); intro k' h' F' N'; (try dsimp only)) | walk_at "K"))
  exact hPQ _ _ ⟨_, _, by assumption, by assumption, fun b => hret _ _ b.fr b.none⟩
theorem dodatum_c {x dx xo dxo y dy xl lc lj la lt : Addr} {k₀ : Nat} {vt : List Value} {rest : List (Addr × Obj)}
  (B : Below A₀ base outer h₀) (F : Fr h₀ L s.heap m) (X : (heapK w.params).In h₀) (N : News h₀ L s.heap news) (T : Top p loose mean mg mb h₀) (hk : cs.kind = .function)
  (hp : PS w s.heap x dx xo dxo y dy xl lc lj la lt vt) (hf : Far x dx xo dxo y dy lt [lc]) (hlen : vt.length ≤ 1000)
  (hx : (lc, listOf #[] k₀) ∈ news) (hrest : ∀ q ∈ rest, q ∈ news ∧ q.1 ≠ lc)
  (hd : dp + 4 < recursionLimit) (hu : un + 132 < cLine)
  (hret : ∀ k h' tk', Fr h₀ L h' m → News h₀ L h' ((lc, listOf vt.toArray k) :: rest) → Q .none { s with heap := h', toks := tk' })  :
  wpAny (model PySem.Challenge.rw_np0086_01.row.prog w) (ktrTop dp un gd cn cs L a ccd cl outer) (call (.ref 456) [.ref x, .ref y]) Q E s := by
  (revert X; k_fill; intro X)
  k_dflt (refine enterD (binds := [("self", .ref x), ("datum", .ref y)]) B F X N T [(lc, listOf #[] k₀)] rest (by intro q hq; simp only [List.mem_cons, List.not_mem_nil, or_false] at hq; rw [hq]; exact hx) (by intro q hq; exact ⟨(hrest q hq).1, by simpa using (hrest q hq).2⟩) rfl rfl hk (by k_is) (by k_is) (by ktr_room) (BindsTo.of_eq rfl) (locs rfl) ?_ rfl rfl rfl (by decide))
  intro g L' h₁ tk PQ PE G F' N' B' X' T' hPQ hPE hEx
  set_option simprocs false in dsimp only [b456, qb456]
  have hp' := gPS G hp hf
  obtain ⟨⟨_, _, hI'⟩, ⟨_, _, _, _, hO'⟩, ⟨_, _, hY'⟩, ⟨_, hl'⟩⟩ := id hp'
  clear B F N T X G hp
  ((refine wpAny_execs_cons ?_); repeat' (first | ((with_reducible show wpAny _ _ (call (Value.ref 309) _) _ _ _); k_dflt (refine whole_inst_c (by k_asm) (by k_asm) (by k_asm) (by k_asm) (by k_asm) (by rfl) (InstH.keeps (by assumption) (Fr.keep (by k_asm))) (by ktr_room) (by ktr_units) ?_); intro h' tk' F' N'; (try dsimp only)) | ((with_reducible show wpAny _ _ (call (Value.ref 463) _) _ _ _); k_dflt (refine islab_c (by k_asm) (by k_asm) (by k_asm) (by k_asm) (by k_asm) (by rfl) (PS.keeps (by assumption) (Fr.keep (by k_asm))) (by ktr_room) (by ktr_units) ?_); intro h' tk' F' N'; (try dsimp only)) | ((with_reducible show wpAny _ _ (call (Value.ref 470) _) _ _ _); k_dflt (refine dowhole_c (rest := []) (by k_asm) (by k_asm) (by k_asm) (by k_asm) (by k_asm) (by rfl) (PS.keeps (by assumption) (Fr.keep (by k_asm))) (by assumption) (by assumption) (by k_mem) (by exact fun _ h => nomatch h) (by ktr_room) (by ktr_units) ?_); intro k' h' tk' F' N'; (try dsimp only)) | ((with_reducible show wpAny _ _ (call (Value.ref 477) _) _ _ _); k_dflt (refine dotext_c (rest := []) (by k_asm) (by k_asm) (by k_asm) (by k_asm) (by k_asm) (by rfl) (PS.keeps (by assumption) (Fr.keep (by k_asm))) (by assumption) (by assumption) (by k_mem) (by exact fun _ h => nomatch h) (by ktr_room) (by ktr_units) ?_); intro k' h' tk' F' N'; (try dsimp only)) | ((with_reducible show wpAny _ _ (call (Value.builtin _) [Value.ref _, Value.ref _]) _ _ _); k_dflt (refine extend_into (by k_asm) (by k_asm) (by exact fun _ h => nomatch h) (by exact Fr.keep (by k_asm) _ _ (by assumption)) (by simp only [List.size_toArray]; omega) ?_); intro k' h' F' N'; (try dsimp only)) | walk_at "K"))
  ((refine wpAny_execs_cons ?_); repeat' (first | ((with_reducible show wpAny _ _ (call (Value.ref 309) _) _ _ _); k_dflt (refine whole_inst_c (by k_asm) (by k_asm) (by k_asm) (by k_asm) (by k_asm) (by rfl) (InstH.keeps (by assumption) (Fr.keep (by k_asm))) (by ktr_room) (by ktr_units) ?_); intro h' tk' F' N'; (try dsimp only)) | ((with_reducible show wpAny _ _ (call (Value.ref 463) _) _ _ _); k_dflt (refine islab_c (by k_asm) (by k_asm) (by k_asm) (by k_asm) (by k_asm) (by rfl) (PS.keeps (by assumption) (Fr.keep (by k_asm))) (by ktr_room) (by ktr_units) ?_); intro h' tk' F' N'; (try dsimp only)) | ((with_reducible show wpAny _ _ (call (Value.ref 470) _) _ _ _); k_dflt (refine dowhole_c (rest := []) (by k_asm) (by k_asm) (by k_asm) (by k_asm) (by k_asm) (by rfl) (PS.keeps (by assumption) (Fr.keep (by k_asm))) (by assumption) (by assumption) (by k_mem) (by exact fun _ h => nomatch h) (by ktr_room) (by ktr_units) ?_); intro k' h' tk' F' N'; (try dsimp only)) | ((with_reducible show wpAny _ _ (call (Value.ref 477) _) _ _ _); k_dflt (refine dotext_c (rest := []) (by k_asm) (by k_asm) (by k_asm) (by k_asm) (by k_asm) (by rfl) (PS.keeps (by assumption) (Fr.keep (by k_asm))) (by assumption) (by assumption) (by k_mem) (by exact fun _ h => nomatch h) (by ktr_room) (by ktr_units) ?_); intro k' h' tk' F' N'; (try dsimp only)) | ((with_reducible show wpAny _ _ (call (Value.builtin _) [Value.ref _, Value.ref _]) _ _ _); k_dflt (refine extend_into (by k_asm) (by k_asm) (by exact fun _ h => nomatch h) (by exact Fr.keep (by k_asm) _ _ (by assumption)) (by simp only [List.size_toArray]; omega) ?_); intro k' h' F' N'; (try dsimp only)) | walk_at "K"))
  ((refine wpAny_execs_cons ?_); repeat' (first | ((with_reducible show wpAny _ _ (call (Value.ref 309) _) _ _ _); k_dflt (refine whole_inst_c (by k_asm) (by k_asm) (by k_asm) (by k_asm) (by k_asm) (by rfl) (InstH.keeps (by assumption) (Fr.keep (by k_asm))) (by ktr_room) (by ktr_units) ?_); intro h' tk' F' N'; (try dsimp only)) | ((with_reducible show wpAny _ _ (call (Value.ref 463) _) _ _ _); k_dflt (refine islab_c (by k_asm) (by k_asm) (by k_asm) (by k_asm) (by k_asm) (by rfl) (PS.keeps (by assumption) (Fr.keep (by k_asm))) (by ktr_room) (by ktr_units) ?_); intro h' tk' F' N'; (try dsimp only)) | ((with_reducible show wpAny _ _ (call (Value.ref 470) _) _ _ _); k_dflt (refine dowhole_c (rest := []) (by k_asm) (by k_asm) (by k_asm) (by k_asm) (by k_asm) (by rfl) (PS.keeps (by assumption) (Fr.keep (by k_asm))) (by assumption) (by assumption) (by k_mem) (by exact fun _ h => nomatch h) (by ktr_room) (by ktr_units) ?_); intro k' h' tk' F' N'; (try dsimp only)) | ((with_reducible show wpAny _ _ (call (Value.ref 477) _) _ _ _); k_dflt (refine dotext_c (rest := []) (by k_asm) (by k_asm) (by k_asm) (by k_asm) (by k_asm) (by rfl) (PS.keeps (by assumption) (Fr.keep (by k_asm))) (by assumption) (by assumption) (by k_mem) (by exact fun _ h => nomatch h) (by ktr_room) (by ktr_units) ?_); intro k' h' tk' F' N'; (try dsimp only)) | ((with_reducible show wpAny _ _ (call (Value.builtin _) [Value.ref _, Value.ref _]) _ _ _); k_dflt (refine extend_into (by k_asm) (by k_asm) (by exact fun _ h => nomatch h) (by exact Fr.keep (by k_asm) _ _ (by assumption)) (by simp only [List.size_toArray]; omega) ?_); intro k' h' F' N'; (try dsimp only)) | walk_at "K"))
  ((refine wpAny_execs_cons ?_); repeat' (first | ((with_reducible show wpAny _ _ (call (Value.ref 309) _) _ _ _); k_dflt (refine whole_inst_c (by k_asm) (by k_asm) (by k_asm) (by k_asm) (by k_asm) (by rfl) (InstH.keeps (by assumption) (Fr.keep (by k_asm))) (by ktr_room) (by ktr_units) ?_); intro h' tk' F' N'; (try dsimp only)) | ((with_reducible show wpAny _ _ (call (Value.ref 463) _) _ _ _); k_dflt (refine islab_c (by k_asm) (by k_asm) (by k_asm) (by k_asm) (by k_asm) (by rfl) (PS.keeps (by assumption) (Fr.keep (by k_asm))) (by ktr_room) (by ktr_units) ?_); intro h' tk' F' N'; (try dsimp only)) | ((with_reducible show wpAny _ _ (call (Value.ref 470) _) _ _ _); k_dflt (refine dowhole_c (rest := []) (by k_asm) (by k_asm) (by k_asm) (by k_asm) (by k_asm) (by rfl) (PS.keeps (by assumption) (Fr.keep (by k_asm))) (by assumption) (by assumption) (by k_mem) (by exact fun _ h => nomatch h) (by ktr_room) (by ktr_units) ?_); intro k' h' tk' F' N'; (try dsimp only)) | ((with_reducible show wpAny _ _ (call (Value.ref 477) _) _ _ _); k_dflt (refine dotext_c (rest := []) (by k_asm) (by k_asm) (by k_asm) (by k_asm) (by k_asm) (by rfl) (PS.keeps (by assumption) (Fr.keep (by k_asm))) (by assumption) (by assumption) (by k_mem) (by exact fun _ h => nomatch h) (by ktr_room) (by ktr_units) ?_); intro k' h' tk' F' N'; (try dsimp only)) | ((with_reducible show wpAny _ _ (call (Value.builtin _) [Value.ref _, Value.ref _]) _ _ _); k_dflt (refine extend_into (by k_asm) (by k_asm) (by exact fun _ h => nomatch h) (by exact Fr.keep (by k_asm) _ _ (by assumption)) (by simp only [List.size_toArray]; omega) ?_); intro k' h' F' N'; (try dsimp only)) | walk_at "K"))
  ((refine wpAny_execs_cons ?_); repeat' (first | ((with_reducible show wpAny _ _ (call (Value.ref 309) _) _ _ _); k_dflt (refine whole_inst_c (by k_asm) (by k_asm) (by k_asm) (by k_asm) (by k_asm) (by rfl) (InstH.keeps (by assumption) (Fr.keep (by k_asm))) (by ktr_room) (by ktr_units) ?_); intro h' tk' F' N'; (try dsimp only)) | ((with_reducible show wpAny _ _ (call (Value.ref 463) _) _ _ _); k_dflt (refine islab_c (by k_asm) (by k_asm) (by k_asm) (by k_asm) (by k_asm) (by rfl) (PS.keeps (by assumption) (Fr.keep (by k_asm))) (by ktr_room) (by ktr_units) ?_); intro h' tk' F' N'; (try dsimp only)) | ((with_reducible show wpAny _ _ (call (Value.ref 470) _) _ _ _); k_dflt (refine dowhole_c (rest := []) (by k_asm) (by k_asm) (by k_asm) (by k_asm) (by k_asm) (by rfl) (PS.keeps (by assumption) (Fr.keep (by k_asm))) (by assumption) (by assumption) (by k_mem) (by exact fun _ h => nomatch h) (by ktr_room) (by ktr_units) ?_); intro k' h' tk' F' N'; (try dsimp only)) | ((with_reducible show wpAny _ _ (call (Value.ref 477) _) _ _ _); k_dflt (refine dotext_c (rest := []) (by k_asm) (by k_asm) (by k_asm) (by k_asm) (by k_asm) (by rfl) (PS.keeps (by assumption) (Fr.keep (by k_asm))) (by assumption) (by assumption) (by k_mem) (by exact fun _ h => nomatch h) (by ktr_room) (by ktr_units) ?_); intro k' h' tk' F' N'; (try dsimp only)) | ((with_reducible show wpAny _ _ (call (Value.builtin _) [Value.ref _, Value.ref _]) _ _ _); k_dflt (refine extend_into (by k_asm) (by k_asm) (by exact fun _ h => nomatch h) (by exact Fr.keep (by k_asm) _ _ (by assumption)) (by simp only [List.size_toArray]; omega) ?_); intro k' h' F' N'; (try dsimp only)) | walk_at "K"))
  ((refine wpAny_execs_cons ?_); repeat' (first | ((with_reducible show wpAny _ _ (call (Value.ref 309) _) _ _ _); k_dflt (refine whole_inst_c (by k_asm) (by k_asm) (by k_asm) (by k_asm) (by k_asm) (by rfl) (InstH.keeps (by assumption) (Fr.keep (by k_asm))) (by ktr_room) (by ktr_units) ?_); intro h' tk' F' N'; (try dsimp only)) | ((with_reducible show wpAny _ _ (call (Value.ref 463) _) _ _ _); k_dflt (refine islab_c (by k_asm) (by k_asm) (by k_asm) (by k_asm) (by k_asm) (by rfl) (PS.keeps (by assumption) (Fr.keep (by k_asm))) (by ktr_room) (by ktr_units) ?_); intro h' tk' F' N'; (try dsimp only)) | ((with_reducible show wpAny _ _ (call (Value.ref 470) _) _ _ _); k_dflt (refine dowhole_c (rest := []) (by k_asm) (by k_asm) (by k_asm) (by k_asm) (by k_asm) (by rfl) (PS.keeps (by assumption) (Fr.keep (by k_asm))) (by assumption) (by assumption) (by k_mem) (by exact fun _ h => nomatch h) (by ktr_room) (by ktr_units) ?_); intro k' h' tk' F' N'; (try dsimp only)) | ((with_reducible show wpAny _ _ (call (Value.ref 477) _) _ _ _); k_dflt (refine dotext_c (rest := []) (by k_asm) (by k_asm) (by k_asm) (by k_asm) (by k_asm) (by rfl) (PS.keeps (by assumption) (Fr.keep (by k_asm))) (by assumption) (by assumption) (by k_mem) (by exact fun _ h => nomatch h) (by ktr_room) (by ktr_units) ?_); intro k' h' tk' F' N'; (try dsimp only)) | ((with_reducible show wpAny _ _ (call (Value.builtin _) [Value.ref _, Value.ref _]) _ _ _); k_dflt (refine extend_into (by k_asm) (by k_asm) (by exact fun _ h => nomatch h) (by exact Fr.keep (by k_asm) _ _ (by assumption)) (by simp only [List.size_toArray]; omega) ?_); intro k' h' F' N'; (try dsimp only)) | walk_at "K"))
  exact hPQ _ _ ⟨_, _, by assumption, by assumption, fun b => hret _ _ _ b.fr b.nw⟩
theorem printedm_c {x dx xo dxo y dy xl lc lj la lt : Addr} {k₀ kj : Nat} {vt : List Value} {rest : List (Addr × Obj)}
  (B : Below A₀ base outer h₀) (F : Fr h₀ L s.heap m) (X : (heapK w.params).In h₀) (N : News h₀ L s.heap news) (T : Top p loose mean mg mb h₀) (hk : cs.kind = .function)
  (hp : PS w s.heap x dx xo dxo y dy xl lc lj la lt vt) (hf : Far x dx xo dxo y dy lt [lc, lj]) (hlen : vt.length ≤ 1000) (hcj : @Ne Nat lj lc)
  (hx : (lc, listOf #[] k₀) ∈ news) (hxj : (lj, listOf #[] kj) ∈ news) (hrest : ∀ q ∈ rest, q ∈ news ∧ q.1 ≠ lc ∧ q.1 ≠ lj)
  (hd : dp + 5 < recursionLimit) (hu : un + 140 < cLine)
  (hret : ∀ k h' tk', Fr h₀ L h' m → News h₀ L h' ((lc, listOf vt.toArray k) :: rest) → Q (.ref lc) { s with heap := h', toks := tk' })  :
  wpAny (model PySem.Challenge.rw_np0086_01.row.prog w) (ktrTop dp un gd cn cs L a ccd cl outer) (call (.ref 449) [.ref x, .ref y]) Q E s := by
  (revert X; k_fill; intro X)
  k_dflt (refine enterD (binds := [("self", .ref x), ("datum", .ref y)]) B F X N T [(lc, listOf #[] k₀), (lj, listOf #[] kj)] rest (by intro q hq; simp only [List.mem_cons, List.not_mem_nil, or_false] at hq; rcases hq with rfl | rfl <;> assumption) (by intro q hq; have := hrest q hq; refine ⟨this.1, ?_⟩; simp; exact this.2) rfl rfl hk (by k_is) (by k_is) (by ktr_room) (BindsTo.of_eq rfl) (locs rfl) ?_ rfl rfl rfl (by decide))
  intro g L' h₁ tk PQ PE G F' N' B' X' T' hPQ hPE hEx
  set_option simprocs false in dsimp only [b449, qb449]
  have hp' := gPS G hp hf
  have hf1 : Far x dx xo dxo y dy lt [lc] := hf.sub (by simp)
  obtain ⟨⟨_, _, hI'⟩, ⟨_, _, _, _, hO'⟩, ⟨_, _, hY'⟩, ⟨_, hl'⟩⟩ := id hp'
  clear B F N T X G hp
  ((refine wpAny_execs_cons ?_); repeat' (first | ((with_reducible show wpAny _ _ (call (Value.ref 309) _) _ _ _); k_dflt (refine whole_inst_c (by k_asm) (by k_asm) (by k_asm) (by k_asm) (by k_asm) (by rfl) (InstH.keeps (by assumption) (Fr.keep (by k_asm))) (by ktr_room) (by ktr_units) ?_); intro h' tk' F' N'; (try dsimp only)) | ((with_reducible show wpAny _ _ (call (Value.ref 463) _) _ _ _); k_dflt (refine islab_c (by k_asm) (by k_asm) (by k_asm) (by k_asm) (by k_asm) (by rfl) (PS.keeps (by assumption) (Fr.keep (by k_asm))) (by ktr_room) (by ktr_units) ?_); intro h' tk' F' N'; (try dsimp only)) | ((with_reducible show wpAny _ _ (call (Value.ref 470) _) _ _ _); k_dflt (refine dowhole_c (rest := []) (by k_asm) (by k_asm) (by k_asm) (by k_asm) (by k_asm) (by rfl) (PS.keeps (by assumption) (Fr.keep (by k_asm))) (by assumption) (by assumption) (by k_mem) (by exact fun _ h => nomatch h) (by ktr_room) (by ktr_units) ?_); intro k' h' tk' F' N'; (try dsimp only)) | ((with_reducible show wpAny _ _ (call (Value.ref 477) _) _ _ _); k_dflt (refine dotext_c (rest := []) (by k_asm) (by k_asm) (by k_asm) (by k_asm) (by k_asm) (by rfl) (PS.keeps (by assumption) (Fr.keep (by k_asm))) (by assumption) (by assumption) (by k_mem) (by exact fun _ h => nomatch h) (by ktr_room) (by ktr_units) ?_); intro k' h' tk' F' N'; (try dsimp only)) | ((with_reducible show wpAny _ _ (call (Value.builtin _) [Value.ref _, Value.ref _]) _ _ _); k_dflt (refine extend_into (by k_asm) (by k_asm) (by exact fun _ h => nomatch h) (by exact Fr.keep (by k_asm) _ _ (by assumption)) (by simp only [List.size_toArray]; omega) ?_); intro k' h' F' N'; (try dsimp only)) | walk_at "K"))
  rename Fr g L' _ _ => Fw
  rename News g L' _ _ => Nw
  refine whileA (n₀ := 1) (fun i Z => ∀ (t : Addr) (tt : Tok) (kt k1 k2 : Nat) h' tk' m', Fr g L' h' (over m' [(Str.ofString "self", .ref x), (Str.ofString "datum", .ref y)]) → News g L' h' (if i = 1 then [(t, { cls := .type "tuple", data := .seq #[.int 0 tt, .ref y] kt }), (lj, listOf #[.ref t] k1), (lc, listOf #[] k2)] else [(lj, listOf #[] k1), (lc, listOf vt.toArray k2)]) → (i = 1 → @Ne Nat t lj ∧ @Ne Nat t lc) → i ≤ 1 → Z h' tk')
    (fun Z => ∀ (k2 : Nat) h' tk' m', Fr g L' h' (over m' [(Str.ofString "self", .ref x)]) → News g L' h' [(lc, listOf vt.toArray k2)] → Z h' tk') (fun _ _ c9 t tt kt k1 k2 h' tk' m' x0 x1 x2 x3 => c9 _ _ fun _ q9 => q9 t tt kt k1 k2 h' tk' m' x0 x1 x2 x3) ?_ ?_ ?_ hPE
  · exact fun Z hZ => hZ _ _ _ _ _ _ _ _ (frB Fw (by rfl)) (ledA Nw (by rw [if_pos rfl]; lcg_sub)) (fun _ => ⟨by omega, by omega⟩) (Nat.le_refl _)
  · clear Fw Nw
    intro i ZJ ZX hZJ hZX t tt kt k1 k2 h₁ tk₁ m₁ F₁ NL₁ hn hi
    rcases Nat.lt_or_ge i 1 with hi0 | hi1
    · obtain rfl : i = 0 := by omega
      rw [if_neg (by decide)] at NL₁
      clear hn
      repeat' (first | ((with_reducible show wpAny _ _ (call (Value.ref 309) _) _ _ _); k_dflt (refine whole_inst_c (by k_asm) (by k_asm) (by k_asm) (by k_asm) (by k_asm) (by rfl) (InstH.keeps (by assumption) (Fr.keep (by k_asm))) (by ktr_room) (by ktr_units) ?_); intro h' tk' F' N'; (try dsimp only)) | ((with_reducible show wpAny _ _ (call (Value.ref 463) _) _ _ _); k_dflt (refine islab_c (by k_asm) (by k_asm) (by k_asm) (by k_asm) (by k_asm) (by rfl) (PS.keeps (by assumption) (Fr.keep (by k_asm))) (by ktr_room) (by ktr_units) ?_); intro h' tk' F' N'; (try dsimp only)) | ((with_reducible show wpAny _ _ (call (Value.ref 470) _) _ _ _); k_dflt (refine dowhole_c (rest := []) (by k_asm) (by k_asm) (by k_asm) (by k_asm) (by k_asm) (by rfl) (PS.keeps (by assumption) (Fr.keep (by k_asm))) (by assumption) (by assumption) (by k_mem) (by exact fun _ h => nomatch h) (by ktr_room) (by ktr_units) ?_); intro k' h' tk' F' N'; (try dsimp only)) | ((with_reducible show wpAny _ _ (call (Value.ref 477) _) _ _ _); k_dflt (refine dotext_c (rest := []) (by k_asm) (by k_asm) (by k_asm) (by k_asm) (by k_asm) (by rfl) (PS.keeps (by assumption) (Fr.keep (by k_asm))) (by assumption) (by assumption) (by k_mem) (by exact fun _ h => nomatch h) (by ktr_room) (by ktr_units) ?_); intro k' h' tk' F' N'; (try dsimp only)) | ((with_reducible show wpAny _ _ (call (Value.builtin _) [Value.ref _, Value.ref _]) _ _ _); k_dflt (refine extend_into (by k_asm) (by k_asm) (by exact fun _ h => nomatch h) (by exact Fr.keep (by k_asm) _ _ (by assumption)) (by simp only [List.size_toArray]; omega) ?_); intro k' h' F' N'; (try dsimp only)) | walk_at "K")
      all_goals exact hZX _ _ _ _ (frB (by assumption) (by rfl)) (ledA (by assumption) (by lcg_sub))
    · obtain rfl : i = 1 := by omega
      rw [if_pos rfl] at NL₁
      obtain ⟨hn1, hn2⟩ := hn rfl
      clear hn
      repeat' (first | ((with_reducible show wpAny _ _ (call (Value.ref 309) _) _ _ _); k_dflt (refine whole_inst_c (by k_asm) (by k_asm) (by k_asm) (by k_asm) (by k_asm) (by rfl) (InstH.keeps (by assumption) (Fr.keep (by k_asm))) (by ktr_room) (by ktr_units) ?_); intro h' tk' F' N'; (try dsimp only)) | ((with_reducible show wpAny _ _ (call (Value.ref 463) _) _ _ _); k_dflt (refine islab_c (by k_asm) (by k_asm) (by k_asm) (by k_asm) (by k_asm) (by rfl) (PS.keeps (by assumption) (Fr.keep (by k_asm))) (by ktr_room) (by ktr_units) ?_); intro h' tk' F' N'; (try dsimp only)) | ((with_reducible show wpAny _ _ (call (Value.ref 470) _) _ _ _); k_dflt (refine dowhole_c (rest := []) (by k_asm) (by k_asm) (by k_asm) (by k_asm) (by k_asm) (by rfl) (PS.keeps (by assumption) (Fr.keep (by k_asm))) (by assumption) (by assumption) (by k_mem) (by exact fun _ h => nomatch h) (by ktr_room) (by ktr_units) ?_); intro k' h' tk' F' N'; (try dsimp only)) | ((with_reducible show wpAny _ _ (call (Value.ref 477) _) _ _ _); k_dflt (refine dotext_c (rest := []) (by k_asm) (by k_asm) (by k_asm) (by k_asm) (by k_asm) (by rfl) (PS.keeps (by assumption) (Fr.keep (by k_asm))) (by assumption) (by assumption) (by k_mem) (by exact fun _ h => nomatch h) (by ktr_room) (by ktr_units) ?_); intro k' h' tk' F' N'; (try dsimp only)) | ((with_reducible show wpAny _ _ (call (Value.builtin _) [Value.ref _, Value.ref _]) _ _ _); k_dflt (refine extend_into (by k_asm) (by k_asm) (by exact fun _ h => nomatch h) (by exact Fr.keep (by k_asm) _ _ (by assumption)) (by simp only [List.size_toArray]; omega) ?_); intro k' h' F' N'; (try dsimp only)) | walk_at "K")
      ((refine wpAny_execs_cons ?_); repeat' (first | ((with_reducible show wpAny _ _ (call (Value.ref 309) _) _ _ _); k_dflt (refine whole_inst_c (by k_asm) (by k_asm) (by k_asm) (by k_asm) (by k_asm) (by rfl) (InstH.keeps (by assumption) (Fr.keep (by k_asm))) (by ktr_room) (by ktr_units) ?_); intro h' tk' F' N'; (try dsimp only)) | ((with_reducible show wpAny _ _ (call (Value.ref 463) _) _ _ _); k_dflt (refine islab_c (by k_asm) (by k_asm) (by k_asm) (by k_asm) (by k_asm) (by rfl) (PS.keeps (by assumption) (Fr.keep (by k_asm))) (by ktr_room) (by ktr_units) ?_); intro h' tk' F' N'; (try dsimp only)) | ((with_reducible show wpAny _ _ (call (Value.ref 470) _) _ _ _); k_dflt (refine dowhole_c (rest := []) (by k_asm) (by k_asm) (by k_asm) (by k_asm) (by k_asm) (by rfl) (PS.keeps (by assumption) (Fr.keep (by k_asm))) (by assumption) (by assumption) (by k_mem) (by exact fun _ h => nomatch h) (by ktr_room) (by ktr_units) ?_); intro k' h' tk' F' N'; (try dsimp only)) | ((with_reducible show wpAny _ _ (call (Value.ref 477) _) _ _ _); k_dflt (refine dotext_c (rest := []) (by k_asm) (by k_asm) (by k_asm) (by k_asm) (by k_asm) (by rfl) (PS.keeps (by assumption) (Fr.keep (by k_asm))) (by assumption) (by assumption) (by k_mem) (by exact fun _ h => nomatch h) (by ktr_room) (by ktr_units) ?_); intro k' h' tk' F' N'; (try dsimp only)) | ((with_reducible show wpAny _ _ (call (Value.builtin _) [Value.ref _, Value.ref _]) _ _ _); k_dflt (refine extend_into (by k_asm) (by k_asm) (by exact fun _ h => nomatch h) (by exact Fr.keep (by k_asm) _ _ (by assumption)) (by simp only [List.size_toArray]; omega) ?_); intro k' h' F' N'; (try dsimp only)) | walk_at "K"))
      ((refine wpAny_execs_cons ?_); repeat' (first | ((with_reducible show wpAny _ _ (call (Value.ref 309) _) _ _ _); k_dflt (refine whole_inst_c (by k_asm) (by k_asm) (by k_asm) (by k_asm) (by k_asm) (by rfl) (InstH.keeps (by assumption) (Fr.keep (by k_asm))) (by ktr_room) (by ktr_units) ?_); intro h' tk' F' N'; (try dsimp only)) | ((with_reducible show wpAny _ _ (call (Value.ref 463) _) _ _ _); k_dflt (refine islab_c (by k_asm) (by k_asm) (by k_asm) (by k_asm) (by k_asm) (by rfl) (PS.keeps (by assumption) (Fr.keep (by k_asm))) (by ktr_room) (by ktr_units) ?_); intro h' tk' F' N'; (try dsimp only)) | ((with_reducible show wpAny _ _ (call (Value.ref 470) _) _ _ _); k_dflt (refine dowhole_c (rest := []) (by k_asm) (by k_asm) (by k_asm) (by k_asm) (by k_asm) (by rfl) (PS.keeps (by assumption) (Fr.keep (by k_asm))) (by assumption) (by assumption) (by k_mem) (by exact fun _ h => nomatch h) (by ktr_room) (by ktr_units) ?_); intro k' h' tk' F' N'; (try dsimp only)) | ((with_reducible show wpAny _ _ (call (Value.ref 477) _) _ _ _); k_dflt (refine dotext_c (rest := []) (by k_asm) (by k_asm) (by k_asm) (by k_asm) (by k_asm) (by rfl) (PS.keeps (by assumption) (Fr.keep (by k_asm))) (by assumption) (by assumption) (by k_mem) (by exact fun _ h => nomatch h) (by ktr_room) (by ktr_units) ?_); intro k' h' tk' F' N'; (try dsimp only)) | ((with_reducible show wpAny _ _ (call (Value.builtin _) [Value.ref _, Value.ref _]) _ _ _); k_dflt (refine extend_into (by k_asm) (by k_asm) (by exact fun _ h => nomatch h) (by exact Fr.keep (by k_asm) _ _ (by assumption)) (by simp only [List.size_toArray]; omega) ?_); intro k' h' F' N'; (try dsimp only)) | walk_at "K"))
      ((refine wpAny_execs_cons ?_); repeat' (first | ((with_reducible show wpAny _ _ (call (Value.ref 309) _) _ _ _); k_dflt (refine whole_inst_c (by k_asm) (by k_asm) (by k_asm) (by k_asm) (by k_asm) (by rfl) (InstH.keeps (by assumption) (Fr.keep (by k_asm))) (by ktr_room) (by ktr_units) ?_); intro h' tk' F' N'; (try dsimp only)) | ((with_reducible show wpAny _ _ (call (Value.ref 463) _) _ _ _); k_dflt (refine islab_c (by k_asm) (by k_asm) (by k_asm) (by k_asm) (by k_asm) (by rfl) (PS.keeps (by assumption) (Fr.keep (by k_asm))) (by ktr_room) (by ktr_units) ?_); intro h' tk' F' N'; (try dsimp only)) | ((with_reducible show wpAny _ _ (call (Value.ref 470) _) _ _ _); k_dflt (refine dowhole_c (rest := []) (by k_asm) (by k_asm) (by k_asm) (by k_asm) (by k_asm) (by rfl) (PS.keeps (by assumption) (Fr.keep (by k_asm))) (by assumption) (by assumption) (by k_mem) (by exact fun _ h => nomatch h) (by ktr_room) (by ktr_units) ?_); intro k' h' tk' F' N'; (try dsimp only)) | ((with_reducible show wpAny _ _ (call (Value.ref 477) _) _ _ _); k_dflt (refine dotext_c (rest := []) (by k_asm) (by k_asm) (by k_asm) (by k_asm) (by k_asm) (by rfl) (PS.keeps (by assumption) (Fr.keep (by k_asm))) (by assumption) (by assumption) (by k_mem) (by exact fun _ h => nomatch h) (by ktr_room) (by ktr_units) ?_); intro k' h' tk' F' N'; (try dsimp only)) | ((with_reducible show wpAny _ _ (call (Value.builtin _) [Value.ref _, Value.ref _]) _ _ _); k_dflt (refine extend_into (by k_asm) (by k_asm) (by exact fun _ h => nomatch h) (by exact Fr.keep (by k_asm) _ _ (by assumption)) (by simp only [List.size_toArray]; omega) ?_); intro k' h' F' N'; (try dsimp only)) | walk_at "K"))
      refine dodatum_c (rest := [_]) (by k_asm) (by k_asm) (by k_asm) (by k_asm) (by k_asm) (by rfl) (PS.keeps (by assumption) (Fr.keep (by k_asm))) (by assumption) (by assumption) (by k_mem) (by intro q hq; obtain rfl := List.mem_singleton.mp hq; first | exact ⟨.tail _ (.head _), by assumption⟩ | exact ⟨.head _, by assumption⟩) (by ktr_room) (by ktr_units) ?_
      intro k' h' tk' F' N'
      try dsimp only
      repeat' (first | ((with_reducible show wpAny _ _ (call (Value.ref 309) _) _ _ _); k_dflt (refine whole_inst_c (by k_asm) (by k_asm) (by k_asm) (by k_asm) (by k_asm) (by rfl) (InstH.keeps (by assumption) (Fr.keep (by k_asm))) (by ktr_room) (by ktr_units) ?_); intro h' tk' F' N'; (try dsimp only)) | ((with_reducible show wpAny _ _ (call (Value.ref 463) _) _ _ _); k_dflt (refine islab_c (by k_asm) (by k_asm) (by k_asm) (by k_asm) (by k_asm) (by rfl) (PS.keeps (by assumption) (Fr.keep (by k_asm))) (by ktr_room) (by ktr_units) ?_); intro h' tk' F' N'; (try dsimp only)) | ((with_reducible show wpAny _ _ (call (Value.ref 470) _) _ _ _); k_dflt (refine dowhole_c (rest := []) (by k_asm) (by k_asm) (by k_asm) (by k_asm) (by k_asm) (by rfl) (PS.keeps (by assumption) (Fr.keep (by k_asm))) (by assumption) (by assumption) (by k_mem) (by exact fun _ h => nomatch h) (by ktr_room) (by ktr_units) ?_); intro k' h' tk' F' N'; (try dsimp only)) | ((with_reducible show wpAny _ _ (call (Value.ref 477) _) _ _ _); k_dflt (refine dotext_c (rest := []) (by k_asm) (by k_asm) (by k_asm) (by k_asm) (by k_asm) (by rfl) (PS.keeps (by assumption) (Fr.keep (by k_asm))) (by assumption) (by assumption) (by k_mem) (by exact fun _ h => nomatch h) (by ktr_room) (by ktr_units) ?_); intro k' h' tk' F' N'; (try dsimp only)) | ((with_reducible show wpAny _ _ (call (Value.builtin _) [Value.ref _, Value.ref _]) _ _ _); k_dflt (refine extend_into (by k_asm) (by k_asm) (by exact fun _ h => nomatch h) (by exact Fr.keep (by k_asm) _ _ (by assumption)) (by simp only [List.size_toArray]; omega) ?_); intro k' h' F' N'; (try dsimp only)) | walk_at "K")
      all_goals exact hZJ 0 (by decide) 0 0 0 _ _ _ _ _ (frB (by assumption) (by rfl)) (ledA (by assumption) (by rw [if_neg (by decide)]; lcg_sub)) (fun h => absurd h (by decide)) (by decide)
  · clear Fw Nw
    intro k2 h4 tk4 m4 F4 NL4
    ((refine wpAny_execs_cons ?_); repeat' (first | ((with_reducible show wpAny _ _ (call (Value.ref 309) _) _ _ _); k_dflt (refine whole_inst_c (by k_asm) (by k_asm) (by k_asm) (by k_asm) (by k_asm) (by rfl) (InstH.keeps (by assumption) (Fr.keep (by k_asm))) (by ktr_room) (by ktr_units) ?_); intro h' tk' F' N'; (try dsimp only)) | ((with_reducible show wpAny _ _ (call (Value.ref 463) _) _ _ _); k_dflt (refine islab_c (by k_asm) (by k_asm) (by k_asm) (by k_asm) (by k_asm) (by rfl) (PS.keeps (by assumption) (Fr.keep (by k_asm))) (by ktr_room) (by ktr_units) ?_); intro h' tk' F' N'; (try dsimp only)) | ((with_reducible show wpAny _ _ (call (Value.ref 470) _) _ _ _); k_dflt (refine dowhole_c (rest := []) (by k_asm) (by k_asm) (by k_asm) (by k_asm) (by k_asm) (by rfl) (PS.keeps (by assumption) (Fr.keep (by k_asm))) (by assumption) (by assumption) (by k_mem) (by exact fun _ h => nomatch h) (by ktr_room) (by ktr_units) ?_); intro k' h' tk' F' N'; (try dsimp only)) | ((with_reducible show wpAny _ _ (call (Value.ref 477) _) _ _ _); k_dflt (refine dotext_c (rest := []) (by k_asm) (by k_asm) (by k_asm) (by k_asm) (by k_asm) (by rfl) (PS.keeps (by assumption) (Fr.keep (by k_asm))) (by assumption) (by assumption) (by k_mem) (by exact fun _ h => nomatch h) (by ktr_room) (by ktr_units) ?_); intro k' h' tk' F' N'; (try dsimp only)) | ((with_reducible show wpAny _ _ (call (Value.builtin _) [Value.ref _, Value.ref _]) _ _ _); k_dflt (refine extend_into (by k_asm) (by k_asm) (by exact fun _ h => nomatch h) (by exact Fr.keep (by k_asm) _ _ (by assumption)) (by simp only [List.size_toArray]; omega) ?_); intro k' h' F' N'; (try dsimp only)) | walk_at "K"))
    exact hPQ _ _ ⟨_, _, by assumption, by assumption, fun b => hret _ _ _ b.fr b.nw⟩
end
end
section
theorem new_ne {g h : Heap} {L a b : Addr} {o o' : Obj} {news : List (Addr × Obj)} (N : News g L h news) (hm : (a, o) ∈ news) (hb : g.get? b = some o') : b ≠ a := fun e => by
  have := (N _ hm).2.2
  dsimp only at this
  rw [← e, hb] at this
  cases this
section
variable {w : World} {dp un : Nat} {gd : Option (List Code)} {cn : Str} {cs : Scope} {a : Addr} {ccd : Value} {cl : List (Str × Addr)} {outer : List Env} {A₀ : Around} {base h₀ : Heap} {L : Addr}
  {m : Str → Option Value} {s : Shared} {Q E : Value → Shared → Prop} {loose : List Str} {mean : ExcName → Option Value} {mg mb : Str → Option Value} {p : Program} {news : List (Addr × Obj)}

theorem printedf_c {xo dxo y dy lt : Addr} {vt : List Value} {ko ky : Nat → Tok} {to tp : Tok} {n₁ n₂ kq : Nat}
  (B : Below A₀ base outer h₀) (F : Fr h₀ L s.heap m) (X : (heapK w.params).In h₀) (N : News h₀ L s.heap news) (T : Top p loose mean mg mb h₀) (hk : cs.kind = .function)
  (hO : InstH s.heap xo 384 dxo (optEs w ko to tp) n₁) (hY : InstH s.heap y 200 dy (textEs w ky lt) n₂) (hT : s.heap.get? lt = some (listOf vt.toArray kq)) (hlen : vt.length ≤ 1000)
  (hd : dp + 8 < recursionLimit) (hu : un + 164 < cLine)
  (hret : ∀ lc k h' tk', Fr h₀ L h' m → News h₀ L h' ((lc, listOf vt.toArray k) :: news) → LCg.Off1 lc news → Q (.ref lc) { s with heap := h', toks := tk' })  :
  wpAny (model PySem.Challenge.rw_np0086_01.row.prog w) (ktrTop dp un gd cn cs L a ccd cl outer) (call (.ref 512) [.ref y, .ref xo, .none]) Q E s := by
  (revert X; k_fill; intro X)
  k_dflt (refine enterD (binds := [("datum", .ref y), ("options", .ref xo), ("obarray", .none)]) B F X N T [] news (fun _ h => nomatch h) (fun q hq => ⟨hq, fun h => nomatch h⟩) rfl rfl hk (by k_is) (by k_is) (by ktr_room) (BindsTo.of_eq rfl) (locs rfl) ?_ rfl rfl rfl (by decide))
  intro g L' h₁ tk PQ PE G F' N' B' X' T' hPQ hPE hEx
  set_option simprocs false in dsimp only [b512, qb512]
  have hO' := gInst G hO
  have hY' := gInst G hY
  have hT' := G _ _ hT (by simp)
  clear B F N T X G hO hY hT
  ((refine wpAny_execs_cons ?_); repeat' (first | ((with_reducible show wpAny _ _ (call (Value.ref 501) _) _ _ _); k_dflt (refine printer_c (by k_asm) (by k_asm) (by k_asm) (by k_asm) (by k_asm) (by rfl) (by ktr_room) (by ktr_units) ?_); intro x' dx' lc' lj' la' kt' h' tk' F' N' o1' o2' o3' o4' n1' n2' n3' n4' n5' n6'; (try dsimp only)) | ((with_reducible show wpAny _ _ (call (Value.ref 361) _) _ _ _); k_dflt (refine labels_c (by k_asm) (by k_asm) (by k_asm) (by k_asm) (by k_asm) (by rfl) (by ktr_room) (by ktr_units) ?_); intro x' dx' od' h' tk' F' N' o1' o2'; (try dsimp only)) | walk_at "K"))
  ((refine wpAny_execs_cons ?_); repeat' (first | ((with_reducible show wpAny _ _ (call (Value.ref 501) _) _ _ _); k_dflt (refine printer_c (by k_asm) (by k_asm) (by k_asm) (by k_asm) (by k_asm) (by rfl) (by ktr_room) (by ktr_units) ?_); intro x' dx' lc' lj' la' kt' h' tk' F' N' o1' o2' o3' o4' n1' n2' n3' n4' n5' n6'; (try dsimp only)) | ((with_reducible show wpAny _ _ (call (Value.ref 361) _) _ _ _); k_dflt (refine labels_c (by k_asm) (by k_asm) (by k_asm) (by k_asm) (by k_asm) (by rfl) (by ktr_room) (by ktr_units) ?_); intro x' dx' od' h' tk' F' N' o1' o2'; (try dsimp only)) | walk_at "K"))
  rename News g L' _ _ => Nw
  rename Fr g L' _ _ => Fw
  rename (_ → Tok) => kt5
  refine printedm_c (rest := []) (by assumption) Fw (by assumption) Nw (by assumption) (by rfl) (PS.keeps (h := _) ⟨⟨kt5, _, (Nw _ (.tail _ (.tail _ (.tail _ (.head _))))).1, (Nw _ (.tail _ (.tail _ (.tail _ (.tail _ (.head _)))))).1⟩, ⟨_, _, _, _, hO'.keeps Fw.keep⟩, ⟨_, _, hY'.keeps Fw.keep⟩, ⟨_, Fw.keep _ _ hT'⟩⟩ (fun _ _ e => e)) ?_ hlen n6' (.tail _ (.tail _ (.head _))) (.tail _ (.head _)) (fun _ h => nomatch h) (by ktr_room) (by ktr_units) ?_
  · have nl := fun {b : Addr} {o : Obj} (hb : g.get? b = some o) => And.intro (new_ne Nw (.tail _ (.tail _ (.head _))) hb) (new_ne Nw (.tail _ (.head _)) hb)
    have a1 := nl hO'.obj
    have a2 := nl hO'.dct
    have a3 := nl hY'.obj
    have a4 := nl hY'.dct
    have a5 := nl hT'
    intro a ha
    simp only [List.mem_cons, List.not_mem_nil, or_false, not_or] at ha ⊢
    rcases ha with rfl | rfl | rfl | rfl | rfl | rfl | rfl
    · exact ⟨Ne.symm n3', Ne.symm n5'⟩
    · exact ⟨Ne.symm n2', Ne.symm n4'⟩
    all_goals assumption
  · intro k h' tk' F5 N5
    exact hPQ _ _ ⟨_, _, F5, N5, fun b => hret _ _ _ _ b.fr (b.one (by k_mem)) (b.off1 (by k_mem))⟩
local macro_rules | `(tactic| ktr_units) => `(tactic| (simp only [under_units, units_deeper]; have hcL9 := cLine_is; simp only [units_in1, units_deeper, Around.mark_units, units_caller, cLine] at *; (first | omega | (simp only [ktrTop] at *; omega))))
theorem princ_c {y dy lt : Addr} {vt : List Value} {ky : Nat → Tok} {n₂ kq : Nat}
  (B : Below A₀ base outer h₀) (F : Fr h₀ L s.heap m) (X : (heapK w.params).In h₀) (N : News h₀ L s.heap news) (T : Top p loose mean mg mb h₀) (hk : cs.kind = .function)
  (hY : InstH s.heap y 200 dy (textEs w ky lt) n₂) (hT : s.heap.get? lt = some (listOf vt.toArray kq)) (hlen : vt.length ≤ 1000)
  (hd : dp + 10 < recursionLimit) (hu : un + 180 < cLine)
  (hret : ∀ lc k h' tk', Fr h₀ L h' m → News h₀ L h' ((lc, listOf vt.toArray k) :: news) → LCg.Off1 lc news → Q (.ref lc) { s with heap := h', toks := tk' })  :
  wpAny (model PySem.Challenge.rw_np0086_01.row.prog w) (ktrTop dp un gd cn cs L a ccd cl outer) (call (.ref 526) [.ref y, .none]) Q E s := by
  (revert X; k_fill; intro X)
  k_dflt (refine enterD (binds := [("datum", .ref y), ("obarray", .none)]) B F X N T [] news (fun _ h => nomatch h) (fun q hq => ⟨hq, fun h => nomatch h⟩) rfl rfl hk (by k_is) (by k_is) (by ktr_room) (BindsTo.of_eq rfl) (locs rfl) ?_ rfl rfl rfl (by decide))
  intro g L' h₁ tk PQ PE G F' N' B' X' T' hPQ hPE hEx
  set_option simprocs false in dsimp only [b526, qb526]
  have hY' := gInst G hY
  have hT' := G _ _ hT (by simp)
  clear B F N T X G hY hT
  ((refine wpAny_execs_cons ?_); repeat' (first | ((with_reducible show wpAny _ _ (call (Value.ref 384) _) _ _ _); k_dflt (refine options_c (by k_asm) (by k_asm) (by k_asm) (by k_asm) (by k_asm) (by rfl) (by ktr_room) (by ktr_units) ?_); intro x' dx' kt' ta' tb' h' tk' F' N' o1' o2' n1'; (try dsimp only)) | ((with_reducible show wpAny _ _ (call (Value.ref 501) _) _ _ _); k_dflt (refine printer_c (by k_asm) (by k_asm) (by k_asm) (by k_asm) (by k_asm) (by rfl) (by ktr_room) (by ktr_units) ?_); intro x' dx' lc' lj' la' kt' h' tk' F' N' o1' o2' o3' o4' n1' n2' n3' n4' n5' n6'; (try dsimp only)) | ((with_reducible show wpAny _ _ (call (Value.ref 361) _) _ _ _); k_dflt (refine labels_c (by k_asm) (by k_asm) (by k_asm) (by k_asm) (by k_asm) (by rfl) (by ktr_room) (by ktr_units) ?_); intro x' dx' od' h' tk' F' N' o1' o2'; (try dsimp only)) | walk_at "K"))
  rename News g L' _ _ => Nw
  rename Fr g L' _ _ => Fw
  refine printedf_c (by assumption) Fw (by assumption) (News.nil) (by assumption) (by rfl) (hO := ⟨(Nw _ (.head _)).1, (Nw _ (.tail _ (.head _))).1⟩) (hY'.keeps Fw.keep) (Fw.keep _ _ hT') hlen (by ktr_room) (by ktr_units) ?_
  intro lc k h' tk' F5 N5 o5
  exact hPQ _ _ ⟨_, _, F5, N5, fun b => hret _ _ _ _ b.fr (b.one (by k_mem)) (b.off1 (by k_mem))⟩
end
end
section
noncomputable def cutS (pr : Int) (nt : List Int) : List Int := if pr < 0 then nt else nt.take pr.toNat
theorem cutS_len {pr : Int} {nt : List Int} : (cutS pr nt).length ≤ nt.length := by
  unfold cutS
  split
  · exact Nat.le_refl _
  · exact List.length_take_le' _ _
section
variable {w : World} {dp un : Nat} {gd : Option (List Code)} {cn : Str} {cs : Scope} {a : Addr} {ccd : Value} {cl : List (Str × Addr)} {outer : List Env} {A₀ : Around} {base h₀ : Heap} {L : Addr}
  {m : Str → Option Value} {s : Shared} {Q E : Value → Shared → Prop} {loose : List Str} {mean : ExcName → Option Value} {mg mb : Str → Option Value} {p : Program} {news : List (Addr × Obj)}

theorem told_text_c
  {x dx : Addr} {fi : Int} {le pl bl no ma : Bool} {wi pr : Int} {kt : Nat → Tok} {ta tb tc td : Tok} {n₀ n₂ kq : Nat} {y dy lt : Addr} {vt : List Value} {nt : List Int} {ky : Nat → Tok}
  (B : Below A₀ base outer h₀) (F : Fr h₀ L s.heap m) (X : (heapK w.params).In h₀) (N : News h₀ L s.heap news) (T : Top p loose mean mg mb h₀) (hk : cs.kind = .function)
  (hI : InstH s.heap x 58 dx (specEs w ⟨fi, le, pl, bl, no, ma, wi, pr, Str.ofString "s"⟩ kt ta tb tc td) n₀) (hw : 0 ≤ wi) (hw2 : wi ≤ 1000) (hp2 : pr ≤ 1000)
  (hY : InstH s.heap y 200 dy (textEs w ky lt) n₂) (hT : s.heap.get? lt = some (listOf vt.toArray kq)) (hv : IntsAre vt nt) (hlen : vt.length ≤ 1000)
  (hd : dp + 12 < recursionLimit) (hu : un + 196 < cLine)
  (hret : ∀ r ws k h' tk', Fr h₀ L h' m → News h₀ L h' ((r, listOf ws k) :: news) → LCg.Off1 r news → IntsAre ws.toList (padS le wi (cutS pr nt)) → Q (.ref r) { s with heap := h', toks := tk' })  :
  wpAny (model PySem.Challenge.rw_np0086_01.row.prog w) (ktrTop dp un gd cn cs L a ccd cl outer) (call (.ref 540) [.ref x, .ref y, .none]) Q E s := by
  (revert X; k_fill; intro X)
  k_dflt (refine enterD (binds := [("spec", .ref x), ("thing", .ref y), ("obarray", .none)]) B F X N T [] news (fun _ h => nomatch h) (fun q hq => ⟨hq, fun h => nomatch h⟩) rfl rfl hk (by k_is) (by k_is) (by ktr_room) (BindsTo.of_eq rfl) (locs rfl) ?_ rfl rfl rfl (by decide))
  intro g L' h₁ tk PQ PE G F' N' B' X' T' hPQ hPE hEx
  set_option simprocs false in dsimp only [b540, qb540]
  have hI' := gInst G hI
  have hY' := gInst G hY
  have hT' := G _ _ hT (by simp)
  have hvl := hv.length
  clear B F N T X G hI hY hT
  have hc : (Builtin.Str.occurrences (Str.ofString "sS") (Str.ofString "s") 0 (Str.ofString "sS").length 1).isEmpty = false := by decide +kernel
  ((refine wpAny_execs_cons ?_); repeat' (first | ((with_reducible show wpAny _ _ (call (Value.ref 90) _) _ _ _); k_dflt (refine padded_c (by k_asm) (by k_asm) (by k_asm) (by k_asm) (by k_asm) (by rfl) (by walk_at "ISLIST") (by l_ints) (InstH.keeps (by assumption) (Fr.keep (by k_asm))) (by omega) (by assumption) (by assumption) (by ktr_room) (by ktr_units) ?_); intro r' ws' n' h' tk' F' N' o1' hI'; (try dsimp only)) | ((with_reducible show wpAny _ _ (call (Value.ref 526) _) _ _ _); k_dflt (refine princ_c (by k_asm) (by k_asm) (by k_asm) (by k_asm) (by k_asm) (by rfl) (InstH.keeps (by assumption) (Fr.keep (by k_asm))) (Fr.keep (by k_asm) _ _ (by assumption)) (by assumption) (by ktr_room) (by ktr_units) ?_); intro lc' k' h' tk' F' N' o1'; (have n1' := offN o1'); (try simp only [OffN, and_true] at n1'); (try dsimp only)) | ((with_reducible show wpAny _ _ (subscriptTail _ (PySem.Expr.Slice none (some _) none _) (Value.ref _) (Value.ref _)) _ _ _); k_dflt (refine' kmk_slice_ints (s := ⟨_, _, _, _, _⟩) ?F ?N ?l IsPart.none (IsPart.int _ _) ?i (kmk_upto ?i2 ?h) rfl ?_ ?s ?t ?z; (case F => k_asm); (case N => k_asm); (case l => kmk_list); (case i => l_ints); (case i2 => assumption); (case h => omega); (case s => with_unfolding_all rfl); (case t => kmk_pure); (case z => kmk_size)); intro D' ws' h' F' N' l1 hI' hC' hL'; clear hC'; (try k_lt l1)) | ((with_reducible show wpAny _ _ (subscriptTail _ (PySem.Expr.Slice none (some _) none _) (Value.ref _) (Value.ref _)) _ _ _); k_dflt (refine' kmk_slice_ints (s := ⟨_, _, _, _, _⟩) ?F ?N ?l IsPart.none (IsPart.int _ _) ?i (kmk_upto ?i2 ?h) rfl ?_ ?s ?t ?z; (case F => k_asm); (case N => k_asm); (case l => kmk_list); (case i => l_ints); (case i2 => assumption); (case h => omega); (case s => with_unfolding_all rfl); (case t => kmk_pure); (case z => kmk_size)); intro D' ws' h' F' N' l1 hI' hC' hL'; clear hC'; (try k_lt l1)) | walk_at "K"))
  · exact absurd (hc.symm.trans (by assumption)) (by decide)
  ((refine wpAny_execs_cons ?_); repeat' (first | ((with_reducible show wpAny _ _ (call (Value.ref 90) _) _ _ _); k_dflt (refine padded_c (by k_asm) (by k_asm) (by k_asm) (by k_asm) (by k_asm) (by rfl) (by walk_at "ISLIST") (by l_ints) (InstH.keeps (by assumption) (Fr.keep (by k_asm))) (by omega) (by assumption) (by assumption) (by ktr_room) (by ktr_units) ?_); intro r' ws' n' h' tk' F' N' o1' hI'; (try dsimp only)) | ((with_reducible show wpAny _ _ (call (Value.ref 526) _) _ _ _); k_dflt (refine princ_c (by k_asm) (by k_asm) (by k_asm) (by k_asm) (by k_asm) (by rfl) (InstH.keeps (by assumption) (Fr.keep (by k_asm))) (Fr.keep (by k_asm) _ _ (by assumption)) (by assumption) (by ktr_room) (by ktr_units) ?_); intro lc' k' h' tk' F' N' o1'; (have n1' := offN o1'); (try simp only [OffN, and_true] at n1'); (try dsimp only)) | ((with_reducible show wpAny _ _ (subscriptTail _ (PySem.Expr.Slice none (some _) none _) (Value.ref _) (Value.ref _)) _ _ _); k_dflt (refine' kmk_slice_ints (s := ⟨_, _, _, _, _⟩) ?F ?N ?l IsPart.none (IsPart.int _ _) ?i (kmk_upto ?i2 ?h) rfl ?_ ?s ?t ?z; (case F => k_asm); (case N => k_asm); (case l => kmk_list); (case i => l_ints); (case i2 => assumption); (case h => omega); (case s => with_unfolding_all rfl); (case t => kmk_pure); (case z => kmk_size)); intro D' ws' h' F' N' l1 hI' hC' hL'; clear hC'; (try k_lt l1)) | ((with_reducible show wpAny _ _ (subscriptTail _ (PySem.Expr.Slice none (some _) none _) (Value.ref _) (Value.ref _)) _ _ _); k_dflt (refine' kmk_slice_ints (s := ⟨_, _, _, _, _⟩) ?F ?N ?l IsPart.none (IsPart.int _ _) ?i (kmk_upto ?i2 ?h) rfl ?_ ?s ?t ?z; (case F => k_asm); (case N => k_asm); (case l => kmk_list); (case i => l_ints); (case i2 => assumption); (case h => omega); (case s => with_unfolding_all rfl); (case t => kmk_pure); (case z => kmk_size)); intro D' ws' h' F' N' l1 hI' hC' hL'; clear hC'; (try k_lt l1)) | walk_at "K"))
  ((refine wpAny_execs_cons ?_); repeat' (first | ((with_reducible show wpAny _ _ (call (Value.ref 90) _) _ _ _); k_dflt (refine padded_c (by k_asm) (by k_asm) (by k_asm) (by k_asm) (by k_asm) (by rfl) (by walk_at "ISLIST") (by l_ints) (InstH.keeps (by assumption) (Fr.keep (by k_asm))) (by omega) (by assumption) (by assumption) (by ktr_room) (by ktr_units) ?_); intro r' ws' n' h' tk' F' N' o1' hI'; (try dsimp only)) | ((with_reducible show wpAny _ _ (call (Value.ref 526) _) _ _ _); k_dflt (refine princ_c (by k_asm) (by k_asm) (by k_asm) (by k_asm) (by k_asm) (by rfl) (InstH.keeps (by assumption) (Fr.keep (by k_asm))) (Fr.keep (by k_asm) _ _ (by assumption)) (by assumption) (by ktr_room) (by ktr_units) ?_); intro lc' k' h' tk' F' N' o1'; (have n1' := offN o1'); (try simp only [OffN, and_true] at n1'); (try dsimp only)) | ((with_reducible show wpAny _ _ (subscriptTail _ (PySem.Expr.Slice none (some _) none _) (Value.ref _) (Value.ref _)) _ _ _); k_dflt (refine' kmk_slice_ints (s := ⟨_, _, _, _, _⟩) ?F ?N ?l IsPart.none (IsPart.int _ _) ?i (kmk_upto ?i2 ?h) rfl ?_ ?s ?t ?z; (case F => k_asm); (case N => k_asm); (case l => kmk_list); (case i => l_ints); (case i2 => assumption); (case h => omega); (case s => with_unfolding_all rfl); (case t => kmk_pure); (case z => kmk_size)); intro D' ws' h' F' N' l1 hI' hC' hL'; clear hC'; (try k_lt l1)) | ((with_reducible show wpAny _ _ (subscriptTail _ (PySem.Expr.Slice none (some _) none _) (Value.ref _) (Value.ref _)) _ _ _); k_dflt (refine' kmk_slice_ints (s := ⟨_, _, _, _, _⟩) ?F ?N ?l IsPart.none (IsPart.int _ _) ?i (kmk_upto ?i2 ?h) rfl ?_ ?s ?t ?z; (case F => k_asm); (case N => k_asm); (case l => kmk_list); (case i => l_ints); (case i2 => assumption); (case h => omega); (case s => with_unfolding_all rfl); (case t => kmk_pure); (case z => kmk_size)); intro D' ws' h' F' N' l1 hI' hC' hL'; clear hC'; (try k_lt l1)) | walk_at "K"))
  · rename IntsAre (Array.toList _) _ => hI
    rename pr < 0 => hn
    exact hPQ _ _ ⟨_, _, by assumption, by assumption, fun b => hret _ _ _ _ _ b.fr (b.one (by k_mem)) (b.off1 (by k_mem)) (by unfold cutS; rw [if_pos hn]; exact hI)⟩
  · rename IntsAre (Array.toList _) _ => hI
    rename ¬ pr < 0 => hn
    exact hPQ _ _ ⟨_, _, by assumption, by assumption, fun b => hret _ _ _ _ _ b.fr (b.one (by k_mem)) (b.off1 (by k_mem)) (by unfold cutS; rw [if_neg hn]; exact hI)⟩
end
end
section
section
variable {w : World} {dp un : Nat} {gd : Option (List Code)} {cn : Str} {cs : Scope} {a : Addr} {ccd : Value} {cl : List (Str × Addr)} {outer : List Env} {A₀ : Around} {base h₀ : Heap} {L : Addr}
  {m : Str → Option Value} {s : Shared} {Q E : Value → Shared → Prop} {loose : List Str} {mean : ExcName → Option Value} {mg mb : Str → Option Value} {p : Program} {news : List (Addr × Obj)}

theorem text_c {lt : Addr}
  (B : Below A₀ base outer h₀) (F : Fr h₀ L s.heap m) (X : (heapK w.params).In h₀) (N : News h₀ L s.heap news) (T : Top p loose mean mg mb h₀) (hk : cs.kind = .function)
  (hd : dp + 3 < recursionLimit) (hu : un + 24 < cLine)
  (hret : ∀ x dx kt h' tk', Fr h₀ L h' m → News h₀ L h' ((x, instO 200 dx) :: (dx, dictOf (textEs w kt lt) 2) :: news) → LCg.Off1 x news → LCg.Off1 dx news → Q (.ref x) { s with heap := h', toks := tk' })  :
  wpAny (model PySem.Challenge.rw_np0086_01.row.prog w) (ktrTop dp un gd cn cs L a ccd cl outer) (call (.ref 200) [.ref lt]) Q E s := by
  (revert X; k_fill; intro X)
  k_dflt (refine call_cls F X N (by k_is) (by k_is) (by k_is) ?_)
  intro x dx h1 F1 N1 l1 l2
  k_dflt (refine enterC (binds := [("self", .ref x), ("codes", .ref lt), ("spans", .none)]) B F1 X N1 T [(x, instO 200 dx), (dx, dictOf [] 0)] news (by intro q hq; simp only [List.mem_cons, List.not_mem_nil, or_false] at hq; rcases hq with rfl | rfl <;> simp) (by intro q hq; refine ⟨by simp [hq], ?_⟩; simp only [List.map_cons, List.map_nil, List.mem_cons, List.not_mem_nil, or_false, not_or]; exact ⟨Nat.ne_of_lt (Nat.lt_trans (l1 q hq) l2), Nat.ne_of_lt (l1 q hq)⟩) rfl rfl hk (by k_is) (by k_is) (by ktr_room) (BindsTo.of_defaults rfl ((X.keeps F1.keep) 190 _ (by k_is)) rfl rfl rfl) (locs rfl) ?_ rfl rfl rfl (by decide))
  intro g L' h₁ tk PQ PE G F' N' B' X' T' hPQ hPE hEx
  set_option simprocs false in dsimp only [b35, qb35, b55, qb55, b69, qb69, b76, qb76, b83, qb83, b90, qb90, b97, qb97, b104, qb104, b197, qb197, b309, qb309, b316, qb316, b344, qb344, b381, qb381, b442, qb442, b449, qb449, b456, qb456, b463, qb463, b470, qb470, b477, qb477, b512, qb512, b526, qb526, b533, qb533, b540, qb540, b547, qb547, b552, qb552, b559, qb559, b564, qb564, b569, qb569, b576, qb576, b583, qb583, b588, qb588, b595, qb595, b600, qb600]
  clear B F N T X G F1 N1
  have l3 := ltN l2
  iterate 2 walk_at "S"
  refine hPQ _ _ ⟨_, _, by assumption, by assumption, fun b => ⟨rfl, ?_⟩⟩
  exact hret x dx (fun k => [_, _].getD k 0) _ _ b.fr b.nw (off1_of fun q hq => Nat.ne_of_lt (Nat.lt_trans (l1 q hq) l2)) (off1_of fun q hq => Nat.ne_of_lt (l1 q hq))
end
end
section
/-- a text's signs as numbers -/
noncomputable def sgn (st : Str) : List Int := st.cps.toList.map Int.ofNat
theorem sgn_len (st : Str) : (sgn st).length = st.cps.size := by simp [sgn]
theorem sgn_take {st : Str} {i : Nat} {c : Nat} (h : st.cps[i]? = some c) : (sgn st).take (i + 1) = (sgn st).take i ++ [(c : Int)] := by
  rw [List.take_add_one]
  congr 1
  have : (sgn st)[i]? = some (c : Int) := by
    unfold sgn
    rw [List.getElem?_map, Array.getElem?_toList, h]
    rfl
  rw [this]
  rfl
section
variable {w : World} {dp un : Nat} {gd : Option (List Code)} {cn : Str} {cs : Scope} {a : Addr} {ccd : Value} {cl : List (Str × Addr)} {outer : List Env} {A₀ : Around} {base h₀ : Heap} {L : Addr}
  {m : Str → Option Value} {s : Shared} {Q E : Value → Shared → Prop} {loose : List Str} {mean : ExcName → Option Value} {mg mb : Str → Option Value} {p : Program} {news : List (Addr × Obj)}

theorem lcodes_c {st : Str} {tk₀ : Tok}
  (B : Below A₀ base outer h₀) (F : Fr h₀ L s.heap m) (X : (heapK w.params).In h₀) (N : News h₀ L s.heap news) (T : Top p loose mean mg mb h₀) (hk : cs.kind = .function)
  (hlen : st.cps.size ≤ 1000)
  (hd : dp + 1 < recursionLimit) (hu : un + 108 < cLine)
  (hret : ∀ r ws k h' tk', Fr h₀ L h' m → News h₀ L h' ((r, listOf (List.toArray ws) k) :: news) → LCg.Off1 r news → IntsAre ws (sgn st) → Q (.ref r) { s with heap := h', toks := tk' })  :
  wpAny (model PySem.Challenge.rw_np0086_01.row.prog w) (ktrTop dp un gd cn cs L a ccd cl outer) (call (.ref 564) [.str st tk₀]) Q E s := by
  (revert X; k_fill; intro X)
  k_dflt (refine enterD (binds := [("words", .str st tk₀)]) B F X N T [] news (fun _ h => nomatch h) (fun q hq => ⟨hq, fun h => nomatch h⟩) rfl rfl hk (by k_is) (by k_is) (by ktr_room) (BindsTo.of_eq rfl) (locs rfl) ?_ rfl rfl rfl (by decide))
  intro g L' h₁ tk PQ PE G F' N' B' X' T' hPQ hPE hEx
  set_option simprocs false in dsimp only [b564, qb564]
  clear B F N T X G
  refine wpAny_execs_cons ?_
  walk_at "K"
  refine ListComp_SU F' (by with_unfolding_all rfl) (by decide) (by rfl) (by decide) (by rfl) ?_
  walk_at "K"
  refine ⟨st, _, [], rfl, by rfl, by assumption, News.nil, by rw [PySem.sizeLine_eq]; omega, fun s₂ hs₂ => ?_⟩
  obtain ⟨h2, rfl⟩ := hs₂
  refine compRest_inv (fun i ys nw => IntsAre ys ((sgn st).take i) ∧ nw = []) st.cps.size ?_ ?_ _ 0 [] _ (by omega) ⟨.nil, rfl⟩
  · rintro i ys news hi ⟨hv, rfl⟩ v I oI C oC D m₂ h tk E' ⟨c, u, hc, rfl⟩ hC hx F N off ne
    clear F' N'
    repeat' walk_at "K"
    rw [sgn_take hc]
    exact IntsAre.append hv (.cons _ _ .nil)
  · rintro ys news ⟨hv, rfl⟩ D h tk F N o1
    have hl : (sgn st).take st.cps.size = sgn st := List.take_of_length_le (by rw [sgn_len]; exact Nat.le_refl _)
    rw [hl] at hv
    exact hPQ _ _ ⟨_, _, F, N, fun b => hret _ _ _ _ _ b.fr (b.one (by k_mem)) (b.off1 (by k_mem)) hv⟩
end
end
section
theorem ints_get {vs : List Value} {ns : List Int} (h : IntsAre vs ns) : ∀ {i : Nat} {v : Value}, (List.toArray vs)[i]? = some v → ∃ x t, v = .int x t ∧ ns[i]? = some x := by
  induction h with
  | nil => intro i v h; simp at h
  | cons a t _ ih =>
    intro i v h
    cases i with
    | zero => simp at h; exact ⟨_, _, h.symm, by simp⟩
    | succ j =>
      have := ih (i := j) (v := v) (by simpa using h)
      obtain ⟨x, t', e, g⟩ := this
      exact ⟨x, t', e, by simpa using g⟩
noncomputable def dgs (r : Int) : Nat → Int → List Int
  | 0, _ => []
  | f + 1, n => n.fmod r :: (if 0 < n.fdiv r then dgs r f (n.fdiv r) else [])
theorem dgs_dig {r : Int} (h : 8 ≤ r) (h2 : r ≤ 16) : ∀ (f : Nat) (n : Int), ∀ x ∈ dgs r f n, 0 ≤ x ∧ x < 16
  | 0, n, x, hx => nomatch hx
  | f + 1, n, x, hx => by
    unfold dgs at hx
    rcases List.mem_cons.mp hx with rfl | hx
    · rw [Int.fmod_eq_emod_of_nonneg _ (by omega)]
      have := Int.emod_lt_of_pos n (b := r) (by omega)
      exact ⟨Int.emod_nonneg _ (by omega), by omega⟩
    · split at hx
      · exact dgs_dig h h2 f _ x hx
      · exact nomatch hx
theorem dgs_step {r n : Int} {f : Nat} {fl total : List Int} (h : fl ++ dgs r (f + 1) n = total) : (0 < n.fdiv r → (fl ++ [n.fmod r]) ++ dgs r f (n.fdiv r) = total) ∧ (¬ 0 < n.fdiv r → fl ++ [n.fmod r] = total) := by
  unfold dgs at h
  constructor
  · intro q
    rw [if_pos q] at h
    rw [← h, List.append_assoc]
    rfl
  · intro q
    rw [if_neg q] at h
    exact h
theorem fdiv_small {n r : Int} {f : Nat} (h0 : 0 ≤ n) (h : n < 8 ^ (f + 1)) (hr : 8 ≤ r) : 0 ≤ n.fdiv r ∧ n.fdiv r < 8 ^ f := by
  rw [Int.fdiv_eq_ediv_of_nonneg _ (by omega)]
  refine ⟨Int.ediv_nonneg h0 (by omega), ?_⟩
  refine Int.ediv_lt_of_lt_mul (by omega) ?_
  rw [Int.pow_succ] at h
  have hp : (0 : Int) ≤ 8 ^ f := Int.pow_nonneg (by decide)
  exact Int.lt_of_lt_of_le h (Int.mul_le_mul_of_nonneg_left hr hp)
theorem tab_dig {b : Bool} {x : Int} (h0 : 0 ≤ x) (h1 : x < 16) : (if b = true then [48, 49, 50, 51, 52, 53, 54, 55, 56, 57, 65, 66, 67, 68, 69, 70] else [48, 49, 50, 51, 52, 53, 54, 55, 56, 57, 97, 98, 99, 100, 101, 102] : List Int).getD x.toNat 0 = digC b x := by
  have h : x = 0 ∨ x = 1 ∨ x = 2 ∨ x = 3 ∨ x = 4 ∨ x = 5 ∨ x = 6 ∨ x = 7 ∨ x = 8 ∨ x = 9 ∨ x = 10 ∨ x = 11 ∨ x = 12 ∨ x = 13 ∨ x = 14 ∨ x = 15 := by omega
  cases b <;> rcases h with rfl | rfl | rfl | rfl | rfl | rfl | rfl | rfl | rfl | rfl | rfl | rfl | rfl | rfl | rfl | rfl <;> rfl
theorem take_get {α : Type} {l : List α} {i : Nat} {x : α} (h : l[i]? = some x) : l.take (i + 1) = l.take i ++ [x] := by
  rw [List.take_add_one, h]; rfl
theorem dgs_ne (r : Int) (f : Nat) (n : Int) : dgs r (f + 1) n ≠ [] := by unfold dgs; exact fun h => nomatch h
noncomputable def lawF (n r : Int) (b : Bool) : List Int := ((dgs r 5 n).reverse).map (digC b)
section
variable {w : World} {dp un : Nat} {gd : Option (List Code)} {cn : Str} {cs : Scope} {a : Addr} {ccd : Value} {cl : List (Str × Addr)} {outer : List Env} {A₀ : Around} {base h₀ : Heap} {L : Addr}
  {m : Str → Option Value} {s : Shared} {Q E : Value → Shared → Prop} {loose : List Str} {mean : ExcName → Option Value} {mg mb : Str → Option Value} {p : Program} {news : List (Addr × Obj)}

theorem lfigs_c {n r : Int} {tn tr : Tok} {b : Bool}
  (B : Below A₀ base outer h₀) (F : Fr h₀ L s.heap m) (X : (heapK w.params).In h₀) (N : News h₀ L s.heap news) (T : Top p loose mean mg mb h₀) (hk : cs.kind = .function)
  (h0 : 0 ≤ n) (hn : n ≤ 10000) (hr : 8 ≤ r) (hr2 : r ≤ 16)
  (hd : dp + 1 < recursionLimit) (hu : un + 108 < cLine)
  (hret : ∀ a ws k h' tk', Fr h₀ L h' m → News h₀ L h' ((a, listOf (List.toArray ws) k) :: news) → LCg.Off1 a news → IntsAre ws (lawF n r b) → Q (.ref a) { s with heap := h', toks := tk' })  :
  wpAny (model PySem.Challenge.rw_np0086_01.row.prog w) (ktrTop dp un gd cn cs L a ccd cl outer) (call (.ref 569) [.int n tn, .int r tr, .bool b]) Q E s := by
  (revert X; k_fill; intro X)
  k_dflt (refine enterX (binds := [("number", .int n tn), ("radix", .int r tr), ("has_capitals", .bool b)]) B F X N T [] news (fun _ h => nomatch h) (fun q hq => ⟨hq, fun h => nomatch h⟩) rfl rfl hk (by k_is) (by k_is) (by ktr_room) (BindsTo.of_eq rfl) (by rfl) (by decide) ?_ rfl rfl rfl)
  intro g L' h₁ tk cells PQ PE G F' N' Y lD B' X' T' hPQ hPE hEx
  set_option simprocs false in dsimp only [b569, qb569]
  obtain ⟨oc, rfl, hoc⟩ := CellsAre.one (n := Str.ofString "has_capitals") (c := L' + 1) Y
  replace F' := Has.fr (l := [(Str.ofString "number", .int n tn), (Str.ofString "radix", .int r tr)]) ⟨rfl, rfl, trivial⟩ F'
  change oc.data = .cell (some (.bool b)) at hoc
  change News g L' h₁ [(L' + 1, oc)] at N'
  clear B F N T X G
  walk_at "S"
  rename Fr g L' _ _ => Fw
  rename News g L' _ _ => Nw
  generalize htot : dgs r 5 n = total at *
  refine whileA (n₀ := 5) (fun f Z => ∀ (n' : Int) (fd : Addr) (vf : Array Value) (kk : Nat) (fl : List Int) (t1 t2 : Tok) h' tk' m', Fr g L' h' (over m' [(Str.ofString "found", .ref fd), (Str.ofString "number", .int n' t1), (Str.ofString "radix", .int r t2)]) → News g L' h' [(fd, listOf vf kk), (L' + 1, oc)] → IntsAre vf.toList fl → 0 ≤ n' → n' < 8 ^ f → (fl = [] → 0 < f) → ((0 < n' ∨ fl = []) → fl ++ dgs r f n' = total) → (¬ (0 < n' ∨ fl = []) → fl = total) → fl.length + f = 5 → @Ne Nat (L' + 1) fd → Z h' tk')
    (fun Z => ∀ (fd : Addr) (vf : Array Value) (kk : Nat) h' tk' m', Fr g L' h' (over m' [(Str.ofString "found", .ref fd)]) → News g L' h' [(fd, listOf vf kk), (L' + 1, oc)] → IntsAre vf.toList total → vf.size ≤ 5 → @Ne Nat (L' + 1) fd → Z h' tk') (fun _ _ c9 n' fd vf kk fl t1 t2 h' tk' m' x0 x1 x2 x3 x4 x5 x6 x7 x8 x9 => c9 _ _ fun _ q9 => q9 n' fd vf kk fl t1 t2 h' tk' m' x0 x1 x2 x3 x4 x5 x6 x7 x8 x9) ?_ ?_ ?_ hPE
  · exact fun Z hZ => hZ n _ (#[]) _ ([]) _ _ _ _ _ (frB Fw (by rfl)) (ledA Nw (by lcg_sub)) .nil h0 (by omega) (fun _ => by decide) (fun _ => htot) (fun h => absurd (.inr rfl) h) rfl (by omega)
  · clear Fw Nw
    intro f ZJ ZX hZJ hZX n' fd vf kk fl t1 t2 h₁ tk₁ m₁ F₁ NL₁ hv hn0 hn8 hf0 hgo hst hlen hne
    obtain ⟨vf⟩ := vf
    change IntsAre vf fl at hv
    change News g L' h₁ [(fd, listOf (List.toArray vf) kk), _] at NL₁
    have hvl := hv.length
    repeat' walk_at "K"
    rotate_right 1
    · rename decide _ = false => q
      have hq : ¬ (0 < n' ∨ fl = []) := fun h => h.elim (fun h => absurd h (by assumption)) (fun h => absurd h (of_decide_eq_false q))
      exact hZX _ _ _ _ _ _ (frB (by assumption) (by rfl)) (ledA (by assumption) (by lcg_sub)) (by rw [← hst hq]; exact hv) (by simp only [List.size_toArray]; omega) hne
    all_goals
      have hc : 0 < n' ∨ fl = [] := by first | exact .inl (by assumption) | exact .inr (of_decide_eq_true (by assumption))
      obtain ⟨f, rfl⟩ : ∃ f', f = f' + 1 := by
        cases f with
        | zero => exact hc.elim (fun h => by omega) (fun h => absurd (hf0 h) (by decide))
        | succ f => exact ⟨f, rfl⟩
      obtain ⟨g1, g2⟩ := dgs_step (hgo hc)
      obtain ⟨g3, g4⟩ := fdiv_small hn0 hn8 hr
      walk_at "S"
      walk_at "S"
      exact hZJ f (by omega) (n'.fdiv r) fd _ _ (fl ++ [n'.fmod r]) _ _ _ _ _ (frB (by assumption) (by rfl)) (ledA (by assumption) (by lcg_sub)) (by rw [Array.toList_push]; exact IntsAre.append hv (.cons _ _ .nil)) g3 g4 (fun h => absurd h (by simp)) (fun h => g1 (h.elim id (fun h => absurd h (by simp)))) (fun h => g2 (fun q => h (.inl q))) (by rw [List.length_append]; simp only [List.length_cons, List.length_nil]; omega) hne
  · skip
    intro fd vf kk h4 tk4 m4 F4 NL4 hv hsz hne
    obtain ⟨vf⟩ := vf
    change IntsAre vf total at hv
    change News g L' h4 [(fd, listOf (List.toArray vf) kk), _] at NL4
    refine wpAny_execs_cons ?_
    walk_at "K"
    refine LCg.ListComp_U F4 (by with_unfolding_all rfl) (by decide) (by rfl) (by decide) (by rfl) ?_
    repeat' ((fail_if_success (with_reducible show LCg.CompSrc _ _ _ _ _ _ _ _ _ _ _ _ _ _)); walk_at "K")
    rename Fr g L' _ _ => F5
    rename News g L' _ (_ :: _ :: _) => N5
    rename IntsAre _ (List.reverse _) => hI5
    have hl5 := hI5.length
    have hdig : ∀ x ∈ total, 0 ≤ x ∧ x < 16 := htot ▸ dgs_dig hr hr2 5 n
    refine LCg.CompSrc.ledger (by rfl) F5 N5 (.head _) (by rw [List.size_toArray, hl5, PySem.sizeLine_eq, List.length_reverse, ← hv.length]; simp only [List.size_toArray] at hsz; omega) fun g2 => ?_
    refine compRest_inv (fun i ys nw => IntsAre ys ((total.reverse.map (digC b)).take i) ∧ nw = _) _ ?_ ?_ _ 0 [] _ (Nat.zero_add _) ⟨.nil, rfl⟩
    · rintro i ys news hi ⟨hy, rfl⟩ v I oI C oC D m₂ h tk E' hP hC hx F N off ne
      obtain ⟨x, t, rfl, hxi⟩ := ints_get hI5 hP
      obtain ⟨hx0, hx1⟩ := hdig x (List.mem_reverse.mp (List.mem_of_getElem? hxi))
      clear F4 NL4 F5 N5 Fw Nw
      have hd := tab_dig (b := b) hx0 hx1
      have ht : ((total.reverse.map (digC b)).take i) ++ [digC b x] = (total.reverse.map (digC b)).take (i + 1) := (take_get (by rw [List.getElem?_map, hxi]; rfl)).symm
      cases b
      all_goals
        simp only [Bool.false_eq_true, if_false, if_true] at hd
        repeat' walk_at "K"
        rw [hd]
        refine LCg.CompEnd.intro F N _ (fun _ h => h) off (.inr ⟨_, .head _, rfl, _, rfl⟩) ⟨?_, rfl⟩
        rw [← ht]
        exact IntsAre.append hy (.cons _ _ .nil)
    · rintro ys news ⟨hy, rfl⟩ D h tk F N o1
      have hy' : IntsAre ys (lawF n r b) := by
        rw [List.size_toArray, hl5, ← htot] at hy
        rw [List.take_of_length_le (by rw [List.length_map]; exact Nat.le_refl _)] at hy
        exact hy
      exact hPQ _ _ ⟨_, _, F, N, fun b => hret _ _ _ _ _ b.fr (b.one (by k_mem)) (b.off1 (by k_mem)) hy'⟩
end
end
section
/-! ## What formatted computes -/
inductive Thg where
  | num (n : Int)
  | txt (l : List Int)
  | any
/-- the value v stands for the thing -/
noncomputable def ThIs (w : World) (h : Heap) (v : Value) : Thg → Prop
  | .num n => ∃ t, v = .int n t
  | .txt l => ∃ y dy lt ky n kq vt, v = .ref y ∧ InstH h y 200 dy (textEs w ky lt) n ∧ h.get? lt = some (listOf (List.toArray vt) kq) ∧ IntsAre vt l
  | .any => True
theorem ThIs.keeps {w : World} {h h' : Heap} {v : Value} {T : Thg} (x : ThIs w h v T) (k : ∀ b o, h.get? b = some o → h'.get? b = some o) : ThIs w h' v T := by
  cases T with
  | num n => exact x
  | any => trivial
  | txt l =>
    obtain ⟨y, dy, lt, ky, n, kq, vt, e, i, g, q⟩ := x
    exact ⟨y, dy, lt, ky, n, kq, vt, e, i.keeps k, k _ _ g, q⟩
inductive Tells : SD → Thg → List Int → Prop
  | num {d : SD} {n : Int} (hw : 0 ≤ d.width) (hw2 : d.width ≤ 100) (hp : d.prec ≤ 100) (h4 : Four d.letter) (h1 : -10000 ≤ n) (h2 : n ≤ 10000) : Tells d (.num n) (nCodes d n)
  | chr {d : SD} {n : Int} (hw : 0 ≤ d.width) (hw2 : d.width ≤ 100) (hl : d.letter = Str.ofString "c") (h1 : 0 ≤ n) (h2 : n ≤ 10000) : Tells d (.num n) (padS d.left d.width [n])
  | txt {d : SD} {l : List Int} (hw : 0 ≤ d.width) (hw2 : d.width ≤ 100) (hp : d.prec ≤ 100) (hl : d.letter = Str.ofString "s") (h1 : l.length ≤ 1000) : Tells d (.txt l) (padS d.left d.width (cutS d.prec l))
noncomputable def plc (d : SD) (nx : Int) : Int := if d.field < 0 then nx else d.field
noncomputable def Aft (ths : List Thg) (R : Int → List Int → Bool → Prop) (d : SD) (nx : Int) (out : List Int) (ok : Bool) : Prop :=
  (d.letter = Str.ofString "%" ∧ ∃ o, out = 37 :: o ∧ R nx o ok) ∨
  (d.letter = Str.ofString "q" ∧ ok = false) ∨
  (d.letter = Str.ofString "d" ∧ (ths.length : Int) ≤ plc d nx ∧ ok = false) ∨
  (d.letter = Str.ofString "d" ∧ 0 ≤ plc d nx ∧ (∃ l, ths[(plc d nx).toNat]? = some (.txt l)) ∧ ok = false) ∨
  (∃ T l o, 0 ≤ plc d nx ∧ ths[(plc d nx).toNat]? = some T ∧ Tells d T l ∧ out = l ++ o ∧ R (plc d nx + 1) o ok)
noncomputable def Run (ns : List Int) (ths : List Thg) : Nat → Nat → Int → List Int → Bool → Prop
  | 0, k, nx, out, ok => (ns.length ≤ k ∧ out = [] ∧ ok = true) ∨ (k + 1 = ns.length ∧ ns.getD k 0 = 37 ∧ ok = false)
  | f + 1, k, nx, out, ok => (k < ns.length ∧ ns.getD k 0 ≠ 37 ∧ ∃ o, out = ns.getD k 0 :: o ∧ Run ns ths f (k + 1) nx o ok) ∨
    (k < ns.length ∧ ns.getD k 0 = 37 ∧ ROk ns (k + 1) ∧ Aft ths (Run ns ths f (rsK4 ns (k + 1) + 1)) (rsSD ns (k + 1)) nx out ok)
theorem fr_sub {g h g₂ : Heap} {L : Addr} {m : Str → Option Value} (F : Fr g L h m) (G : GSub h g₂ []) : Fr g L g₂ m :=
  ⟨F.ns.at' fun o e => G _ _ e (fun q => nomatch q), fun b o e => G _ _ (F.keep b o e) (fun q => nomatch q), F.above⟩
theorem pass_on {prog : Program} {w : World} {A : Around} {E PE : Value → Shared → Prop} {s₁ : Shared} {base g hh : Heap} {outer' : List Env} {L a : Addr} {m : Str → Option Value} {name : Str} {scope : Scope} {cd : Value}
    (K : Below A base outer' g) (F : Fr g L hh m) (hEx : ∀ e s', BErr (model prog w) (A.deeper (envOf name scope L a cd)) (envOf name scope L a cd) E e s' → PE e s')
    (herr : ∀ e dx od h' tk', RaisedD base g outer' e dx od h' → g.UpToSlots h' → E (.ref e) { s₁ with heap := h', toks := tk' }) :
    ∀ g2 e dx od h' tk', GSub hh g2 [] → RaisedD base g2 (envOf name scope L a cd :: outer') e dx od h' → g2.UpToSlots h' → PE (.ref e) { s₁ with heap := h', toks := tk' } :=
  fun g2 e dx od h' tk' G R u => hEx _ _ (leave_onD K (fr_sub F G) R u fun h'' r u' => herr _ _ _ _ _ r u')
/-! ## The walk -/
section
variable {w : World} {dp un : Nat} {gd : Option (List Code)} {cn : Str} {cs : Scope} {a : Addr} {ccd : Value} {cl : List (Str × Addr)} {outer : List Env} {A₀ : Around} {base h₀ : Heap} {L : Addr}
  {m : Str → Option Value} {s : Shared} {Q E : Value → Shared → Prop} {loose : List Str} {mean : ExcName → Option Value} {mg mb : Str → Option Value} {p : Program} {news : List (Addr × Obj)}

theorem told_any_c {x dx : Addr} {d : SD} {kt : Nat → Tok} {ta tb tc td : Tok} {n₀ : Nat} {v : Value} {th : Thg} {y : List Int}
  (B : Below A₀ base outer h₀) (F : Fr h₀ L s.heap m) (X : (heapK w.params).In h₀) (N : News h₀ L s.heap news) (T : Top p loose mean mg mb h₀) (hk : cs.kind = .function)
  (hI : InstH s.heap x 58 dx (specEs w d kt ta tb tc td) n₀) (hT : Tells d th y) (hv : ThIs w s.heap v th)
  (hd : dp + 12 < recursionLimit) (hu : un + 196 < cLine)
  (hret : ∀ r ws k h' tk', Fr h₀ L h' m → News h₀ L h' ((r, listOf ws k) :: news) → LCg.Off1 r news → IntsAre ws.toList y → Q (.ref r) { s with heap := h', toks := tk' })  :
  wpAny (model PySem.Challenge.rw_np0086_01.row.prog w) (ktrTop dp un gd cn cs L a ccd cl outer) (call (.ref 540) [.ref x, v, .none]) Q E s := by
  obtain ⟨fi, le, pl, bl, no, ma, wi, pr, l⟩ := d
  cases hT with
  | num hw hw2 hpp h4 h1 h2 =>
    obtain ⟨t, rfl⟩ := hv
    exact told_num_c (ob := .none) B F X N T hk hI hw hw2 hpp h4 h1 h2 (by omega) (by omega) hret
  | chr hw hw2 hl h1 h2 =>
    obtain ⟨t, rfl⟩ := hv
    dsimp only at hl hw hw2
    subst hl
    exact told_c_c B F X N T hk hI hw (by omega) h1 h2 (by omega) (by omega) hret
  | txt hw hw2 hpp hl h1 =>
    obtain ⟨y, dy, lt, ky, n, kq, vt, rfl, hY, hT, hvt⟩ := hv
    dsimp only at hl hw hw2 hpp
    subst hl
    exact told_text_c B F X N T hk hI hw (by omega) (by omega) hY hT hvt (by rw [hvt.length]; exact h1) (by omega) (by omega) hret
theorem formatted_c {lc lt : Addr} {vs tv : List Value} {ns : List Int} {ths : List Thg} {f : Nat} {total : List Int} {ok : Bool}
  (B : Below A₀ base outer h₀) (F : Fr h₀ L s.heap m) (X : (heapK w.params).In h₀) (N : News h₀ L s.heap news) (T : Top p loose mean mg mb h₀) (hk : cs.kind = .function)
  (hl : s.heap.IsList lc vs.toArray) (hi : IntsAre vs ns) (hlen : ns.length ≤ 1000) (ht : s.heap.IsList lt tv.toArray) (hth : ∀ (i : Nat) (T : Thg), ths[i]? = some T → ∃ v, tv[i]? = some v ∧ ThIs w s.heap v T) (htl : tv.length = ths.length) (htn : tv.length ≤ 100)
  (hrun : Run ns ths f 0 0 total ok) (htot : total.length ≤ 5000)
  (hd : dp + 16 < recursionLimit) (hu : un + 228 < cLine)
  (hret : ok = true → ∀ r ws n h' tk', Fr h₀ L h' m → News h₀ L h' ((r, listOf ws n) :: news) → LCg.Off1 r news → IntsAre ws.toList total → Q (.ref r) { s with heap := h', toks := tk' })
  (herr : ok = false → ∀ g e dx od h' tk', GSub s.heap g [] → RaisedD base g (envX cn cs L a ccd cl :: outer) e dx od h' → g.UpToSlots h' → E (.ref e) { s with heap := h', toks := tk' }) :
  wpAny (model PySem.Challenge.rw_np0086_01.row.prog w) (ktrTop dp un gd cn cs L a ccd cl outer) (call (.ref 547) [.ref lc, .ref lt, .none]) Q E s := by
  (revert X; k_fill; intro X)
  k_dflt (refine enterD (binds := [("codes", .ref lc), ("things", .ref lt), ("obarray", .none)]) B F X N T [] news (fun _ h => nomatch h) (fun q hq => ⟨hq, fun h => nomatch h⟩) rfl rfl hk (by k_is) (by k_is) (by ktr_room) (BindsTo.of_eq rfl) (locs rfl) ?_ rfl rfl rfl (by decide))
  intro g L' h₁ tk PQ PE G F' N' B' X' T' hPQ hPE hEx
  set_option simprocs false in dsimp only [b547, qb547]
  have hl' := gList G hl
  have ht' := gList G ht
  have hth' : ∀ (i : Nat) (T : Thg), ths[i]? = some T → ∃ v, tv[i]? = some v ∧ ThIs w g v T := fun i T h => by
    obtain ⟨v, a, b⟩ := hth i T h
    refine ⟨v, a, ?_⟩
    cases T with
    | num n => exact b
    | any => trivial
    | txt l =>
      obtain ⟨y, dy, lt, ky, n, kq, vt, e, i, q, r⟩ := b
      exact ⟨y, dy, lt, ky, n, kq, vt, e, gInst G i, G _ _ q (by simp), r⟩
  clear B F N T X hl ht hth
  ((refine wpAny_execs_cons ?_); repeat' (first | ((with_reducible show wpAny _ _ (call (Value.ref 83) _) _ _ _); k_dflt (refine readspec_c (by k_asm) (by k_asm) (by k_asm) (by k_asm) (by k_asm) (by rfl) (by walk_at "ISLIST") (by assumption) (by assumption) (by omega) (by assumption) (by ktr_room) (by ktr_units) ?_); intro r' x' dx' kt' ta' tb' tc' td' t1' n' h' tk' F' N' o1' o2' o3' n1' n2' n3'; (try dsimp only)) | ((with_reducible show wpAny _ _ (call (Value.ref 38) _) _ _ _); k_dflt (refine sig_c (by k_asm) (by k_asm) (by k_asm) (by k_asm) (by k_asm) (by rfl) (by ktr_room) (by ktr_units) ?_); intro e' dx' od' h' tk' F' N' M'; (try dsimp only)) | walk_at "K"))
  rename Fr g L' _ _ => Fw
  rename News g L' _ _ => Nw
  refine whileA (n₀ := f) (fun n Z => ∀ (k : Nat) (nx : Int) (fd : Addr) (vf : Array Value) (kk : Nat) (fl out : List Int) (t1 t2 : Tok) h' tk' m', Fr g L' h' (over m' [(Str.ofString "found", .ref fd), (Str.ofString "at", .int k t1), (Str.ofString "next_one", .int nx t2), (Str.ofString "codes", .ref lc), (Str.ofString "things", .ref lt), (Str.ofString "obarray", .none)]) → News g L' h' [(fd, listOf vf kk)] → IntsAre vf.toList fl → fl ++ out = total → Run ns ths n k nx out ok → Z h' tk')
    (fun Z => ∀ (fd : Addr) (vf : Array Value) (kk : Nat) h' tk' m', Fr g L' h' (over m' [(Str.ofString "found", .ref fd)]) → News g L' h' [(fd, listOf vf kk)] → IntsAre vf.toList total → ok = true → Z h' tk') (fun _ _ c9 k nx fd vf kk fl out t1 t2 h' tk' m' x0 x1 x2 x3 x4 => c9 _ _ fun _ q9 => q9 k nx fd vf kk fl out t1 t2 h' tk' m' x0 x1 x2 x3 x4) ?_ ?_ ?_ hPE
  · exact fun Z hZ => hZ 0 0 _ (#[]) _ ([]) total _ _ _ _ _ (frB Fw (by rfl)) (ledA Nw (by lcg_sub)) .nil rfl hrun
  · clear Fw Nw
    intro n ZJ ZX hZJ hZX k nx fd vf kk fl out t1 t2 h₁ tk₁ m₁ F₁ NL₁ hv htt hR
    obtain ⟨vf⟩ := vf
    change IntsAre vf fl at hv
    change News g L' h₁ [(fd, listOf (List.toArray vf) kk)] at NL₁
    have ek : (k : Int).toNat = k := by omega
    have hvl := hv.length
    have hil := hi.length
    have hfl : fl.length + out.length = total.length := by rw [← htt, List.length_append]
    cases n with
    | zero =>
      rcases hR with ⟨h1, h2, h3⟩ | ⟨h1, h2, h3⟩
      · repeat' (first | ((with_reducible show wpAny _ _ (call (Value.ref 83) _) _ _ _); k_dflt (refine readspec_c (by k_asm) (by k_asm) (by k_asm) (by k_asm) (by k_asm) (by rfl) (by walk_at "ISLIST") (by assumption) (by assumption) (by omega) (by assumption) (by ktr_room) (by ktr_units) ?_); intro r' x' dx' kt' ta' tb' tc' td' t1' n' h' tk' F' N' o1' o2' o3' n1' n2' n3'; (try dsimp only)) | ((with_reducible show wpAny _ _ (call (Value.ref 38) _) _ _ _); k_dflt (refine sig_c (by k_asm) (by k_asm) (by k_asm) (by k_asm) (by k_asm) (by rfl) (by ktr_room) (by ktr_units) ?_); intro e' dx' od' h' tk' F' N' M'; (try dsimp only)) | walk_at "K")
        exact hZX _ _ _ _ _ _ (frB (by assumption) (by rfl)) (ledA (by assumption) (by lcg_sub)) (by rw [← htt, h2, List.append_nil]; exact hv) h3
      · rw [← ek] at h2
        repeat' (first | ((with_reducible show wpAny _ _ (call (Value.ref 83) _) _ _ _); k_dflt (refine readspec_c (by k_asm) (by k_asm) (by k_asm) (by k_asm) (by k_asm) (by rfl) (by walk_at "ISLIST") (by assumption) (by assumption) (by omega) (by assumption) (by ktr_room) (by ktr_units) ?_); intro r' x' dx' kt' ta' tb' tc' td' t1' n' h' tk' F' N' o1' o2' o3' n1' n2' n3'; (try dsimp only)) | ((with_reducible show wpAny _ _ (call (Value.ref 38) _) _ _ _); k_dflt (refine sig_c (by k_asm) (by k_asm) (by k_asm) (by k_asm) (by k_asm) (by rfl) (by ktr_room) (by ktr_units) ?_); intro e' dx' od' h' tk' F' N' M'; (try dsimp only)) | walk_at "K")
        ((refine wpAny_execs_cons ?_); repeat' (first | ((with_reducible show wpAny _ _ (call (Value.ref 83) _) _ _ _); k_dflt (refine readspec_c (by k_asm) (by k_asm) (by k_asm) (by k_asm) (by k_asm) (by rfl) (by walk_at "ISLIST") (by assumption) (by assumption) (by omega) (by assumption) (by ktr_room) (by ktr_units) ?_); intro r' x' dx' kt' ta' tb' tc' td' t1' n' h' tk' F' N' o1' o2' o3' n1' n2' n3'; (try dsimp only)) | ((with_reducible show wpAny _ _ (call (Value.ref 38) _) _ _ _); k_dflt (refine sig_c (by k_asm) (by k_asm) (by k_asm) (by k_asm) (by k_asm) (by rfl) (by ktr_room) (by ktr_units) ?_); intro e' dx' od' h' tk' F' N' M'; (try dsimp only)) | walk_at "K"))
        refine wpAny_execs_cons ?_
        repeat' (first | ((with_reducible show wpAny _ _ (call (Value.ref 83) _) _ _ _); k_dflt (refine readspec_c (by k_asm) (by k_asm) (by k_asm) (by k_asm) (by k_asm) (by rfl) (by walk_at "ISLIST") (by assumption) (by assumption) (by omega) (by assumption) (by ktr_room) (by ktr_units) ?_); intro r' x' dx' kt' ta' tb' tc' td' t1' n' h' tk' F' N' o1' o2' o3' n1' n2' n3'; (try dsimp only)) | ((with_reducible show wpAny _ _ (call (Value.ref 38) _) _ _ _); k_dflt (refine sig_c (by k_asm) (by k_asm) (by k_asm) (by k_asm) (by k_asm) (by rfl) (by ktr_room) (by ktr_units) ?_); intro e' dx' od' h' tk' F' N' M'; (try dsimp only)) | walk_at "K")
        refine readspec_end_c (by assumption) (by assumption) (by assumption) (by assumption) (by assumption) (by rfl) (by walk_at "ISLIST") (by assumption) (by assumption) (by omega) (by ktr_room) (by ktr_units) ?_
        exact pass_on (by assumption) (by assumption) hEx (fun e dx od h' tk' r u => herr h3 _ _ _ _ _ _ G r u)
    | succ n =>
      rcases hR with ⟨h1, h2, o, ho, hR⟩ | ⟨h1, h2, hk, ha⟩
      · rw [← ek] at h2
        repeat' (first | ((with_reducible show wpAny _ _ (call (Value.ref 83) _) _ _ _); k_dflt (refine readspec_c (by k_asm) (by k_asm) (by k_asm) (by k_asm) (by k_asm) (by rfl) (by walk_at "ISLIST") (by assumption) (by assumption) (by omega) (by assumption) (by ktr_room) (by ktr_units) ?_); intro r' x' dx' kt' ta' tb' tc' td' t1' n' h' tk' F' N' o1' o2' o3' n1' n2' n3'; (try dsimp only)) | ((with_reducible show wpAny _ _ (call (Value.ref 38) _) _ _ _); k_dflt (refine sig_c (by k_asm) (by k_asm) (by k_asm) (by k_asm) (by k_asm) (by rfl) (by ktr_room) (by ktr_units) ?_); intro e' dx' od' h' tk' F' N' M'; (try dsimp only)) | walk_at "K")
        ((refine wpAny_execs_cons ?_); repeat' (first | ((with_reducible show wpAny _ _ (call (Value.ref 83) _) _ _ _); k_dflt (refine readspec_c (by k_asm) (by k_asm) (by k_asm) (by k_asm) (by k_asm) (by rfl) (by walk_at "ISLIST") (by assumption) (by assumption) (by omega) (by assumption) (by ktr_room) (by ktr_units) ?_); intro r' x' dx' kt' ta' tb' tc' td' t1' n' h' tk' F' N' o1' o2' o3' n1' n2' n3'; (try dsimp only)) | ((with_reducible show wpAny _ _ (call (Value.ref 38) _) _ _ _); k_dflt (refine sig_c (by k_asm) (by k_asm) (by k_asm) (by k_asm) (by k_asm) (by rfl) (by ktr_room) (by ktr_units) ?_); intro e' dx' od' h' tk' F' N' M'; (try dsimp only)) | walk_at "K"))
        ((refine wpAny_execs_cons ?_); repeat' (first | ((with_reducible show wpAny _ _ (call (Value.ref 83) _) _ _ _); k_dflt (refine readspec_c (by k_asm) (by k_asm) (by k_asm) (by k_asm) (by k_asm) (by rfl) (by walk_at "ISLIST") (by assumption) (by assumption) (by omega) (by assumption) (by ktr_room) (by ktr_units) ?_); intro r' x' dx' kt' ta' tb' tc' td' t1' n' h' tk' F' N' o1' o2' o3' n1' n2' n3'; (try dsimp only)) | ((with_reducible show wpAny _ _ (call (Value.ref 38) _) _ _ _); k_dflt (refine sig_c (by k_asm) (by k_asm) (by k_asm) (by k_asm) (by k_asm) (by rfl) (by ktr_room) (by ktr_units) ?_); intro e' dx' od' h' tk' F' N' M'; (try dsimp only)) | walk_at "K"))
        ((refine wpAny_execs_cons ?_); repeat' (first | ((with_reducible show wpAny _ _ (call (Value.ref 83) _) _ _ _); k_dflt (refine readspec_c (by k_asm) (by k_asm) (by k_asm) (by k_asm) (by k_asm) (by rfl) (by walk_at "ISLIST") (by assumption) (by assumption) (by omega) (by assumption) (by ktr_room) (by ktr_units) ?_); intro r' x' dx' kt' ta' tb' tc' td' t1' n' h' tk' F' N' o1' o2' o3' n1' n2' n3'; (try dsimp only)) | ((with_reducible show wpAny _ _ (call (Value.ref 38) _) _ _ _); k_dflt (refine sig_c (by k_asm) (by k_asm) (by k_asm) (by k_asm) (by k_asm) (by rfl) (by ktr_room) (by ktr_units) ?_); intro e' dx' od' h' tk' F' N' M'; (try dsimp only)) | walk_at "K"))
        ((refine wpAny_execs_cons ?_); repeat' (first | ((with_reducible show wpAny _ _ (call (Value.ref 83) _) _ _ _); k_dflt (refine readspec_c (by k_asm) (by k_asm) (by k_asm) (by k_asm) (by k_asm) (by rfl) (by walk_at "ISLIST") (by assumption) (by assumption) (by omega) (by assumption) (by ktr_room) (by ktr_units) ?_); intro r' x' dx' kt' ta' tb' tc' td' t1' n' h' tk' F' N' o1' o2' o3' n1' n2' n3'; (try dsimp only)) | ((with_reducible show wpAny _ _ (call (Value.ref 38) _) _ _ _); k_dflt (refine sig_c (by k_asm) (by k_asm) (by k_asm) (by k_asm) (by k_asm) (by rfl) (by ktr_room) (by ktr_units) ?_); intro e' dx' od' h' tk' F' N' M'; (try dsimp only)) | walk_at "K"))
        exact hZJ n (by omega) (k + 1) nx fd _ _ (fl ++ [ns.getD k 0]) o _ _ _ _ _ (frB (by assumption) (by rfl)) (ledA (by assumption) (by lcg_sub)) (by rw [Array.toList_push]; exact IntsAre.append hv (ek ▸ .cons _ _ .nil)) (by rw [← htt, ho, List.append_assoc]; rfl) hR
      · rw [← ek] at h2
        repeat' (first | ((with_reducible show wpAny _ _ (call (Value.ref 83) _) _ _ _); k_dflt (refine readspec_c (by k_asm) (by k_asm) (by k_asm) (by k_asm) (by k_asm) (by rfl) (by walk_at "ISLIST") (by assumption) (by assumption) (by omega) (by assumption) (by ktr_room) (by ktr_units) ?_); intro r' x' dx' kt' ta' tb' tc' td' t1' n' h' tk' F' N' o1' o2' o3' n1' n2' n3'; (try dsimp only)) | ((with_reducible show wpAny _ _ (call (Value.ref 38) _) _ _ _); k_dflt (refine sig_c (by k_asm) (by k_asm) (by k_asm) (by k_asm) (by k_asm) (by rfl) (by ktr_room) (by ktr_units) ?_); intro e' dx' od' h' tk' F' N' M'; (try dsimp only)) | walk_at "K")
        ((refine wpAny_execs_cons ?_); repeat' (first | ((with_reducible show wpAny _ _ (call (Value.ref 83) _) _ _ _); k_dflt (refine readspec_c (by k_asm) (by k_asm) (by k_asm) (by k_asm) (by k_asm) (by rfl) (by walk_at "ISLIST") (by assumption) (by assumption) (by omega) (by assumption) (by ktr_room) (by ktr_units) ?_); intro r' x' dx' kt' ta' tb' tc' td' t1' n' h' tk' F' N' o1' o2' o3' n1' n2' n3'; (try dsimp only)) | ((with_reducible show wpAny _ _ (call (Value.ref 38) _) _ _ _); k_dflt (refine sig_c (by k_asm) (by k_asm) (by k_asm) (by k_asm) (by k_asm) (by rfl) (by ktr_room) (by ktr_units) ?_); intro e' dx' od' h' tk' F' N' M'; (try dsimp only)) | walk_at "K"))
        refine cutA (fun Z => ∀ (x dx : Addr) (kt : Nat → Tok) (ta tb tc td t1 : Tok) h' tk' m', Fr g L' h' (over m' [(Str.ofString "spec", .ref x), (Str.ofString "at", .int (rsK4 ns (k + 1) + 1) t1), (Str.ofString "found", .ref fd), (Str.ofString "next_one", .int nx t2), (Str.ofString "codes", .ref lc), (Str.ofString "things", .ref lt), (Str.ofString "obarray", .none)]) → News g L' h' [(fd, listOf vf.toArray kk), (x, instO 58 dx), (dx, dictOf (specEs w (rsSD ns (k + 1)) kt ta tb tc td) 9)] → @Ne Nat x fd → @Ne Nat dx fd → Z h' tk') ?_ ?_
        · intro Z hZ
          repeat' (first | ((with_reducible show wpAny _ _ (call (Value.ref 83) _) _ _ _); k_dflt (refine readspec_c (by k_asm) (by k_asm) (by k_asm) (by k_asm) (by k_asm) (by rfl) (by walk_at "ISLIST") (by assumption) (by assumption) (by omega) (by assumption) (by ktr_room) (by ktr_units) ?_); intro r' x' dx' kt' ta' tb' tc' td' t1' n' h' tk' F' N' o1' o2' o3' n1' n2' n3'; (try dsimp only)) | ((with_reducible show wpAny _ _ (call (Value.ref 38) _) _ _ _); k_dflt (refine sig_c (by k_asm) (by k_asm) (by k_asm) (by k_asm) (by k_asm) (by rfl) (by ktr_room) (by ktr_units) ?_); intro e' dx' od' h' tk' F' N' M'; (try dsimp only)) | walk_at "K")
          try
            refine readspec_c (k := k + 1) (by assumption) (by assumption) (by assumption) (by assumption) (by assumption) (by rfl) (by walk_at "ISLIST") (by assumption) (by assumption) (by omega) hk (by ktr_room) (by ktr_units) ?_
            intro r' x' dx' kt' ta' tb' tc' td' t1' n' h' tk' F' N' o1' o2' o3' n1' n2' n3'
          (try dsimp only)
          repeat' (first | ((with_reducible show wpAny _ _ (call (Value.ref 83) _) _ _ _); k_dflt (refine readspec_c (by k_asm) (by k_asm) (by k_asm) (by k_asm) (by k_asm) (by rfl) (by walk_at "ISLIST") (by assumption) (by assumption) (by omega) (by assumption) (by ktr_room) (by ktr_units) ?_); intro r' x' dx' kt' ta' tb' tc' td' t1' n' h' tk' F' N' o1' o2' o3' n1' n2' n3'; (try dsimp only)) | ((with_reducible show wpAny _ _ (call (Value.ref 38) _) _ _ _); k_dflt (refine sig_c (by k_asm) (by k_asm) (by k_asm) (by k_asm) (by k_asm) (by rfl) (by ktr_room) (by ktr_units) ?_); intro e' dx' od' h' tk' F' N' M'; (try dsimp only)) | walk_at "K")
          exact hZ x' dx' kt' _ _ _ _ _ _ _ _ (frB (by assumption) (by rfl)) (ledA (by assumption) (by lcg_sub)) (Ne.symm o2'.1) (Ne.symm o3'.1)
        (try clear F₁ NL₁)
        intro x dx kt ta tb tc td t1 h5 tk5 m5 F5 NL5 hxf hdf
        unfold Aft at ha
        generalize hd' : rsSD ns (k + 1) = d at ha NL5
        clear hd'
        obtain ⟨fi, le, pl, bl, no, ma, wi, pr, l⟩ := d
        rcases ha with ⟨hle, o, ho, hR⟩ | ⟨hle, hok⟩ | ⟨hle, hp, hok⟩ | ⟨hle, hp, ⟨y, hy⟩, hok⟩ | ⟨T, y, o, hp, hT, hTl, ho, hR⟩
        · subst hle
          ((refine wpAny_execs_cons ?_); repeat' (first | ((with_reducible show wpAny _ _ (call (Value.ref 83) _) _ _ _); k_dflt (refine readspec_c (by k_asm) (by k_asm) (by k_asm) (by k_asm) (by k_asm) (by rfl) (by walk_at "ISLIST") (by assumption) (by assumption) (by omega) (by assumption) (by ktr_room) (by ktr_units) ?_); intro r' x' dx' kt' ta' tb' tc' td' t1' n' h' tk' F' N' o1' o2' o3' n1' n2' n3'; (try dsimp only)) | ((with_reducible show wpAny _ _ (call (Value.ref 38) _) _ _ _); k_dflt (refine sig_c (by k_asm) (by k_asm) (by k_asm) (by k_asm) (by k_asm) (by rfl) (by ktr_room) (by ktr_units) ?_); intro e' dx' od' h' tk' F' N' M'; (try dsimp only)) | walk_at "K"))
          ((refine wpAny_execs_cons ?_); repeat' (first | ((with_reducible show wpAny _ _ (call (Value.ref 83) _) _ _ _); k_dflt (refine readspec_c (by k_asm) (by k_asm) (by k_asm) (by k_asm) (by k_asm) (by rfl) (by walk_at "ISLIST") (by assumption) (by assumption) (by omega) (by assumption) (by ktr_room) (by ktr_units) ?_); intro r' x' dx' kt' ta' tb' tc' td' t1' n' h' tk' F' N' o1' o2' o3' n1' n2' n3'; (try dsimp only)) | ((with_reducible show wpAny _ _ (call (Value.ref 38) _) _ _ _); k_dflt (refine sig_c (by k_asm) (by k_asm) (by k_asm) (by k_asm) (by k_asm) (by rfl) (by ktr_room) (by ktr_units) ?_); intro e' dx' od' h' tk' F' N' M'; (try dsimp only)) | walk_at "K"))
          exact hZJ n (by omega) (rsK4 ns (k + 1) + 1) nx fd _ _ (fl ++ [37]) o _ _ _ _ _ (frB (by assumption) (by rfl)) (ledA (by assumption) (by lcg_sub)) (by rw [Array.toList_push]; exact IntsAre.append hv (.cons _ _ .nil)) (by rw [← htt, ho, List.append_assoc]; rfl) hR
        · subst hle
          have hc : (Builtin.Str.occurrences (Str.ofString "sSdoxXc") (Str.ofString "q") 0 (Str.ofString "sSdoxXc").length 1).isEmpty = true := by decide +kernel
          ((refine wpAny_execs_cons ?_); repeat' (first | ((with_reducible show wpAny _ _ (call (Value.ref 83) _) _ _ _); k_dflt (refine readspec_c (by k_asm) (by k_asm) (by k_asm) (by k_asm) (by k_asm) (by rfl) (by walk_at "ISLIST") (by assumption) (by assumption) (by omega) (by assumption) (by ktr_room) (by ktr_units) ?_); intro r' x' dx' kt' ta' tb' tc' td' t1' n' h' tk' F' N' o1' o2' o3' n1' n2' n3'; (try dsimp only)) | ((with_reducible show wpAny _ _ (call (Value.ref 38) _) _ _ _); k_dflt (refine sig_c (by k_asm) (by k_asm) (by k_asm) (by k_asm) (by k_asm) (by rfl) (by ktr_room) (by ktr_units) ?_); intro e' dx' od' h' tk' F' N' M'; (try dsimp only)) | walk_at "K"))
          ((refine wpAny_execs_cons ?_); repeat' (first | ((with_reducible show wpAny _ _ (call (Value.ref 83) _) _ _ _); k_dflt (refine readspec_c (by k_asm) (by k_asm) (by k_asm) (by k_asm) (by k_asm) (by rfl) (by walk_at "ISLIST") (by assumption) (by assumption) (by omega) (by assumption) (by ktr_room) (by ktr_units) ?_); intro r' x' dx' kt' ta' tb' tc' td' t1' n' h' tk' F' N' o1' o2' o3' n1' n2' n3'; (try dsimp only)) | ((with_reducible show wpAny _ _ (call (Value.ref 38) _) _ _ _); k_dflt (refine sig_c (by k_asm) (by k_asm) (by k_asm) (by k_asm) (by k_asm) (by rfl) (by ktr_room) (by ktr_units) ?_); intro e' dx' od' h' tk' F' N' M'; (try dsimp only)) | walk_at "K"))
          · refine wpAny_execs_cons ?_
            refine raise_D (by rfl) ?_
            repeat' (first | ((with_reducible show wpAny _ _ (call (Value.ref 83) _) _ _ _); k_dflt (refine readspec_c (by k_asm) (by k_asm) (by k_asm) (by k_asm) (by k_asm) (by rfl) (by walk_at "ISLIST") (by assumption) (by assumption) (by omega) (by assumption) (by ktr_room) (by ktr_units) ?_); intro r' x' dx' kt' ta' tb' tc' td' t1' n' h' tk' F' N' o1' o2' o3' n1' n2' n3'; (try dsimp only)) | ((with_reducible show wpAny _ _ (call (Value.ref 38) _) _ _ _); k_dflt (refine sig_c (by k_asm) (by k_asm) (by k_asm) (by k_asm) (by k_asm) (by rfl) (by ktr_room) (by ktr_units) ?_); intro e' dx' od' h' tk' F' N' M'; (try dsimp only)) | walk_at "K")
            rename MadeD _ _ _ _ _ _ => M'
            exact raise_close (by assumption) (by assumption) (by assumption) M' hEx (fun h' r u => herr hok _ _ _ _ _ _ G r u)
          · exact absurd (hc.symm.trans (by assumption)) (by decide)
        · subst hle
          have hc : (Builtin.Str.occurrences (Str.ofString "sSdoxXc") (Str.ofString "d") 0 (Str.ofString "sSdoxXc").length 1).isEmpty = false := by decide +kernel
          ((refine wpAny_execs_cons ?_); repeat' (first | ((with_reducible show wpAny _ _ (call (Value.ref 83) _) _ _ _); k_dflt (refine readspec_c (by k_asm) (by k_asm) (by k_asm) (by k_asm) (by k_asm) (by rfl) (by walk_at "ISLIST") (by assumption) (by assumption) (by omega) (by assumption) (by ktr_room) (by ktr_units) ?_); intro r' x' dx' kt' ta' tb' tc' td' t1' n' h' tk' F' N' o1' o2' o3' n1' n2' n3'; (try dsimp only)) | ((with_reducible show wpAny _ _ (call (Value.ref 38) _) _ _ _); k_dflt (refine sig_c (by k_asm) (by k_asm) (by k_asm) (by k_asm) (by k_asm) (by rfl) (by ktr_room) (by ktr_units) ?_); intro e' dx' od' h' tk' F' N' M'; (try dsimp only)) | walk_at "K"))
          ((refine wpAny_execs_cons ?_); repeat' (first | ((with_reducible show wpAny _ _ (call (Value.ref 83) _) _ _ _); k_dflt (refine readspec_c (by k_asm) (by k_asm) (by k_asm) (by k_asm) (by k_asm) (by rfl) (by walk_at "ISLIST") (by assumption) (by assumption) (by omega) (by assumption) (by ktr_room) (by ktr_units) ?_); intro r' x' dx' kt' ta' tb' tc' td' t1' n' h' tk' F' N' o1' o2' o3' n1' n2' n3'; (try dsimp only)) | ((with_reducible show wpAny _ _ (call (Value.ref 38) _) _ _ _); k_dflt (refine sig_c (by k_asm) (by k_asm) (by k_asm) (by k_asm) (by k_asm) (by rfl) (by ktr_room) (by ktr_units) ?_); intro e' dx' od' h' tk' F' N' M'; (try dsimp only)) | walk_at "K"))
          · exact absurd (hc.symm.trans (by assumption)) (by decide)
          · refine wpAny_execs_cons ?_
            repeat' (first | ((with_reducible show wpAny _ _ (call (Value.ref 83) _) _ _ _); k_dflt (refine readspec_c (by k_asm) (by k_asm) (by k_asm) (by k_asm) (by k_asm) (by rfl) (by walk_at "ISLIST") (by assumption) (by assumption) (by omega) (by assumption) (by ktr_room) (by ktr_units) ?_); intro r' x' dx' kt' ta' tb' tc' td' t1' n' h' tk' F' N' o1' o2' o3' n1' n2' n3'; (try dsimp only)) | ((with_reducible show wpAny _ _ (call (Value.ref 38) _) _ _ _); k_dflt (refine sig_c (by k_asm) (by k_asm) (by k_asm) (by k_asm) (by k_asm) (by rfl) (by ktr_room) (by ktr_units) ?_); intro e' dx' od' h' tk' F' N' M'; (try dsimp only)) | walk_at "K")
            refine thingfor_end_c (v := .none) (pc := plc ⟨fi, le, pl, bl, no, ma, wi, pr, Str.ofString "d"⟩ nx) (by assumption) (by assumption) (by assumption) (by assumption) (by assumption) (by rfl) (hI := ⟨(NL5 _ (.tail _ (.head _))).1, (NL5 _ (.tail _ (.tail _ (.head _)))).1⟩) (hl := by walk_at "ISLIST") (by rfl) (by rw [htl]; exact hp) (by assumption) (by ktr_room) (by ktr_units) ?_
            exact pass_on (by assumption) (by assumption) hEx (fun e dx od h' tk' r u => herr hok _ _ _ _ _ _ G r u)
        · subst hle
          have hc : (Builtin.Str.occurrences (Str.ofString "sSdoxXc") (Str.ofString "d") 0 (Str.ofString "sSdoxXc").length 1).isEmpty = false := by decide +kernel
          obtain ⟨v, hv1, yy, dy, ltt, ky, nn, kq, vt, rfl, hY, hT, hvt⟩ := hth' _ _ hy
          ((refine wpAny_execs_cons ?_); repeat' (first | ((with_reducible show wpAny _ _ (call (Value.ref 83) _) _ _ _); k_dflt (refine readspec_c (by k_asm) (by k_asm) (by k_asm) (by k_asm) (by k_asm) (by rfl) (by walk_at "ISLIST") (by assumption) (by assumption) (by omega) (by assumption) (by ktr_room) (by ktr_units) ?_); intro r' x' dx' kt' ta' tb' tc' td' t1' n' h' tk' F' N' o1' o2' o3' n1' n2' n3'; (try dsimp only)) | ((with_reducible show wpAny _ _ (call (Value.ref 38) _) _ _ _); k_dflt (refine sig_c (by k_asm) (by k_asm) (by k_asm) (by k_asm) (by k_asm) (by rfl) (by ktr_room) (by ktr_units) ?_); intro e' dx' od' h' tk' F' N' M'; (try dsimp only)) | walk_at "K"))
          ((refine wpAny_execs_cons ?_); repeat' (first | ((with_reducible show wpAny _ _ (call (Value.ref 83) _) _ _ _); k_dflt (refine readspec_c (by k_asm) (by k_asm) (by k_asm) (by k_asm) (by k_asm) (by rfl) (by walk_at "ISLIST") (by assumption) (by assumption) (by omega) (by assumption) (by ktr_room) (by ktr_units) ?_); intro r' x' dx' kt' ta' tb' tc' td' t1' n' h' tk' F' N' o1' o2' o3' n1' n2' n3'; (try dsimp only)) | ((with_reducible show wpAny _ _ (call (Value.ref 38) _) _ _ _); k_dflt (refine sig_c (by k_asm) (by k_asm) (by k_asm) (by k_asm) (by k_asm) (by rfl) (by ktr_room) (by ktr_units) ?_); intro e' dx' od' h' tk' F' N' M'; (try dsimp only)) | walk_at "K"))
          · exact absurd (hc.symm.trans (by assumption)) (by decide)
          · refine wpAny_execs_cons ?_
            repeat' (first | ((with_reducible show wpAny _ _ (call (Value.ref 83) _) _ _ _); k_dflt (refine readspec_c (by k_asm) (by k_asm) (by k_asm) (by k_asm) (by k_asm) (by rfl) (by walk_at "ISLIST") (by assumption) (by assumption) (by omega) (by assumption) (by ktr_room) (by ktr_units) ?_); intro r' x' dx' kt' ta' tb' tc' td' t1' n' h' tk' F' N' o1' o2' o3' n1' n2' n3'; (try dsimp only)) | ((with_reducible show wpAny _ _ (call (Value.ref 38) _) _ _ _); k_dflt (refine sig_c (by k_asm) (by k_asm) (by k_asm) (by k_asm) (by k_asm) (by rfl) (by ktr_room) (by ktr_units) ?_); intro e' dx' od' h' tk' F' N' M'; (try dsimp only)) | walk_at "K")
            refine thingfor_c (pc := plc ⟨fi, le, pl, bl, no, ma, wi, pr, Str.ofString "d"⟩ nx) (by assumption) (by assumption) (by assumption) (by assumption) (by assumption) (by rfl) (hI := ⟨(NL5 _ (.tail _ (.head _))).1, (NL5 _ (.tail _ (.tail _ (.head _)))).1⟩) (hl := by walk_at "ISLIST") (by rfl) hp hv1 (by assumption) (by ktr_room) (by ktr_units) ?_
            intro r' t1' n' h' tk' F' N' o1'
            (try dsimp only)
            repeat' (first | ((with_reducible show wpAny _ _ (call (Value.ref 83) _) _ _ _); k_dflt (refine readspec_c (by k_asm) (by k_asm) (by k_asm) (by k_asm) (by k_asm) (by rfl) (by walk_at "ISLIST") (by assumption) (by assumption) (by omega) (by assumption) (by ktr_room) (by ktr_units) ?_); intro r' x' dx' kt' ta' tb' tc' td' t1' n' h' tk' F' N' o1' o2' o3' n1' n2' n3'; (try dsimp only)) | ((with_reducible show wpAny _ _ (call (Value.ref 38) _) _ _ _); k_dflt (refine sig_c (by k_asm) (by k_asm) (by k_asm) (by k_asm) (by k_asm) (by rfl) (by ktr_room) (by ktr_units) ?_); intro e' dx' od' h' tk' F' N' M'; (try dsimp only)) | walk_at "K")
            refine wpAny_execs_cons ?_
            repeat' (first | ((with_reducible show wpAny _ _ (call (Value.ref 83) _) _ _ _); k_dflt (refine readspec_c (by k_asm) (by k_asm) (by k_asm) (by k_asm) (by k_asm) (by rfl) (by walk_at "ISLIST") (by assumption) (by assumption) (by omega) (by assumption) (by ktr_room) (by ktr_units) ?_); intro r' x' dx' kt' ta' tb' tc' td' t1' n' h' tk' F' N' o1' o2' o3' n1' n2' n3'; (try dsimp only)) | ((with_reducible show wpAny _ _ (call (Value.ref 38) _) _ _ _); k_dflt (refine sig_c (by k_asm) (by k_asm) (by k_asm) (by k_asm) (by k_asm) (by rfl) (by ktr_room) (by ktr_units) ?_); intro e' dx' od' h' tk' F' N' M'; (try dsimp only)) | walk_at "K")
            rename Fr g L' _ _ => Fw
            rename News g L' _ _ => Nw
            refine told_err_c (by assumption) Fw (by assumption) Nw (by assumption) (by rfl) (hI := ⟨(Nw (x, _) (by k_mem)).1, (Nw (dx, _) (by k_mem)).1⟩) (hY.keeps Fw.keep) (by ktr_room) (by ktr_units) ?_
            exact pass_on (by assumption) Fw hEx (fun e dx od h' tk' r u => herr hok _ _ _ _ _ _ G r u)
        · have key : (l == ({ cps := #[Int.toNat 37] } : Str)) = false ∧ (Builtin.Str.occurrences (Str.ofString "sSdoxXc") l 0 (Str.ofString "sSdoxXc").length 1).isEmpty = false := by
            cases hTl with
            | num hw hw2 hpp h4 h1 h2 =>
              unfold Four at h4
              dsimp only at h4
              rcases h4 with rfl | rfl | rfl | rfl <;> decide +kernel
            | chr hw hw2 hl h1 h2 => dsimp only at hl; subst hl; decide +kernel
            | txt hw hw2 hpp hl h1 => dsimp only at hl; subst hl; decide +kernel
          obtain ⟨hc1, hc⟩ := key
          obtain ⟨v, hv1, hv2⟩ := hth' _ _ hT
          refine cutA (fun Z => ∀ (fd' : Addr) (ws : Array Value) (k2 : Nat) (t3 t4 : Tok) h' tk' m', Fr g L' h' (over m' [(Str.ofString "found", .ref fd'), (Str.ofString "at", .int (rsK4 ns (k + 1) + 1) t3), (Str.ofString "next_one", .int (plc ⟨fi, le, pl, bl, no, ma, wi, pr, l⟩ nx + 1) t4), (Str.ofString "codes", .ref lc), (Str.ofString "things", .ref lt), (Str.ofString "obarray", .none)]) → News g L' h' [(fd', listOf ws k2)] → IntsAre ws.toList (fl ++ y) → Z h' tk') ?_ ?_
          · intro Z hZ
            repeat' (first | ((with_reducible show wpAny _ _ (call (Value.ref 83) _) _ _ _); k_dflt (refine readspec_c (by k_asm) (by k_asm) (by k_asm) (by k_asm) (by k_asm) (by rfl) (by walk_at "ISLIST") (by assumption) (by assumption) (by omega) (by assumption) (by ktr_room) (by ktr_units) ?_); intro r' x' dx' kt' ta' tb' tc' td' t1' n' h' tk' F' N' o1' o2' o3' n1' n2' n3'; (try dsimp only)) | ((with_reducible show wpAny _ _ (call (Value.ref 38) _) _ _ _); k_dflt (refine sig_c (by k_asm) (by k_asm) (by k_asm) (by k_asm) (by k_asm) (by rfl) (by ktr_room) (by ktr_units) ?_); intro e' dx' od' h' tk' F' N' M'; (try dsimp only)) | walk_at "K")
            ((refine wpAny_execs_cons ?_); repeat' (first | ((with_reducible show wpAny _ _ (call (Value.ref 83) _) _ _ _); k_dflt (refine readspec_c (by k_asm) (by k_asm) (by k_asm) (by k_asm) (by k_asm) (by rfl) (by walk_at "ISLIST") (by assumption) (by assumption) (by omega) (by assumption) (by ktr_room) (by ktr_units) ?_); intro r' x' dx' kt' ta' tb' tc' td' t1' n' h' tk' F' N' o1' o2' o3' n1' n2' n3'; (try dsimp only)) | ((with_reducible show wpAny _ _ (call (Value.ref 38) _) _ _ _); k_dflt (refine sig_c (by k_asm) (by k_asm) (by k_asm) (by k_asm) (by k_asm) (by rfl) (by ktr_room) (by ktr_units) ?_); intro e' dx' od' h' tk' F' N' M'; (try dsimp only)) | walk_at "K"))
            refine wpAny_execs_cons ?_
            repeat' (first | ((with_reducible show wpAny _ _ (call (Value.ref 83) _) _ _ _); k_dflt (refine readspec_c (by k_asm) (by k_asm) (by k_asm) (by k_asm) (by k_asm) (by rfl) (by walk_at "ISLIST") (by assumption) (by assumption) (by omega) (by assumption) (by ktr_room) (by ktr_units) ?_); intro r' x' dx' kt' ta' tb' tc' td' t1' n' h' tk' F' N' o1' o2' o3' n1' n2' n3'; (try dsimp only)) | ((with_reducible show wpAny _ _ (call (Value.ref 38) _) _ _ _); k_dflt (refine sig_c (by k_asm) (by k_asm) (by k_asm) (by k_asm) (by k_asm) (by rfl) (by ktr_room) (by ktr_units) ?_); intro e' dx' od' h' tk' F' N' M'; (try dsimp only)) | walk_at "K")
            refine thingfor_c (pc := plc ⟨fi, le, pl, bl, no, ma, wi, pr, l⟩ nx) (by assumption) (by assumption) (by assumption) (by assumption) (by assumption) (by rfl) (hI := ⟨(NL5 _ (.tail _ (.head _))).1, (NL5 _ (.tail _ (.tail _ (.head _)))).1⟩) (hl := by walk_at "ISLIST") (by rfl) hp hv1 (by assumption) (by ktr_room) (by ktr_units) ?_
            intro r' t1' n' h' tk' F' N' o1'
            (try dsimp only)
            repeat' (first | ((with_reducible show wpAny _ _ (call (Value.ref 83) _) _ _ _); k_dflt (refine readspec_c (by k_asm) (by k_asm) (by k_asm) (by k_asm) (by k_asm) (by rfl) (by walk_at "ISLIST") (by assumption) (by assumption) (by omega) (by assumption) (by ktr_room) (by ktr_units) ?_); intro r' x' dx' kt' ta' tb' tc' td' t1' n' h' tk' F' N' o1' o2' o3' n1' n2' n3'; (try dsimp only)) | ((with_reducible show wpAny _ _ (call (Value.ref 38) _) _ _ _); k_dflt (refine sig_c (by k_asm) (by k_asm) (by k_asm) (by k_asm) (by k_asm) (by rfl) (by ktr_room) (by ktr_units) ?_); intro e' dx' od' h' tk' F' N' M'; (try dsimp only)) | walk_at "K")
            refine wpAny_execs_cons ?_
            repeat' (first | ((with_reducible show wpAny _ _ (call (Value.ref 83) _) _ _ _); k_dflt (refine readspec_c (by k_asm) (by k_asm) (by k_asm) (by k_asm) (by k_asm) (by rfl) (by walk_at "ISLIST") (by assumption) (by assumption) (by omega) (by assumption) (by ktr_room) (by ktr_units) ?_); intro r' x' dx' kt' ta' tb' tc' td' t1' n' h' tk' F' N' o1' o2' o3' n1' n2' n3'; (try dsimp only)) | ((with_reducible show wpAny _ _ (call (Value.ref 38) _) _ _ _); k_dflt (refine sig_c (by k_asm) (by k_asm) (by k_asm) (by k_asm) (by k_asm) (by rfl) (by ktr_room) (by ktr_units) ?_); intro e' dx' od' h' tk' F' N' M'; (try dsimp only)) | walk_at "K")
            rename Fr g L' _ _ => Fw
            rename News g L' _ _ => Nw
            refine told_any_c (by assumption) Fw (by assumption) Nw (by assumption) (by rfl) (hI := ⟨(Nw (x, _) (by k_mem)).1, (Nw (dx, _) (by k_mem)).1⟩) hTl (hv2.keeps Fw.keep) (by ktr_room) (by ktr_units) ?_
            rintro r2 ⟨ws⟩ k2 h2 tk2 F2 N2 o2 hI2
            change IntsAre ws y at hI2
            change News g L' h2 ((r2, listOf (List.toArray ws) k2) :: _) at N2
            have hyl := hI2.length
            have hol : out.length = y.length + o.length := by rw [ho, List.length_append]
            (try dsimp only)
            repeat' (first | ((with_reducible show wpAny _ _ (call (Value.ref 83) _) _ _ _); k_dflt (refine readspec_c (by k_asm) (by k_asm) (by k_asm) (by k_asm) (by k_asm) (by rfl) (by walk_at "ISLIST") (by assumption) (by assumption) (by omega) (by assumption) (by ktr_room) (by ktr_units) ?_); intro r' x' dx' kt' ta' tb' tc' td' t1' n' h' tk' F' N' o1' o2' o3' n1' n2' n3'; (try dsimp only)) | ((with_reducible show wpAny _ _ (call (Value.ref 38) _) _ _ _); k_dflt (refine sig_c (by k_asm) (by k_asm) (by k_asm) (by k_asm) (by k_asm) (by rfl) (by ktr_room) (by ktr_units) ?_); intro e' dx' od' h' tk' F' N' M'; (try dsimp only)) | walk_at "K")
            exact hZ _ _ _ _ _ _ _ _ (frB (by assumption) (by rfl)) (ledA (by assumption) (by lcg_sub)) (by assumption)
          (try clear F5 NL5)
          intro fd' ws k2 t3 t4 h6 tk6 m6 F6 NL6 hI2
          refine wpAny_execs_nil ?_
          exact hZJ n (by omega) (rsK4 ns (k + 1) + 1) _ fd' ws k2 (fl ++ y) o _ _ _ _ _ (frB (by assumption) (by rfl)) (ledA (by assumption) (by lcg_sub)) hI2 (by rw [← htt, ho, List.append_assoc]) hR
  · skip
    intro fd vf kk h4 tk4 m4 F4 NL4 hv hok
    ((refine wpAny_execs_cons ?_); repeat' (first | ((with_reducible show wpAny _ _ (call (Value.ref 83) _) _ _ _); k_dflt (refine readspec_c (by k_asm) (by k_asm) (by k_asm) (by k_asm) (by k_asm) (by rfl) (by walk_at "ISLIST") (by assumption) (by assumption) (by omega) (by assumption) (by ktr_room) (by ktr_units) ?_); intro r' x' dx' kt' ta' tb' tc' td' t1' n' h' tk' F' N' o1' o2' o3' n1' n2' n3'; (try dsimp only)) | ((with_reducible show wpAny _ _ (call (Value.ref 38) _) _ _ _); k_dflt (refine sig_c (by k_asm) (by k_asm) (by k_asm) (by k_asm) (by k_asm) (by rfl) (by ktr_room) (by ktr_units) ?_); intro e' dx' od' h' tk' F' N' M'; (try dsimp only)) | walk_at "K"))
    exact hPQ _ _ ⟨_, _, by assumption, by assumption, fun b => hret hok _ _ _ _ _ b.fr (b.one (by k_mem)) (b.off1 (by k_mem)) hv⟩
end
end
section
theorem sgn_append (a b : Str) : sgn (a ++ b) = sgn a ++ sgn b := by
  unfold sgn
  rw [PySem.Str.cps_append, Array.toList_append, List.map_append]
noncomputable abbrev occ (fl : Str) (c : String) : Bool := (Builtin.Str.occurrences fl (Str.ofString c) 0 fl.length 1).isEmpty
section
variable {w : World} {dp un : Nat} {gd : Option (List Code)} {cn : Str} {cs : Scope} {a : Addr} {ccd : Value} {cl : List (Str × Addr)} {outer : List Env} {A₀ : Around} {base h₀ : Heap} {L : Addr}
  {m : Str → Option Value} {s : Shared} {Q E : Value → Shared → Prop} {loose : List Str} {mean : ExcName → Option Value} {mg mb : Str → Option Value} {p : Program} {news : List (Addr × Obj)}

theorem lnum_c {n : Int} {tn tl tf tw ts : Tok} {l fl : Str} {wi sz : Int} {le pl bl no ma : Bool}
  (B : Below A₀ base outer h₀) (F : Fr h₀ L s.heap m) (X : (heapK w.params).In h₀) (N : News h₀ L s.heap news) (T : Top p loose mean mg mb h₀) (hk : cs.kind = .function)
  (hn1 : -1000 ≤ n) (hn2 : n ≤ 1000) (hl4 : Four l) (hw : 0 ≤ wi) (hw2 : wi ≤ 100) (hs : -2 ≤ sz) (hs2 : sz ≤ 100) (hfl : fl.length ≤ 100)
  (hle : le = !occ fl "-") (hpl : pl = !occ fl "+") (hbl : bl = !occ fl " ") (hno : no = !occ fl "0") (hma : ma = !occ fl "#")
  (hfig : lawF (if n < 0 then -n else n) (rdx l) (l == Str.ofString "X") = figS (if n < 0 then -n else n) l)
  (hd : dp + 3 < recursionLimit) (hu : un + 124 < cLine)
  (hret : ∀ r ws k h' tk', Fr h₀ L h' m → News h₀ L h' ((r, listOf ws k) :: news) → LCg.Off1 r news → IntsAre ws.toList (nCodes ⟨-1, le, pl, bl, no, ma, wi, sz, l⟩ n) → Q (.ref r) { s with heap := h', toks := tk' })  :
  wpAny (model PySem.Challenge.rw_np0086_01.row.prog w) (ktrTop dp un gd cn cs L a ccd cl outer) (call (.ref 583) [.int n tn, .str l tl, .str fl tf, .int wi tw, .int sz ts]) Q E s := by
  (revert X; k_fill; intro X)
  k_dflt (refine enterD (binds := [("number", .int n tn), ("letter", .str l tl), ("flags", .str fl tf), ("width", .int wi tw), ("size", .int sz ts)]) B F X N T [] news (fun _ h => nomatch h) (fun q hq => ⟨hq, fun h => nomatch h⟩) rfl rfl hk (by k_is) (by k_is) (by ktr_room) (BindsTo.of_eq rfl) (locs rfl) ?_ rfl rfl rfl (by decide))
  intro g L' h₁ tk PQ PE G F' N' B' X' T' hPQ hPE hEx
  set_option simprocs false in dsimp only [b583, qb583]
  clear B F N T X G
  refine cutA (fun Z => ∀ (fa : Addr) (vs : List Value) (k : Nat) h' tk' m', Fr g L' h' (over m' [(Str.ofString "numerals", .ref fa), (Str.ofString "number", .int n tn), (Str.ofString "letter", .str l tl), (Str.ofString "flags", .str fl tf), (Str.ofString "width", .int wi tw), (Str.ofString "size", .int sz ts)]) → News g L' h' [(fa, listOf (List.toArray vs) k)] → IntsAre vs (figS (if n < 0 then -n else n) l) → Z h' tk') ?_ ?_
  · intro Z hZ
    unfold Four at hl4
    rcases hl4 with rfl | rfl | rfl | rfl
    all_goals repeat' (first | ((with_reducible show wpAny _ _ (call (Value.ref 576) _) _ _ _); k_dflt (refine wide_c (by k_asm) (by k_asm) (by k_asm) (by k_asm) (by k_asm) (by rfl) (by walk_at "ISLIST") (by l_ints) (by simp only [List.length_append, sgn_len]; omega) (by omega) (by omega) (by omega) (by ktr_room) (by ktr_units) ?_); intro r' ws' n' h' tk' F' N' o1' hI'; (try dsimp only)) | ((with_reducible show wpAny _ _ (call (Value.ref 564) _) _ _ _); k_dflt (refine lcodes_c (by k_asm) (by k_asm) (by k_asm) (by k_asm) (by k_asm) (by rfl) (by omega) (by ktr_room) (by ktr_units) ?_); intro r' ws' n' h' tk' F' N' o1' hI'; (have hL' := hI'.length); rw [sgn_len] at hL'; (have n1' := offN o1'); (try simp only [OffN, and_true] at n1'); (try dsimp only)) | ((with_reducible show wpAny _ _ (call (Value.builtin _) [Value.ref _]) _ _ _); k_dflt (refine len_list (News.isList (by k_asm) (by k_mem)) (by simp only [List.size_toArray]; omega) ?_); (try simp only [List.size_toArray])) | ((with_reducible show wpAny _ _ (call (Value.ref 569) _) _ _ _); k_dflt (refine lfigs_c (by k_asm) (by k_asm) (by k_asm) (by k_asm) (by k_asm) (by rfl) (by omega) (by omega) (by decide) (by decide) (by ktr_room) (by ktr_units) ?_); intro r' ws' n' h' tk' F' N' o1' hI'; (have n1' := offN o1'); (try simp only [OffN, and_true] at n1'); (try dsimp only)) | walk_at "K")
    all_goals
      rename IntsAre _ (lawF _ _ _) => hI
      exact hZ _ _ _ _ _ _ (frB (by assumption) (by rfl)) (ledA (by assumption) (by lcg_sub)) (by rw [← hfig]; exact hI)
  clear F' N' hfig
  intro fa vs k h2 tk2 m2 F2 NL2 hv
  have hl0 := figS_len (if n < 0 then -n else n) l
  have hl1 := List.length_pos_iff.mpr (figS_ne (if n < 0 then -n else n) l)
  generalize hd' : SD.mk (-1) le pl bl no ma wi sz l = d at hret
  generalize hf0 : figS (if n < 0 then -n else n) l = f0 at hv hl0 hl1
  have hnf1 : nF1 d n = List.replicate (sz - f0.length).toNat 48 ++ f0 := by rw [← hd', ← hf0]; rfl
  refine whileA (n₀ := (sz - f0.length).toNat) (fun i Z => ∀ (fa : Addr) (vs : List Value) (k j : Nat) h' tk' m', Fr g L' h' (over m' [(Str.ofString "numerals", .ref fa), (Str.ofString "number", .int n tn), (Str.ofString "letter", .str l tl), (Str.ofString "flags", .str fl tf), (Str.ofString "width", .int wi tw), (Str.ofString "size", .int sz ts)]) → News g L' h' [(fa, listOf (List.toArray vs) k)] → IntsAre vs (List.replicate j 48 ++ f0) → j + i = (sz - f0.length).toNat → Z h' tk')
    (fun Z => ∀ (fa : Addr) (vs : List Value) (k : Nat) h' tk' m', Fr g L' h' (over m' [(Str.ofString "numerals", .ref fa), (Str.ofString "number", .int n tn), (Str.ofString "letter", .str l tl), (Str.ofString "flags", .str fl tf), (Str.ofString "width", .int wi tw), (Str.ofString "size", .int sz ts)]) → News g L' h' [(fa, listOf (List.toArray vs) k)] → IntsAre vs (nF1 d n) → Z h' tk') (fun _ _ c9 fa vs k j h' tk' m' x0 x1 x2 x3 => c9 _ _ fun _ q9 => q9 fa vs k j h' tk' m' x0 x1 x2 x3) ?_ ?_ ?_ hPE
  · exact fun Z hZ => hZ fa vs k 0 _ _ _ (frB (by assumption) (by rfl)) (ledA NL2 (by lcg_sub)) hv (by omega)
  · clear F2 NL2 hv
    intro i ZJ ZX hZJ hZX fa vs k j h₁ tk₁ m₁ F₁ NL₁ hv hj
    have hvl := hv.length
    rw [List.length_append, List.length_replicate] at hvl
    repeat' (first | ((with_reducible show wpAny _ _ (call (Value.ref 576) _) _ _ _); k_dflt (refine wide_c (by k_asm) (by k_asm) (by k_asm) (by k_asm) (by k_asm) (by rfl) (by walk_at "ISLIST") (by l_ints) (by simp only [List.length_append, sgn_len]; omega) (by omega) (by omega) (by omega) (by ktr_room) (by ktr_units) ?_); intro r' ws' n' h' tk' F' N' o1' hI'; (try dsimp only)) | ((with_reducible show wpAny _ _ (call (Value.ref 564) _) _ _ _); k_dflt (refine lcodes_c (by k_asm) (by k_asm) (by k_asm) (by k_asm) (by k_asm) (by rfl) (by omega) (by ktr_room) (by ktr_units) ?_); intro r' ws' n' h' tk' F' N' o1' hI'; (have hL' := hI'.length); rw [sgn_len] at hL'; (have n1' := offN o1'); (try simp only [OffN, and_true] at n1'); (try dsimp only)) | ((with_reducible show wpAny _ _ (call (Value.builtin _) [Value.ref _]) _ _ _); k_dflt (refine len_list (News.isList (by k_asm) (by k_mem)) (by simp only [List.size_toArray]; omega) ?_); (try simp only [List.size_toArray])) | ((with_reducible show wpAny _ _ (call (Value.ref 569) _) _ _ _); k_dflt (refine lfigs_c (by k_asm) (by k_asm) (by k_asm) (by k_asm) (by k_asm) (by rfl) (by omega) (by omega) (by decide) (by decide) (by ktr_room) (by ktr_units) ?_); intro r' ws' n' h' tk' F' N' o1' hI'; (have n1' := offN o1'); (try simp only [OffN, and_true] at n1'); (try dsimp only)) | walk_at "K")
    · ((refine wpAny_execs_cons ?_); repeat' (first | ((with_reducible show wpAny _ _ (call (Value.ref 576) _) _ _ _); k_dflt (refine wide_c (by k_asm) (by k_asm) (by k_asm) (by k_asm) (by k_asm) (by rfl) (by walk_at "ISLIST") (by l_ints) (by simp only [List.length_append, sgn_len]; omega) (by omega) (by omega) (by omega) (by ktr_room) (by ktr_units) ?_); intro r' ws' n' h' tk' F' N' o1' hI'; (try dsimp only)) | ((with_reducible show wpAny _ _ (call (Value.ref 564) _) _ _ _); k_dflt (refine lcodes_c (by k_asm) (by k_asm) (by k_asm) (by k_asm) (by k_asm) (by rfl) (by omega) (by ktr_room) (by ktr_units) ?_); intro r' ws' n' h' tk' F' N' o1' hI'; (have hL' := hI'.length); rw [sgn_len] at hL'; (have n1' := offN o1'); (try simp only [OffN, and_true] at n1'); (try dsimp only)) | ((with_reducible show wpAny _ _ (call (Value.builtin _) [Value.ref _]) _ _ _); k_dflt (refine len_list (News.isList (by k_asm) (by k_mem)) (by simp only [List.size_toArray]; omega) ?_); (try simp only [List.size_toArray])) | ((with_reducible show wpAny _ _ (call (Value.ref 569) _) _ _ _); k_dflt (refine lfigs_c (by k_asm) (by k_asm) (by k_asm) (by k_asm) (by k_asm) (by rfl) (by omega) (by omega) (by decide) (by decide) (by ktr_room) (by ktr_units) ?_); intro r' ws' n' h' tk' F' N' o1' hI'; (have n1' := offN o1'); (try simp only [OffN, and_true] at n1'); (try dsimp only)) | walk_at "K"))
      exact hZJ (i - 1) (by omega) _ _ _ (j + 1) _ _ _ (frB (by assumption) (by rfl)) (ledA (by assumption) (by lcg_sub)) (by rw [List.replicate_succ]; l_ints) (by omega)
    · obtain rfl : i = 0 := by omega
      exact hZX _ _ _ _ _ _ (frB (by assumption) (by rfl)) (ledA (by assumption) (by lcg_sub)) (by rw [hnf1, ← hj]; exact hv)
  · clear F2 NL2 hv
    intro fa vs k h3 tk3 m3 F3 NL3 hv
    have hz0 : 0 < (nF1 d n).length := by rw [hnf1, List.length_append]; omega
    have hz1 : (nF1 d n).length ≤ 108 := by rw [hnf1, List.length_append, List.length_replicate]; omega
    refine cutA (fun Z => ∀ (fr : Str) (tf2 : Tok) h' tk' m', Fr g L' h' (over m' [(Str.ofString "front", .str fr tf2), (Str.ofString "numerals", .ref fa), (Str.ofString "number", .int n tn), (Str.ofString "letter", .str l tl), (Str.ofString "flags", .str fl tf), (Str.ofString "width", .int wi tw), (Str.ofString "size", .int sz ts)]) → News g L' h' [(fa, listOf (List.toArray vs) k)] → sgn fr = nHead d n → fr.cps.size ≤ 1 → Z h' tk') ?_ ?_
    · intro Z hZ
      clear hnf1 hf0 hv hz0 hz1
      repeat' (first | ((with_reducible show wpAny _ _ (call (Value.ref 576) _) _ _ _); k_dflt (refine wide_c (by k_asm) (by k_asm) (by k_asm) (by k_asm) (by k_asm) (by rfl) (by walk_at "ISLIST") (by l_ints) (by simp only [List.length_append, sgn_len]; omega) (by omega) (by omega) (by omega) (by ktr_room) (by ktr_units) ?_); intro r' ws' n' h' tk' F' N' o1' hI'; (try dsimp only)) | ((with_reducible show wpAny _ _ (call (Value.ref 564) _) _ _ _); k_dflt (refine lcodes_c (by k_asm) (by k_asm) (by k_asm) (by k_asm) (by k_asm) (by rfl) (by omega) (by ktr_room) (by ktr_units) ?_); intro r' ws' n' h' tk' F' N' o1' hI'; (have hL' := hI'.length); rw [sgn_len] at hL'; (have n1' := offN o1'); (try simp only [OffN, and_true] at n1'); (try dsimp only)) | ((with_reducible show wpAny _ _ (call (Value.builtin _) [Value.ref _]) _ _ _); k_dflt (refine len_list (News.isList (by k_asm) (by k_mem)) (by simp only [List.size_toArray]; omega) ?_); (try simp only [List.size_toArray])) | ((with_reducible show wpAny _ _ (call (Value.ref 569) _) _ _ _); k_dflt (refine lfigs_c (by k_asm) (by k_asm) (by k_asm) (by k_asm) (by k_asm) (by rfl) (by omega) (by omega) (by decide) (by decide) (by ktr_room) (by ktr_units) ?_); intro r' ws' n' h' tk' F' N' o1' hI'; (have n1' := offN o1'); (try simp only [OffN, and_true] at n1'); (try dsimp only)) | walk_at "K")
      · exact hZ _ _ _ _ _ (frB (by assumption) (by rfl)) (ledA (by assumption) (by lcg_sub)) (by subst hd'; simp only [nHead, *, if_true]; decide +kernel) (by decide +kernel)
      all_goals exact hZ _ _ _ _ _ (frB (by assumption) (by rfl)) (ledA (by assumption) (by lcg_sub)) (by subst hd'; simp only [nHead, hpl, hbl, occ, *, if_true, if_false, Bool.not_true, Bool.not_false, Bool.false_eq_true]; decide +kernel) (by decide +kernel)
    (try clear F3 NL3)
    intro fr tf2 h4 tk4 m4 F4 NL4 hfr hfz
    refine cutA (fun Z => ∀ (fa : Addr) (vs : List Value) (k : Nat) h' tk' m', Fr g L' h' (over m' [(Str.ofString "front", .str fr tf2), (Str.ofString "numerals", .ref fa), (Str.ofString "number", .int n tn), (Str.ofString "letter", .str l tl), (Str.ofString "flags", .str fl tf), (Str.ofString "width", .int wi tw), (Str.ofString "size", .int sz ts)]) → News g L' h' [(fa, listOf (List.toArray vs) k)] → IntsAre vs (nF2 d n) → Z h' tk') ?_ ?_
    · intro Z hZ
      replace hma : occ fl "#" = !ma := by rw [hma, Bool.not_not]
      unfold occ at hma
      cases ma
      · simp only [Bool.not_true, Bool.not_false] at hma
        repeat' (first | ((with_reducible show wpAny _ _ (call (Value.ref 576) _) _ _ _); k_dflt (refine wide_c (by k_asm) (by k_asm) (by k_asm) (by k_asm) (by k_asm) (by rfl) (by walk_at "ISLIST") (by l_ints) (by simp only [List.length_append, sgn_len]; omega) (by omega) (by omega) (by omega) (by ktr_room) (by ktr_units) ?_); intro r' ws' n' h' tk' F' N' o1' hI'; (try dsimp only)) | ((with_reducible show wpAny _ _ (call (Value.ref 564) _) _ _ _); k_dflt (refine lcodes_c (by k_asm) (by k_asm) (by k_asm) (by k_asm) (by k_asm) (by rfl) (by omega) (by ktr_room) (by ktr_units) ?_); intro r' ws' n' h' tk' F' N' o1' hI'; (have hL' := hI'.length); rw [sgn_len] at hL'; (have n1' := offN o1'); (try simp only [OffN, and_true] at n1'); (try dsimp only)) | ((with_reducible show wpAny _ _ (call (Value.builtin _) [Value.ref _]) _ _ _); k_dflt (refine len_list (News.isList (by k_asm) (by k_mem)) (by simp only [List.size_toArray]; omega) ?_); (try simp only [List.size_toArray])) | ((with_reducible show wpAny _ _ (call (Value.ref 569) _) _ _ _); k_dflt (refine lfigs_c (by k_asm) (by k_asm) (by k_asm) (by k_asm) (by k_asm) (by rfl) (by omega) (by omega) (by decide) (by decide) (by ktr_room) (by ktr_units) ?_); intro r' ws' n' h' tk' F' N' o1' hI'; (have n1' := offN o1'); (try simp only [OffN, and_true] at n1'); (try dsimp only)) | walk_at "K")
        have e : nF2 d n = nF1 d n := by subst hd'; exact if_neg (fun h => Bool.noConfusion h.1)
        exact hZ _ _ _ _ _ _ (frB (by assumption) (by rfl)) (ledA (by assumption) (by lcg_sub)) (by rw [e]; exact hv)
      · simp only [Bool.not_true, Bool.not_false] at hma
        repeat' (first | ((with_reducible show wpAny _ _ (call (Value.ref 576) _) _ _ _); k_dflt (refine wide_c (by k_asm) (by k_asm) (by k_asm) (by k_asm) (by k_asm) (by rfl) (by walk_at "ISLIST") (by l_ints) (by simp only [List.length_append, sgn_len]; omega) (by omega) (by omega) (by omega) (by ktr_room) (by ktr_units) ?_); intro r' ws' n' h' tk' F' N' o1' hI'; (try dsimp only)) | ((with_reducible show wpAny _ _ (call (Value.ref 564) _) _ _ _); k_dflt (refine lcodes_c (by k_asm) (by k_asm) (by k_asm) (by k_asm) (by k_asm) (by rfl) (by omega) (by ktr_room) (by ktr_units) ?_); intro r' ws' n' h' tk' F' N' o1' hI'; (have hL' := hI'.length); rw [sgn_len] at hL'; (have n1' := offN o1'); (try simp only [OffN, and_true] at n1'); (try dsimp only)) | ((with_reducible show wpAny _ _ (call (Value.builtin _) [Value.ref _]) _ _ _); k_dflt (refine len_list (News.isList (by k_asm) (by k_mem)) (by simp only [List.size_toArray]; omega) ?_); (try simp only [List.size_toArray])) | ((with_reducible show wpAny _ _ (call (Value.ref 569) _) _ _ _); k_dflt (refine lfigs_c (by k_asm) (by k_asm) (by k_asm) (by k_asm) (by k_asm) (by rfl) (by omega) (by omega) (by decide) (by decide) (by ktr_room) (by ktr_units) ?_); intro r' ws' n' h' tk' F' N' o1' hI'; (have n1' := offN o1'); (try simp only [OffN, and_true] at n1'); (try dsimp only)) | walk_at "K")
        · have e : nF2 d n = 48 :: nF1 d n := by
            subst hd'
            exact if_pos ⟨rfl, by simpa using ‹(l == _) = true›, by assumption⟩
          ((refine wpAny_execs_cons ?_); repeat' (first | ((with_reducible show wpAny _ _ (call (Value.ref 576) _) _ _ _); k_dflt (refine wide_c (by k_asm) (by k_asm) (by k_asm) (by k_asm) (by k_asm) (by rfl) (by walk_at "ISLIST") (by l_ints) (by simp only [List.length_append, sgn_len]; omega) (by omega) (by omega) (by omega) (by ktr_room) (by ktr_units) ?_); intro r' ws' n' h' tk' F' N' o1' hI'; (try dsimp only)) | ((with_reducible show wpAny _ _ (call (Value.ref 564) _) _ _ _); k_dflt (refine lcodes_c (by k_asm) (by k_asm) (by k_asm) (by k_asm) (by k_asm) (by rfl) (by omega) (by ktr_room) (by ktr_units) ?_); intro r' ws' n' h' tk' F' N' o1' hI'; (have hL' := hI'.length); rw [sgn_len] at hL'; (have n1' := offN o1'); (try simp only [OffN, and_true] at n1'); (try dsimp only)) | ((with_reducible show wpAny _ _ (call (Value.builtin _) [Value.ref _]) _ _ _); k_dflt (refine len_list (News.isList (by k_asm) (by k_mem)) (by simp only [List.size_toArray]; omega) ?_); (try simp only [List.size_toArray])) | ((with_reducible show wpAny _ _ (call (Value.ref 569) _) _ _ _); k_dflt (refine lfigs_c (by k_asm) (by k_asm) (by k_asm) (by k_asm) (by k_asm) (by rfl) (by omega) (by omega) (by decide) (by decide) (by ktr_room) (by ktr_units) ?_); intro r' ws' n' h' tk' F' N' o1' hI'; (have n1' := offN o1'); (try simp only [OffN, and_true] at n1'); (try dsimp only)) | walk_at "K"))
          exact hZ _ _ _ _ _ _ (frB (by assumption) (by rfl)) (ledA (by assumption) (by lcg_sub)) (by rw [e]; l_ints)
        all_goals
          have e : nF2 d n = nF1 d n := by
            subst hd'
            exact if_neg (by rintro ⟨h1, h2, h3⟩; simp_all)
          exact hZ _ _ _ _ _ _ (frB (by assumption) (by rfl)) (ledA (by assumption) (by lcg_sub)) (by rw [e]; exact hv)
    (try clear F4 NL4)
    clear hv
    intro fa vs k h5 tk5 m5 F5 NL5 hv
    have hz2 : (nF2 d n).length ≤ 109 := by unfold nF2; split <;> (try simp only [List.length_cons]) <;> omega
    refine cutA (fun Z => ∀ (fr : Str) (tf2 : Tok) h' tk' m', Fr g L' h' (over m' [(Str.ofString "front", .str fr tf2), (Str.ofString "numerals", .ref fa), (Str.ofString "number", .int n tn), (Str.ofString "letter", .str l tl), (Str.ofString "flags", .str fl tf), (Str.ofString "width", .int wi tw), (Str.ofString "size", .int sz ts)]) → News g L' h' [(fa, listOf (List.toArray vs) k)] → sgn fr = nHead2 d n → Z h' tk') ?_ ?_
    · intro Z hZ
      replace hma : occ fl "#" = !ma := by rw [hma, Bool.not_not]
      unfold occ at hma
      cases ma
      · simp only [Bool.not_true, Bool.not_false] at hma
        repeat' (first | ((with_reducible show wpAny _ _ (call (Value.ref 576) _) _ _ _); k_dflt (refine wide_c (by k_asm) (by k_asm) (by k_asm) (by k_asm) (by k_asm) (by rfl) (by walk_at "ISLIST") (by l_ints) (by simp only [List.length_append, sgn_len]; omega) (by omega) (by omega) (by omega) (by ktr_room) (by ktr_units) ?_); intro r' ws' n' h' tk' F' N' o1' hI'; (try dsimp only)) | ((with_reducible show wpAny _ _ (call (Value.ref 564) _) _ _ _); k_dflt (refine lcodes_c (by k_asm) (by k_asm) (by k_asm) (by k_asm) (by k_asm) (by rfl) (by omega) (by ktr_room) (by ktr_units) ?_); intro r' ws' n' h' tk' F' N' o1' hI'; (have hL' := hI'.length); rw [sgn_len] at hL'; (have n1' := offN o1'); (try simp only [OffN, and_true] at n1'); (try dsimp only)) | ((with_reducible show wpAny _ _ (call (Value.builtin _) [Value.ref _]) _ _ _); k_dflt (refine len_list (News.isList (by k_asm) (by k_mem)) (by simp only [List.size_toArray]; omega) ?_); (try simp only [List.size_toArray])) | ((with_reducible show wpAny _ _ (call (Value.ref 569) _) _ _ _); k_dflt (refine lfigs_c (by k_asm) (by k_asm) (by k_asm) (by k_asm) (by k_asm) (by rfl) (by omega) (by omega) (by decide) (by decide) (by ktr_room) (by ktr_units) ?_); intro r' ws' n' h' tk' F' N' o1' hI'; (have n1' := offN o1'); (try simp only [OffN, and_true] at n1'); (try dsimp only)) | walk_at "K")
        have e : nHead2 d n = nHead d n := by subst hd'; exact if_neg (fun h => Bool.noConfusion h.1)
        exact hZ _ _ _ _ _ (frB (by assumption) (by rfl)) (ledA (by assumption) (by lcg_sub)) (hfr.trans e.symm)
      · simp only [Bool.not_true, Bool.not_false] at hma
        unfold Four at hl4
        have hxl : (Builtin.Str.occurrences (Str.ofString "xX") l 0 (Str.ofString "xX").length 1).isEmpty = decide (l = Str.ofString "d" ∨ l = Str.ofString "o") := by rcases hl4 with rfl | rfl | rfl | rfl <;> decide +kernel
        by_cases hx : l = Str.ofString "d" ∨ l = Str.ofString "o"
        · rw [decide_eq_true hx] at hxl
          repeat' (first | ((with_reducible show wpAny _ _ (call (Value.ref 576) _) _ _ _); k_dflt (refine wide_c (by k_asm) (by k_asm) (by k_asm) (by k_asm) (by k_asm) (by rfl) (by walk_at "ISLIST") (by l_ints) (by simp only [List.length_append, sgn_len]; omega) (by omega) (by omega) (by omega) (by ktr_room) (by ktr_units) ?_); intro r' ws' n' h' tk' F' N' o1' hI'; (try dsimp only)) | ((with_reducible show wpAny _ _ (call (Value.ref 564) _) _ _ _); k_dflt (refine lcodes_c (by k_asm) (by k_asm) (by k_asm) (by k_asm) (by k_asm) (by rfl) (by omega) (by ktr_room) (by ktr_units) ?_); intro r' ws' n' h' tk' F' N' o1' hI'; (have hL' := hI'.length); rw [sgn_len] at hL'; (have n1' := offN o1'); (try simp only [OffN, and_true] at n1'); (try dsimp only)) | ((with_reducible show wpAny _ _ (call (Value.builtin _) [Value.ref _]) _ _ _); k_dflt (refine len_list (News.isList (by k_asm) (by k_mem)) (by simp only [List.size_toArray]; omega) ?_); (try simp only [List.size_toArray])) | ((with_reducible show wpAny _ _ (call (Value.ref 569) _) _ _ _); k_dflt (refine lfigs_c (by k_asm) (by k_asm) (by k_asm) (by k_asm) (by k_asm) (by rfl) (by omega) (by omega) (by decide) (by decide) (by ktr_room) (by ktr_units) ?_); intro r' ws' n' h' tk' F' N' o1' hI'; (have n1' := offN o1'); (try simp only [OffN, and_true] at n1'); (try dsimp only)) | walk_at "K")
          have e : nHead2 d n = nHead d n := by subst hd'; exact if_neg (fun h => by dsimp only at h; rcases h.2.1 with q | q <;> rw [q] at hx <;> exact absurd hx (by decide))
          exact hZ _ _ _ _ _ (frB (by assumption) (by rfl)) (ledA (by assumption) (by lcg_sub)) (hfr.trans e.symm)
        · rw [decide_eq_false hx] at hxl
          repeat' (first | ((with_reducible show wpAny _ _ (call (Value.ref 576) _) _ _ _); k_dflt (refine wide_c (by k_asm) (by k_asm) (by k_asm) (by k_asm) (by k_asm) (by rfl) (by walk_at "ISLIST") (by l_ints) (by simp only [List.length_append, sgn_len]; omega) (by omega) (by omega) (by omega) (by ktr_room) (by ktr_units) ?_); intro r' ws' n' h' tk' F' N' o1' hI'; (try dsimp only)) | ((with_reducible show wpAny _ _ (call (Value.ref 564) _) _ _ _); k_dflt (refine lcodes_c (by k_asm) (by k_asm) (by k_asm) (by k_asm) (by k_asm) (by rfl) (by omega) (by ktr_room) (by ktr_units) ?_); intro r' ws' n' h' tk' F' N' o1' hI'; (have hL' := hI'.length); rw [sgn_len] at hL'; (have n1' := offN o1'); (try simp only [OffN, and_true] at n1'); (try dsimp only)) | ((with_reducible show wpAny _ _ (call (Value.builtin _) [Value.ref _]) _ _ _); k_dflt (refine len_list (News.isList (by k_asm) (by k_mem)) (by simp only [List.size_toArray]; omega) ?_); (try simp only [List.size_toArray])) | ((with_reducible show wpAny _ _ (call (Value.ref 569) _) _ _ _); k_dflt (refine lfigs_c (by k_asm) (by k_asm) (by k_asm) (by k_asm) (by k_asm) (by rfl) (by omega) (by omega) (by decide) (by decide) (by ktr_room) (by ktr_units) ?_); intro r' ws' n' h' tk' F' N' o1' hI'; (have n1' := offN o1'); (try simp only [OffN, and_true] at n1'); (try dsimp only)) | walk_at "K")
          · have hll : l.length = 1 := by rcases hl4 with rfl | rfl | rfl | rfl <;> decide +kernel
            have hfl2 : fr.length ≤ 1 := hfz
            ((refine wpAny_execs_cons ?_); repeat' (first | ((with_reducible show wpAny _ _ (call (Value.ref 576) _) _ _ _); k_dflt (refine wide_c (by k_asm) (by k_asm) (by k_asm) (by k_asm) (by k_asm) (by rfl) (by walk_at "ISLIST") (by l_ints) (by simp only [List.length_append, sgn_len]; omega) (by omega) (by omega) (by omega) (by ktr_room) (by ktr_units) ?_); intro r' ws' n' h' tk' F' N' o1' hI'; (try dsimp only)) | ((with_reducible show wpAny _ _ (call (Value.ref 564) _) _ _ _); k_dflt (refine lcodes_c (by k_asm) (by k_asm) (by k_asm) (by k_asm) (by k_asm) (by rfl) (by omega) (by ktr_room) (by ktr_units) ?_); intro r' ws' n' h' tk' F' N' o1' hI'; (have hL' := hI'.length); rw [sgn_len] at hL'; (have n1' := offN o1'); (try simp only [OffN, and_true] at n1'); (try dsimp only)) | ((with_reducible show wpAny _ _ (call (Value.builtin _) [Value.ref _]) _ _ _); k_dflt (refine len_list (News.isList (by k_asm) (by k_mem)) (by simp only [List.size_toArray]; omega) ?_); (try simp only [List.size_toArray])) | ((with_reducible show wpAny _ _ (call (Value.ref 569) _) _ _ _); k_dflt (refine lfigs_c (by k_asm) (by k_asm) (by k_asm) (by k_asm) (by k_asm) (by rfl) (by omega) (by omega) (by decide) (by decide) (by ktr_room) (by ktr_units) ?_); intro r' ws' n' h' tk' F' N' o1' hI'; (have n1' := offN o1'); (try simp only [OffN, and_true] at n1'); (try dsimp only)) | walk_at "K"))
            have e : nHead2 d n = nHead d n ++ [48, if l = Str.ofString "x" then 120 else 88] := by subst hd'; exact if_pos ⟨rfl, by rcases hl4 with q | q | q | q; exact absurd (.inl q) hx; exact absurd (.inr q) hx; exact .inl q; exact .inr q, by assumption⟩
            have e2 : sgn l = [if l = Str.ofString "x" then 120 else 88] := by rcases hl4 with q | q | q | q; exact absurd (.inl q) hx; exact absurd (.inr q) hx; (rw [q]; decide +kernel); (rw [q]; decide +kernel)
            exact hZ _ _ _ _ _ (frB (by assumption) (by rfl)) (ledA (by assumption) (by lcg_sub)) (by rw [sgn_append, sgn_append, hfr, e, e2, List.append_assoc]; rfl)
          · have e : nHead2 d n = nHead d n := by subst hd'; exact if_neg (fun h => h.2.2 (by assumption))
            exact hZ _ _ _ _ _ (frB (by assumption) (by rfl)) (ledA (by assumption) (by lcg_sub)) (hfr.trans e.symm)
    (try clear F5 NL5)
    clear hfr hfz
    intro fr tf2 h6 tk6 m6 F6 NL6 hfr
    have hzh : (nHead d n).length ≤ 1 := by unfold nHead; (repeat' split) <;> simp
    have hz3 : (nHead2 d n).length ≤ 3 := by unfold nHead2; split <;> (try simp only [List.length_append, List.length_cons, List.length_nil]) <;> omega
    have hfl3 : fr.cps.size = (nHead2 d n).length := by rw [← hfr, sgn_len]
    have hfl4 : fr.length = (nHead2 d n).length := hfl3
    have hT : nF3 d n = List.replicate (if no = true ∧ le = false ∧ sz < 0 then (wi - (nHead2 d n).length - (nF2 d n).length).toNat else 0) 48 ++ nF2 d n := by
      unfold nF3
      subst hd'
      dsimp only
      split
      · rfl
      · rfl
    generalize hTT : (if no = true ∧ le = false ∧ sz < 0 then (wi - (nHead2 d n).length - (nF2 d n).length).toNat else 0) = T at hT
    refine whileA (n₀ := T) (fun i Z => ∀ (fa : Addr) (vs : List Value) (k j : Nat) h' tk' m', Fr g L' h' (over m' [(Str.ofString "front", .str fr tf2), (Str.ofString "numerals", .ref fa), (Str.ofString "number", .int n tn), (Str.ofString "letter", .str l tl), (Str.ofString "flags", .str fl tf), (Str.ofString "width", .int wi tw), (Str.ofString "size", .int sz ts)]) → News g L' h' [(fa, listOf (List.toArray vs) k)] → IntsAre vs (List.replicate j 48 ++ nF2 d n) → j + i = T → Z h' tk')
      (fun Z => ∀ (fa : Addr) (vs : List Value) (k : Nat) h' tk' m', Fr g L' h' (over m' [(Str.ofString "front", .str fr tf2), (Str.ofString "numerals", .ref fa), (Str.ofString "number", .int n tn), (Str.ofString "letter", .str l tl), (Str.ofString "flags", .str fl tf), (Str.ofString "width", .int wi tw), (Str.ofString "size", .int sz ts)]) → News g L' h' [(fa, listOf (List.toArray vs) k)] → IntsAre vs (nF3 d n) → Z h' tk') (fun _ _ c9 fa vs k j h' tk' m' x0 x1 x2 x3 => c9 _ _ fun _ q9 => q9 fa vs k j h' tk' m' x0 x1 x2 x3) ?_ ?_ ?_ hPE
    · exact fun Z hZ => hZ fa vs k 0 _ _ _ (frB (by assumption) (by rfl)) (ledA NL6 (by lcg_sub)) hv (by omega)
    · clear F6 NL6 hv
      intro i ZJ ZX hZJ hZX fa vs k j h₁ tk₁ m₁ F₁ NL₁ hv hj
      have hvl := hv.length
      rw [List.length_append, List.length_replicate] at hvl
      replace hno : occ fl "0" = !no := by rw [hno, Bool.not_not]
      replace hle : occ fl "-" = !le := by rw [hle, Bool.not_not]
      unfold occ at hno hle
      have hTw : T ≤ 100 := by rw [← hTT]; split <;> omega
      by_cases hC : no = true ∧ le = false ∧ sz < 0
      · rw [if_pos hC] at hTT
        obtain ⟨rfl, rfl, hsz⟩ := hC
        simp only [Bool.not_true, Bool.not_false] at hno hle
        repeat' (first | ((with_reducible show wpAny _ _ (call (Value.ref 576) _) _ _ _); k_dflt (refine wide_c (by k_asm) (by k_asm) (by k_asm) (by k_asm) (by k_asm) (by rfl) (by walk_at "ISLIST") (by l_ints) (by simp only [List.length_append, sgn_len]; omega) (by omega) (by omega) (by omega) (by ktr_room) (by ktr_units) ?_); intro r' ws' n' h' tk' F' N' o1' hI'; (try dsimp only)) | ((with_reducible show wpAny _ _ (call (Value.ref 564) _) _ _ _); k_dflt (refine lcodes_c (by k_asm) (by k_asm) (by k_asm) (by k_asm) (by k_asm) (by rfl) (by omega) (by ktr_room) (by ktr_units) ?_); intro r' ws' n' h' tk' F' N' o1' hI'; (have hL' := hI'.length); rw [sgn_len] at hL'; (have n1' := offN o1'); (try simp only [OffN, and_true] at n1'); (try dsimp only)) | ((with_reducible show wpAny _ _ (call (Value.builtin _) [Value.ref _]) _ _ _); k_dflt (refine len_list (News.isList (by k_asm) (by k_mem)) (by simp only [List.size_toArray]; omega) ?_); (try simp only [List.size_toArray])) | ((with_reducible show wpAny _ _ (call (Value.ref 569) _) _ _ _); k_dflt (refine lfigs_c (by k_asm) (by k_asm) (by k_asm) (by k_asm) (by k_asm) (by rfl) (by omega) (by omega) (by decide) (by decide) (by ktr_room) (by ktr_units) ?_); intro r' ws' n' h' tk' F' N' o1' hI'; (have n1' := offN o1'); (try simp only [OffN, and_true] at n1'); (try dsimp only)) | walk_at "K")
        · ((refine wpAny_execs_cons ?_); repeat' (first | ((with_reducible show wpAny _ _ (call (Value.ref 576) _) _ _ _); k_dflt (refine wide_c (by k_asm) (by k_asm) (by k_asm) (by k_asm) (by k_asm) (by rfl) (by walk_at "ISLIST") (by l_ints) (by simp only [List.length_append, sgn_len]; omega) (by omega) (by omega) (by omega) (by ktr_room) (by ktr_units) ?_); intro r' ws' n' h' tk' F' N' o1' hI'; (try dsimp only)) | ((with_reducible show wpAny _ _ (call (Value.ref 564) _) _ _ _); k_dflt (refine lcodes_c (by k_asm) (by k_asm) (by k_asm) (by k_asm) (by k_asm) (by rfl) (by omega) (by ktr_room) (by ktr_units) ?_); intro r' ws' n' h' tk' F' N' o1' hI'; (have hL' := hI'.length); rw [sgn_len] at hL'; (have n1' := offN o1'); (try simp only [OffN, and_true] at n1'); (try dsimp only)) | ((with_reducible show wpAny _ _ (call (Value.builtin _) [Value.ref _]) _ _ _); k_dflt (refine len_list (News.isList (by k_asm) (by k_mem)) (by simp only [List.size_toArray]; omega) ?_); (try simp only [List.size_toArray])) | ((with_reducible show wpAny _ _ (call (Value.ref 569) _) _ _ _); k_dflt (refine lfigs_c (by k_asm) (by k_asm) (by k_asm) (by k_asm) (by k_asm) (by rfl) (by omega) (by omega) (by decide) (by decide) (by ktr_room) (by ktr_units) ?_); intro r' ws' n' h' tk' F' N' o1' hI'; (have n1' := offN o1'); (try simp only [OffN, and_true] at n1'); (try dsimp only)) | walk_at "K"))
          exact hZJ (i - 1) (by omega) _ _ _ (j + 1) _ _ _ (frB (by assumption) (by rfl)) (ledA (by assumption) (by lcg_sub)) (by rw [List.replicate_succ]; l_ints) (by omega)
        · obtain rfl : i = 0 := by omega
          exact hZX _ _ _ _ _ _ (frB (by assumption) (by rfl)) (ledA (by assumption) (by lcg_sub)) (by rw [hT, ← hj]; exact hv)
      · rw [if_neg hC] at hTT
        obtain ⟨rfl, rfl⟩ : i = 0 ∧ j = 0 := by omega
        have hvv : IntsAre vs (nF3 d n) := by rw [hT, ← hTT]; exact hv
        cases no <;> cases le
        all_goals
          simp only [Bool.not_true, Bool.not_false] at hno hle
          try (have hs' : ¬ sz < 0 := fun h => hC ⟨rfl, rfl, h⟩)
          clear hC
          repeat' (first | ((with_reducible show wpAny _ _ (call (Value.ref 576) _) _ _ _); k_dflt (refine wide_c (by k_asm) (by k_asm) (by k_asm) (by k_asm) (by k_asm) (by rfl) (by walk_at "ISLIST") (by l_ints) (by simp only [List.length_append, sgn_len]; omega) (by omega) (by omega) (by omega) (by ktr_room) (by ktr_units) ?_); intro r' ws' n' h' tk' F' N' o1' hI'; (try dsimp only)) | ((with_reducible show wpAny _ _ (call (Value.ref 564) _) _ _ _); k_dflt (refine lcodes_c (by k_asm) (by k_asm) (by k_asm) (by k_asm) (by k_asm) (by rfl) (by omega) (by ktr_room) (by ktr_units) ?_); intro r' ws' n' h' tk' F' N' o1' hI'; (have hL' := hI'.length); rw [sgn_len] at hL'; (have n1' := offN o1'); (try simp only [OffN, and_true] at n1'); (try dsimp only)) | ((with_reducible show wpAny _ _ (call (Value.builtin _) [Value.ref _]) _ _ _); k_dflt (refine len_list (News.isList (by k_asm) (by k_mem)) (by simp only [List.size_toArray]; omega) ?_); (try simp only [List.size_toArray])) | ((with_reducible show wpAny _ _ (call (Value.ref 569) _) _ _ _); k_dflt (refine lfigs_c (by k_asm) (by k_asm) (by k_asm) (by k_asm) (by k_asm) (by rfl) (by omega) (by omega) (by decide) (by decide) (by ktr_room) (by ktr_units) ?_); intro r' ws' n' h' tk' F' N' o1' hI'; (have n1' := offN o1'); (try simp only [OffN, and_true] at n1'); (try dsimp only)) | walk_at "K")
          exact hZX _ _ _ _ _ _ (frB (by assumption) (by rfl)) (ledA (by assumption) (by lcg_sub)) hvv
    · clear F6 NL6 hv
      intro fa vs k h7 tk7 m7 F7 NL7 hv
      have hz4 : (nF3 d n).length ≤ 209 := by rw [hT, List.length_append, List.length_replicate, ← hTT]; split <;> omega
      have hvl := hv.length
      ((refine wpAny_execs_cons ?_); repeat' (first | ((with_reducible show wpAny _ _ (call (Value.ref 576) _) _ _ _); k_dflt (refine wide_c (by k_asm) (by k_asm) (by k_asm) (by k_asm) (by k_asm) (by rfl) (by walk_at "ISLIST") (by l_ints) (by simp only [List.length_append, sgn_len]; omega) (by omega) (by omega) (by omega) (by ktr_room) (by ktr_units) ?_); intro r' ws' n' h' tk' F' N' o1' hI'; (try dsimp only)) | ((with_reducible show wpAny _ _ (call (Value.ref 564) _) _ _ _); k_dflt (refine lcodes_c (by k_asm) (by k_asm) (by k_asm) (by k_asm) (by k_asm) (by rfl) (by omega) (by ktr_room) (by ktr_units) ?_); intro r' ws' n' h' tk' F' N' o1' hI'; (have hL' := hI'.length); rw [sgn_len] at hL'; (have n1' := offN o1'); (try simp only [OffN, and_true] at n1'); (try dsimp only)) | ((with_reducible show wpAny _ _ (call (Value.builtin _) [Value.ref _]) _ _ _); k_dflt (refine len_list (News.isList (by k_asm) (by k_mem)) (by simp only [List.size_toArray]; omega) ?_); (try simp only [List.size_toArray])) | ((with_reducible show wpAny _ _ (call (Value.ref 569) _) _ _ _); k_dflt (refine lfigs_c (by k_asm) (by k_asm) (by k_asm) (by k_asm) (by k_asm) (by rfl) (by omega) (by omega) (by decide) (by decide) (by ktr_room) (by ktr_units) ?_); intro r' ws' n' h' tk' F' N' o1' hI'; (have n1' := offN o1'); (try simp only [OffN, and_true] at n1'); (try dsimp only)) | walk_at "K"))
      rename IntsAre (Array.toList _) _ => hI
      refine hPQ _ _ ⟨_, _, by assumption, by assumption, fun b => hret _ _ _ _ _ b.fr (b.one (by k_mem)) (b.off1 (by k_mem)) ?_⟩
      have e : nCodes d n = padS le wi (nHead2 d n ++ nF3 d n) := by subst hd'; rfl
      rw [e, ← hfr]
      unfold padS
      rw [hle]
      cases q : occ fl "-"
      · rw [if_neg (show ¬ _ = true by rw [show (Builtin.Str.occurrences fl (Str.ofString "-") 0 fl.length 1).isEmpty = false from q]; decide)] at hI
        exact hI
      · rw [if_pos (show _ = true from q)] at hI
        exact hI
end
end
section
/-! ## The law's figures are the text's -/
theorem dgs_more {r : Int} (hr : 8 ≤ r) : ∀ (f : Nat) (n : Int), 0 ≤ n → n < 8 ^ (f + 1) → dgs r (f + 2) n = dgs r (f + 1) n
  | 0, n, h0, h => by
    have : n.fdiv r = 0 := by
      rw [Int.fdiv_eq_ediv_of_nonneg _ (by omega)]
      exact Int.ediv_eq_zero_of_lt h0 (by omega)
    simp only [dgs, this, Int.lt_irrefl, if_false]
  | f + 1, n, h0, h => by
    obtain ⟨g1, g2⟩ := fdiv_small h0 h hr
    rw [dgs, dgs.eq_def r (f + 1 + 1) n, dgs_more hr f _ g1 g2]
theorem iterF_left (r : Int) (b : Bool) : ∀ (i : Nat) (pf : Int × List Int), iterF r b (i + 1) pf = iterF r b i (stepF r b pf)
  | 0, pf => rfl
  | i + 1, pf => by
    show stepF r b (iterF r b (i + 1) pf) = stepF r b (iterF r b i (stepF r b pf))
    rw [iterF_left r b i pf]
theorem iterF_from {r : Int} (hr : 8 ≤ r) (b : Bool) : ∀ (i : Nat) (p : Int) (fl : List Int), fl ≠ [] → 0 ≤ p → p < 8 ^ i → (iterF r b i (p, fl)).2 = fl ++ (if 0 < p then (dgs r i p).map (digC b) else [])
  | 0, p, fl, hf, h0, h => by
    rw [if_neg (by omega), List.append_nil]
    rfl
  | i + 1, p, fl, hf, h0, h => by
    rw [iterF_left]
    obtain ⟨g1, g2⟩ := fdiv_small h0 h hr
    by_cases hp : 0 < p
    · rw [show stepF r b (p, fl) = (p.fdiv r, fl ++ [digC b (p.fmod r)]) from if_pos (.inl hp), iterF_from hr b i _ _ (by simp) g1 g2, if_pos hp, List.append_assoc]
      congr 1
      rw [dgs]
      by_cases hq : 0 < p.fdiv r
      · rw [if_pos hq, if_pos hq]; rfl
      · rw [if_neg hq, if_neg hq]; rfl
    · have h00 : p = 0 := by omega
      subst h00
      have hs : stepF r b (0, fl) = (0, fl) := if_neg (fun q => q.elim (fun h => Int.lt_irrefl _ h) hf)
      rw [hs, iterF_from hr b i 0 fl hf (Int.le_refl _) (Int.pow_pos (by decide)), if_neg (by decide), if_neg (by decide)]
theorem fig_eq {n : Int} {l : Str} (hl : Four l) (h0 : 0 ≤ n) (hn : n ≤ 10000) : lawF n (rdx l) (l == Str.ofString "X") = figS n l := by
  have hr : 8 ≤ rdx l := by
    unfold rdx
    split
    · decide
    · split <;> decide
  generalize hb : (l == Str.ofString "X") = b
  unfold lawF figS
  rw [hb]
  generalize rdx l = r at hr
  rw [List.map_reverse]
  congr 1
  have e : dgs r 5 n = dgs r 8 n := by
    rw [dgs_more hr 6 n h0 (by omega), dgs_more hr 5 n h0 (by omega), dgs_more hr 4 n h0 (by omega)]
  rw [e, iterF_left]
  obtain ⟨g1, g2⟩ := fdiv_small (f := 7) h0 (by omega : n < 8 ^ 8) hr
  rw [show stepF r b (n, []) = (n.fdiv r, [] ++ [digC b (n.fmod r)]) from if_pos (.inr rfl), iterF_from hr b 7 _ _ (by simp) g1 g2, dgs]
  by_cases hq : 0 < n.fdiv r
  · rw [if_pos hq, if_pos hq]; rfl
  · rw [if_neg hq, if_neg hq]; rfl
end
section
/-! ## What a part is, and how the ledger bears it -/
inductive Prt where
  | flat (ws tale : List Int)
  | spec (st : Str) (th : Thg) (tale : List Int)
noncomputable def ThIn (w : World) (R : List (Addr × Obj)) (v : Value) : Thg → Prop
  | .num n => ∃ t, v = .int n t
  | .txt l => ∃ y dy lt ky n kq vt, v = .ref y ∧ (y, instO 200 dy) ∈ R ∧ (dy, dictOf (textEs w ky lt) n) ∈ R ∧ (lt, listOf (List.toArray vt) kq) ∈ R ∧ IntsAre vt l
  | .any => True
noncomputable def PIn (w : World) (R : List (Addr × Obj)) (ra : Addr) : Prt → Prop
  | .flat ws tale => ∃ k a b k1 k2 vs us, (ra, listOf #[.ref a, .none, .ref b] k) ∈ R ∧ (a, listOf (List.toArray vs) k1) ∈ R ∧ IntsAre vs ws ∧ (b, listOf (List.toArray us) k2) ∈ R ∧ IntsAre us tale
  | .spec st th tale => ∃ k t v a k1 vs, (ra, listOf #[.str st t, v, .ref a] k) ∈ R ∧ ThIn w R v th ∧ (a, listOf (List.toArray vs) k1) ∈ R ∧ IntsAre vs tale
theorem ThIn.mono {w : World} {R R' : List (Addr × Obj)} {v : Value} {T : Thg} (x : ThIn w R v T) (h : ∀ q ∈ R, q ∈ R') : ThIn w R' v T := by
  cases T with
  | num n => exact x
  | any => trivial
  | txt l =>
    obtain ⟨y, dy, lt, ky, n, kq, vt, e, i1, i2, g, q⟩ := x
    exact ⟨y, dy, lt, ky, n, kq, vt, e, h _ i1, h _ i2, h _ g, q⟩
theorem PIn.mono {w : World} {R R' : List (Addr × Obj)} {ra : Addr} {p : Prt} (x : PIn w R ra p) (h : ∀ q ∈ R, q ∈ R') : PIn w R' ra p := by
  cases p with
  | flat ws tale =>
    obtain ⟨k, a, b, k1, k2, vs, us, h1, h2, h3, h4, h5⟩ := x
    exact ⟨k, a, b, k1, k2, vs, us, h _ h1, h _ h2, h3, h _ h4, h5⟩
  | spec st th tale =>
    obtain ⟨k, t, v, a, k1, vs, h1, h2, h3, h4⟩ := x
    exact ⟨k, t, v, a, k1, vs, h _ h1, h2.mono h, h _ h3, h4⟩
noncomputable def flagS : List Nat → List Bool → List Str
  | c :: cs, b :: bs => (if b then [({ cps := #[c] } : Str)] else []) ++ flagS cs bs
  | _, _ => []
theorem flagS_snoc : ∀ (cs : List Nat) (bs : List Bool) (b : Bool) (c : Nat), cs[bs.length]? = some c → flagS cs (bs ++ [b]) = flagS cs bs ++ (if b then [({ cps := #[c] } : Str)] else [])
  | [], bs, b, c, h => by simp at h
  | d :: cs, [], b, c, h => by
    have : d = c := by simpa using h
    subst this
    simp [flagS]
  | d :: cs, x :: bs, b, c, h => by
    have := flagS_snoc cs bs b c (by simpa using h)
    simp only [List.cons_append, flagS, this, List.append_assoc]
theorem flagS_len : ∀ (cs : List Nat) (bs : List Bool), ((flagS cs bs).map (·.length)).sum = (flagS cs bs).length ∧ (flagS cs bs).length ≤ cs.length
  | [], bs => by cases bs <;> exact ⟨rfl, Nat.le_refl _⟩
  | c :: cs, [] => ⟨rfl, Nat.zero_le _⟩
  | c :: cs, b :: bs => by
    have := flagS_len cs bs
    cases b
    · simp only [flagS, Bool.false_eq_true, if_false, List.nil_append, List.length_cons]
      exact ⟨this.1, by omega⟩
    · simp only [flagS, if_true, List.cons_append, List.nil_append, List.map_cons, List.sum_cons, List.length_cons]
      refine ⟨?_, by omega⟩
      rw [this.1]
      show 1 + _ = _
      omega
theorem strs_append {vs us : List Value} {ys zs : List Str} (h : StrsAre vs ys) (g : StrsAre us zs) : StrsAre (vs ++ us) (ys ++ zs) := by
  induction h with
  | nil => exact g
  | cons y t _ ih => exact .cons y t ih
noncomputable def flagT (bs : List Bool) : Str := Txt.join (Str.ofString "") (flagS [45, 43, 32, 48, 35] bs)
noncomputable def wideT (wi : Int) : Str := if 0 < wi then Str.ofString (toString wi) else Str.ofString ""
noncomputable def sizeT (sz : Int) : Str := if 0 ≤ sz then Str.ofString "." ++ Str.ofString (toString sz) else Str.ofString ""
noncomputable def wordT (le pl bl no ma : Bool) (wi sz : Int) (l : Str) : Str := flagT [le, pl, bl, no, ma] ++ wideT wi ++ sizeT sz ++ l
noncomputable def JText (lc : Addr) (oc : Obj) (dk : Addr) (od : Obj) (i : Nat) (ys : List Value) (nw : List (Addr × Obj)) : Prop :=
  ∃ (l : List Int), IntsAre ys l ∧ l.length = i ∧ nw = [(lc, oc), (dk, od)]
theorem range_five {r : Int} (h0 : 0 ≤ r) (h1 : r < 5) : Builtin.Range.small 0 r 1 = true ∧ Builtin.Range.rangeSize 0 r 1 = ((r.toNat : Nat) : Int) := by
  have h : r = 0 ∨ r = 1 ∨ r = 2 ∨ r = 3 ∨ r = 4 := by omega
  rcases h with rfl | rfl | rfl | rfl | rfl <;> exact ⟨rfl, rfl⟩
noncomputable def JFlags (lc : Addr) (oc : Obj) (dk : Addr) (i : Nat) (ys : List Value) (nw : List (Addr × Obj)) : Prop :=
  ∃ (bs : List Bool) (vs : List Value) (ds : List Int) (k : Nat), bs.length = i ∧ StrsAre ys (flagS [45, 43, 32, 48, 35] bs) ∧ nw = [(lc, oc), (dk, listOf (List.toArray vs) k)] ∧ Dk vs ds
/-- the parts that the law builds -/
inductive PGood : Prt → Prop
  | plain (c : Int) (k : Nat) (h1 : 97 ≤ c) (h2 : c ≤ 99) (h3 : k ≤ 2) : PGood (.flat (List.replicate k c) (List.replicate k c))
  | pct : PGood (.flat [37, 37] [37])
  | num (le pl bl no ma : Bool) (wi sz : Int) (l : Str) (n : Int) (h1 : 0 ≤ wi) (h2 : wi ≤ 8) (h3 : -2 ≤ sz) (h4 : sz ≤ 3) (hl : Four l) (h5 : -1000 ≤ n) (h6 : n ≤ 1000) : PGood (.spec (wordT le pl bl no ma wi sz l) (.num n) (nCodes ⟨-1, le, pl, bl, no, ma, wi, sz, l⟩ n))
  | chr (le pl bl no ma : Bool) (wi sz : Int) (n : Int) (h1 : 0 ≤ wi) (h2 : wi ≤ 8) (h3 : -2 ≤ sz) (h4 : sz ≤ 3) (h5 : 0 ≤ n) (h6 : n ≤ 1000) : PGood (.spec (wordT le pl bl no ma wi sz (Str.ofString "c")) (.num n) (padS le wi [n]))
  | txt (le pl bl no ma : Bool) (wi sz : Int) (l : List Int) (h1 : 0 ≤ wi) (h2 : wi ≤ 8) (h3 : -2 ≤ sz) (h4 : sz ≤ 3) (h5 : l.length ≤ 10) : PGood (.spec (wordT le pl bl no ma wi sz (Str.ofString "s")) (.txt l) (padS le wi (cutS sz l)))
section
variable {w : World} {g h : Heap} {L dk ra a b : Addr} {o : Obj} {k0 k1 k2 : Nat} {us vs : List Value} {own ws : List Int} {more : List (Addr × Obj)}
theorem part_flat1 (N : News g L h ((ra, listOf #[.ref a, .none, .ref a] k0) :: (a, listOf (List.toArray us) k1) :: more)) (hd : (dk, o) ∈ more) (hI : IntsAre us own) (h1 : @LT.lt Nat _ dk ra) (h2 : @LT.lt Nat _ dk a) :
    ∃ R, PIn w R ra (.flat own own) ∧ News g L h ((dk, o) :: R) ∧ ∀ q ∈ R, q.1 ≠ dk := by
  refine ⟨[(ra, listOf #[.ref a, .none, .ref a] k0), (a, listOf (List.toArray us) k1)], ⟨_, a, a, _, _, us, us, .head _, .tail _ (.head _), hI, .tail _ (.head _), hI⟩, fun q hq => N q ?_, fun q hq => ?_⟩
  · rcases List.mem_cons.mp hq with rfl | hq
    · exact .tail _ (.tail _ hd)
    · exact List.mem_append_left more hq
  · simp only [List.mem_cons, List.not_mem_nil, or_false] at hq
    rcases hq with rfl | rfl
    · exact Nat.ne_of_gt h1
    · exact Nat.ne_of_gt h2
theorem part_flat2 (N : News g L h ((ra, listOf #[.ref a, .none, .ref b] k0) :: (b, listOf (List.toArray us) k1) :: (a, listOf (List.toArray vs) k2) :: more)) (hd : (dk, o) ∈ more) (hI : IntsAre us own) (hI2 : IntsAre vs ws) (h1 : @LT.lt Nat _ dk ra) (h2 : @LT.lt Nat _ dk b) (h3 : @LT.lt Nat _ dk a) :
    ∃ R, PIn w R ra (.flat ws own) ∧ News g L h ((dk, o) :: R) ∧ ∀ q ∈ R, q.1 ≠ dk := by
  refine ⟨[(ra, listOf #[.ref a, .none, .ref b] k0), (b, listOf (List.toArray us) k1), (a, listOf (List.toArray vs) k2)], ⟨_, a, b, _, _, vs, us, .head _, .tail _ (.tail _ (.head _)), hI2, .tail _ (.head _), hI⟩, fun q hq => N q ?_, fun q hq => ?_⟩
  · rcases List.mem_cons.mp hq with rfl | hq
    · exact .tail _ (.tail _ (.tail _ hd))
    · exact List.mem_append_left more hq
  · simp only [List.mem_cons, List.not_mem_nil, or_false] at hq
    rcases hq with rfl | rfl | rfl
    · exact Nat.ne_of_gt h1
    · exact Nat.ne_of_gt h2
    · exact Nat.ne_of_gt h3
theorem part_num {n : Int} {st : Str} {t1 t2 : Tok} {as : Array Value} {tale : List Int} (N : News g L h ((ra, listOf #[.str st t1, .int n t2, .ref a] k0) :: (a, listOf as k1) :: more)) (hd : (dk, o) ∈ more) (hI : IntsAre as.toList tale) (h1 : @LT.lt Nat _ dk ra) (h2 : @Ne Nat a dk) :
    ∃ R, PIn w R ra (.spec st (.num n) tale) ∧ News g L h ((dk, o) :: R) ∧ ∀ q ∈ R, q.1 ≠ dk := by
  obtain ⟨us⟩ := as
  refine ⟨[(ra, listOf #[.str st t1, .int n t2, .ref a] k0), (a, listOf (List.toArray us) k1)], ⟨_, _, _, a, _, us, .head _, ⟨_, rfl⟩, .tail _ (.head _), hI⟩, fun q hq => N q ?_, fun q hq => ?_⟩
  · rcases List.mem_cons.mp hq with rfl | hq
    · exact .tail _ (.tail _ hd)
    · exact List.mem_append_left more hq
  · simp only [List.mem_cons, List.not_mem_nil, or_false] at hq
    rcases hq with rfl | rfl
    · exact Nat.ne_of_gt h1
    · exact h2
theorem part_txt {st : Str} {y dy lt : Addr} {ky : Nat → Tok} {t1 : Tok} {as : Array Value} {ys : List Value} {l tale : List Int} {kq n : Nat} (N : News g L h ((ra, listOf #[.str st t1, .ref y, .ref a] k0) :: (a, listOf as k1) :: more)) (hy : (y, instO 200 dy) ∈ more) (hdy : (dy, dictOf (textEs w ky lt) n) ∈ more) (hlt : (lt, listOf (List.toArray ys) kq) ∈ more) (hd : (dk, o) ∈ more) (hl : IntsAre ys l) (hI : IntsAre as.toList tale)
    (h1 : @LT.lt Nat _ dk ra) (h2 : @Ne Nat a dk) (h3 : @Ne Nat y dk) (h4 : @Ne Nat dy dk) (h5 : @Ne Nat lt dk) :
    ∃ R, PIn w R ra (.spec st (.txt l) tale) ∧ News g L h ((dk, o) :: R) ∧ ∀ q ∈ R, q.1 ≠ dk := by
  obtain ⟨us⟩ := as
  refine ⟨[(ra, listOf #[.str st t1, .ref y, .ref a] k0), (a, listOf (List.toArray us) k1), (y, instO 200 dy), (dy, dictOf (textEs w ky lt) n), (lt, listOf (List.toArray ys) kq)],
    ⟨_, _, _, a, _, us, .head _, ⟨y, dy, lt, ky, n, kq, ys, rfl, .tail _ (.tail _ (.head _)), .tail _ (.tail _ (.tail _ (.head _))), .tail _ (.tail _ (.tail _ (.tail _ (.head _)))), hl⟩, .tail _ (.head _), hI⟩, fun q hq => N q ?_, fun q hq => ?_⟩
  · simp only [List.mem_cons, List.not_mem_nil, or_false] at hq ⊢
    rcases hq with rfl | rfl | rfl | rfl | rfl | rfl
    · exact .inr (.inr hd)
    · exact .inl rfl
    · exact .inr (.inl rfl)
    · exact .inr (.inr hy)
    · exact .inr (.inr hdy)
    · exact .inr (.inr hlt)
  · simp only [List.mem_cons, List.not_mem_nil, or_false] at hq
    rcases hq with rfl | rfl | rfl | rfl | rfl
    · exact Nat.ne_of_gt h1
    · exact h2
    · exact h3
    · exact h4
    · exact h5
end
theorem occ_le : ∀ le pl bl no ma : Bool, le = !occ (flagT [le, pl, bl, no, ma]) "-" := by decide +kernel
theorem occ_pl : ∀ le pl bl no ma : Bool, pl = !occ (flagT [le, pl, bl, no, ma]) "+" := by decide +kernel
theorem occ_bl : ∀ le pl bl no ma : Bool, bl = !occ (flagT [le, pl, bl, no, ma]) " " := by decide +kernel
theorem occ_no : ∀ le pl bl no ma : Bool, no = !occ (flagT [le, pl, bl, no, ma]) "0" := by decide +kernel
theorem occ_ma : ∀ le pl bl no ma : Bool, ma = !occ (flagT [le, pl, bl, no, ma]) "#" := by decide +kernel
theorem wide_pad {fl : Str} {le : Bool} {wi : Int} {ns : List Int} (h : le = !occ fl "-") : (if (Builtin.Str.occurrences fl (Str.ofString "-") 0 fl.length 1).isEmpty then List.replicate (wi - ns.length).toNat 32 ++ ns else ns ++ List.replicate (wi - ns.length).toNat 32) = padS le wi ns := by
  unfold padS
  subst h
  cases q : occ fl "-"
  · rw [if_neg (show ¬ _ = true by rw [show (Builtin.Str.occurrences fl (Str.ofString "-") 0 fl.length 1).isEmpty = false from q]; decide)]; rfl
  · rw [if_pos (show _ = true from q)]; rfl
theorem letter7 {r : Int} (h0 : 0 ≤ r) (h1 : r < 7) : Four (Txt.item (Str.ofString "dXoxdcs") r) ∨ Txt.item (Str.ofString "dXoxdcs") r = Str.ofString "c" ∨ Txt.item (Str.ofString "dXoxdcs") r = Str.ofString "s" := by
  have h : r = 0 ∨ r = 1 ∨ r = 2 ∨ r = 3 ∨ r = 4 ∨ r = 5 ∨ r = 6 := by omega
  unfold Four
  rcases h with rfl | rfl | rfl | rfl | rfl | rfl | rfl <;> decide +kernel
theorem flag_len : ∀ le pl bl no ma : Bool, (flagT [le, pl, bl, no, ma]).length ≤ 5 := by decide +kernel
theorem letter_len {l : Str} (h : Four l ∨ l = Str.ofString "c" ∨ l = Str.ofString "s") : l.length = 1 := by
  unfold Four at h
  rcases h with (rfl | rfl | rfl | rfl) | rfl | rfl <;> decide +kernel
section
variable {w : World} {dp un : Nat} {gd : Option (List Code)} {cn : Str} {cs : Scope} {a : Addr} {ccd : Value} {cl : List (Str × Addr)} {outer : List Env} {A₀ : Around} {base h₀ : Heap} {L : Addr}
  {m : Str → Option Value} {s : Shared} {Q E : Value → Shared → Prop} {loose : List Str} {mean : ExcName → Option Value} {mg mb : Str → Option Value} {p : Program} {news : List (Addr × Obj)}

theorem lpart_c {dk : Addr} {vs : List Value} {ds : List Int} {k : Nat} {rest : List (Addr × Obj)}
  (B : Below A₀ base outer h₀) (F : Fr h₀ L s.heap m) (X : (heapK w.params).In h₀) (N : News h₀ L s.heap news) (T : Top p loose mean mg mb h₀) (hk : cs.kind = .function)
  (hdk : (dk, listOf (List.toArray vs) k) ∈ news) (hD : Dk vs ds) (hrest : ∀ q ∈ rest, q ∈ news ∧ q.1 ≠ dk)
  (hd : dp + 5 < recursionLimit) (hu : un + 140 < cLine)
  (hret : ∀ R ra p vs' ds' k' h' tk', Dk vs' ds' → PIn w R ra p → PGood p → Fr h₀ L h' m → News h₀ L h' (((dk, listOf (List.toArray vs') k') :: R) ++ rest) → (∀ q ∈ R, q.1 ≠ dk) → (∀ q ∈ R, ∀ r ∈ rest, q.1 ≠ r.1) → Q (.ref ra) { s with heap := h', toks := tk' })  :
  wpAny (model PySem.Challenge.rw_np0086_01.row.prog w) (ktrTop dp un gd cn cs L a ccd cl outer) (call (.ref 588) [.ref dk]) Q E s := by
  (revert X; k_fill; intro X)
  k_dflt (refine enterX (binds := [("deck", .ref dk)]) B F X N T [(dk, listOf (List.toArray vs) k)] rest (by intro q hq; simp only [List.mem_cons, List.not_mem_nil, or_false] at hq; rw [hq]; exact hdk) (by intro q hq; exact ⟨(hrest q hq).1, by simpa using (hrest q hq).2⟩) rfl rfl hk (by k_is) (by k_is) (by ktr_room) (BindsTo.of_eq rfl) (by rfl) (by decide) ?_ rfl rfl rfl)
  intro g L' h₁ tk cells PQ PE G F' N' Y lD B' X' T' hPQ hPE hEx
  set_option simprocs false in dsimp only [b588, qb588]
  obtain ⟨oc, rfl, hoc⟩ := CellsAre.one (n := Str.ofString "deck") (c := L' + 1) Y
  change oc.data = .cell (some (.ref dk)) at hoc
  change News g L' h₁ [(L' + 1, oc), (dk, listOf (List.toArray vs) k)] at N'
  have hdl : @LT.lt Nat _ dk L' := lD _ (.head _)
  clear B F N T X G Y lD
  refine cutA (fun Z => ∀ (vs : List Value) (ds : List Int) (k : Nat) (r : Int) (t : Tok) h' tk' m', Fr g L' h' (over m' [(Str.ofString "way", .int r t)]) → News g L' h' [(L' + 1, oc), (dk, listOf (List.toArray vs) k)] → Dk vs ds → 0 ≤ r → r < 5 → Z h' tk') ?_ ?_
  · intro Z hZ
    repeat' (first | ((with_reducible show wpAny _ _ (call (Value.ref 559) _) _ _ _); k_dflt (refine draw_u (by k_asm) (by k_asm) (by k_asm) (by k_asm) (by k_asm) (by rfl) (by k_updF) (by assumption) (by decide) (by decide) (by ktr_room) (by ktr_units) ?_); intro vs' ds' k' r' t' h' tk' hD' hr0' hr1' F' N'; (try dsimp only at N'); (try dsimp only)) | walk_at "K")
    exact hZ _ _ _ _ _ _ _ _ (frB (by assumption) (by rfl)) (ledA (by assumption) (by lcg_sub)) (by assumption) (by assumption) (by assumption)
  clear F' N' hD
  intro vs ds k r t h2 tk2 m2 F2 NL2 hD hr0 hr1
  refine cutA (fun Z => ∀ (vs : List Value) (ds : List Int) (k : Nat) (t : Tok) h' tk' m', Fr g L' h' (over m' [(Str.ofString "way", .int r t)]) → News g L' h' [(L' + 1, oc), (dk, listOf (List.toArray vs) k)] → Dk vs ds → Z h' tk') ?_ ?_
  · intro Z hZ
    repeat' (first | ((with_reducible show wpAny _ _ (call (Value.ref 559) _) _ _ _); k_dflt (refine draw_u (by k_asm) (by k_asm) (by k_asm) (by k_asm) (by k_asm) (by rfl) (by k_updF) (by assumption) (by decide) (by decide) (by ktr_room) (by ktr_units) ?_); intro vs' ds' k' r' t' h' tk' hD' hr0' hr1' F' N'; (try dsimp only at N'); (try dsimp only)) | walk_at "K")
    · ((refine wpAny_execs_cons ?_); repeat' (first | ((with_reducible show wpAny _ _ (call (Value.ref 559) _) _ _ _); k_dflt (refine draw_u (by k_asm) (by k_asm) (by k_asm) (by k_asm) (by k_asm) (by rfl) (by k_updF) (by assumption) (by decide) (by decide) (by ktr_room) (by ktr_units) ?_); intro vs' ds' k' r' t' h' tk' hD' hr0' hr1' F' N'; (try dsimp only at N'); (try dsimp only)) | walk_at "K"))
      ((refine wpAny_execs_cons ?_); repeat' (first | ((with_reducible show wpAny _ _ (call (Value.ref 559) _) _ _ _); k_dflt (refine draw_u (by k_asm) (by k_asm) (by k_asm) (by k_asm) (by k_asm) (by rfl) (by k_updF) (by assumption) (by decide) (by decide) (by ktr_room) (by ktr_units) ?_); intro vs' ds' k' r' t' h' tk' hD' hr0' hr1' F' N'; (try dsimp only at N'); (try dsimp only)) | walk_at "K"))
      rename News g L' _ ((_, listOf #[Value.ref _, Value.none, Value.ref _] _) :: _) => Nw
      rename Fr g L' _ _ => Fw
      rename IntsAre (List.flatten _) _ => hI
      obtain ⟨R, hp, hn, ho⟩ := part_flat1 (w := w) (dk := dk) Nw (by k_mem) hI (by omega) (by omega)
      exact hPQ _ _ ⟨_, _, Fw, hn, fun b => hret R _ _ _ _ _ _ _ (by assumption) hp (by rw [List.flatten_replicate_singleton]; exact .plain _ _ (by omega) (by omega) (by omega)) b.fr b.nw ho (fun q hq r hr => b.off q (.tail _ hq) r hr)⟩
    · exact hZ _ _ _ _ _ _ _ (frB (by assumption) (by rfl)) (ledA (by assumption) (by lcg_sub)) (by assumption)
  clear F2 NL2 hD
  intro vs ds k t h3 tk3 m3 F3 NL3 hD
  refine cutA (fun Z => ∀ (vs : List Value) (ds : List Int) (k : Nat) h' tk' m', Fr g L' h' m' → News g L' h' [(L' + 1, oc), (dk, listOf (List.toArray vs) k)] → Dk vs ds → Z h' tk') ?_ ?_
  · intro Z hZ
    repeat' (first | ((with_reducible show wpAny _ _ (call (Value.ref 559) _) _ _ _); k_dflt (refine draw_u (by k_asm) (by k_asm) (by k_asm) (by k_asm) (by k_asm) (by rfl) (by k_updF) (by assumption) (by decide) (by decide) (by ktr_room) (by ktr_units) ?_); intro vs' ds' k' r' t' h' tk' hD' hr0' hr1' F' N'; (try dsimp only at N'); (try dsimp only)) | walk_at "K")
    · ((refine wpAny_execs_cons ?_); repeat' (first | ((with_reducible show wpAny _ _ (call (Value.ref 559) _) _ _ _); k_dflt (refine draw_u (by k_asm) (by k_asm) (by k_asm) (by k_asm) (by k_asm) (by rfl) (by k_updF) (by assumption) (by decide) (by decide) (by ktr_room) (by ktr_units) ?_); intro vs' ds' k' r' t' h' tk' hD' hr0' hr1' F' N'; (try dsimp only at N'); (try dsimp only)) | walk_at "K"))
      rename News g L' _ ((_, listOf #[Value.ref _, Value.none, Value.ref _] _) :: _) => Nw
      rename Fr g L' _ _ => Fw
      obtain ⟨R, hp, hn, ho⟩ := part_flat2 (w := w) (dk := dk) Nw (by k_mem) (.cons 37 _ .nil) (.cons 37 _ (.cons 37 _ .nil)) (by omega) (by omega) (by omega)
      exact hPQ _ _ ⟨_, _, Fw, hn, fun b => hret R _ _ _ _ _ _ _ (by assumption) hp .pct b.fr b.nw ho (fun q hq r hr => b.off q (.tail _ hq) r hr)⟩
    · exact hZ _ _ _ _ _ _ (by assumption) (ledA (by assumption) (by lcg_sub)) (by assumption)
  clear F3 NL3 hD
  intro vs ds k h4 tk4 m4 F4 NL4 hD
  refine cutA (fun Z => ∀ (vs : List Value) (ds : List Int) (k : Nat) (bs : List Bool) (tf : Tok) h' tk' m', Fr g L' h' (over m' [(Str.ofString "flags", .str (flagT bs) tf)]) → News g L' h' [(L' + 1, oc), (dk, listOf (List.toArray vs) k)] → Dk vs ds → bs.length = 5 → Z h' tk') ?_ ?_
  · intro Z hZ
    repeat' ((fail_if_success (with_reducible show wpAny _ _ (eval (Expr.ListComp _ _ _ _) _) _ _ _)); (first | ((with_reducible show wpAny _ _ (call (Value.ref 559) _) _ _ _); k_dflt (refine draw_u (by k_asm) (by k_asm) (by k_asm) (by k_asm) (by k_asm) (by rfl) (by k_updF) (by assumption) (by decide) (by decide) (by ktr_room) (by ktr_units) ?_); intro vs' ds' k' r' t' h' tk' hD' hr0' hr1' F' N'; (try dsimp only at N'); (try dsimp only)) | walk_at "K"))
    refine ListComp_ST F4 (by with_unfolding_all rfl) (by decide) (by rfl) (by decide) (by rfl) ?_
    (first | ((with_reducible show wpAny _ _ (call (Value.ref 559) _) _ _ _); k_dflt (refine draw_u (by k_asm) (by k_asm) (by k_asm) (by k_asm) (by k_asm) (by rfl) (by k_updF) (by assumption) (by decide) (by decide) (by ktr_room) (by ktr_units) ?_); intro vs' ds' k' r' t' h' tk' hD' hr0' hr1' F' N'; (try dsimp only at N'); (try dsimp only)) | walk_at "K")
    refine ⟨Str.ofString "-+ 0#", _, _, rfl, by rfl, F4, NL4, by decide +kernel, fun s₂ hs₂ => ?_⟩
    obtain ⟨h2, rfl⟩ := hs₂
    refine compRestT_inv (JFlags (L' + 1) oc dk) 5 ?_ ?_ _ 0 [] _ (by decide +kernel) ⟨[], vs, ds, k, rfl, .nil, rfl, hD⟩
    · clear F4 NL4 hD
      rintro i ys news hi ⟨bs, vs, ds, k, hbl, hst, rfl, hD⟩ v I oI C oC D m₂ h tk E' ⟨c, u, hc, rfl⟩ hC hx F N off ne
      simp only [LCg.Off3, and_true] at off
      have hcps : (Str.ofString "-+ 0#").cps = #[45, 43, 32, 48, 35] := by decide +kernel
      rw [hcps] at hc
      have hc' : [45, 43, 32, 48, 35][bs.length]? = some c := by rw [hbl]; simpa using hc
      repeat' (first | ((with_reducible show wpAny _ _ (call (Value.ref 559) _) _ _ _); k_dflt (refine draw_u (by k_asm) (by k_asm) (by k_asm) (by k_asm) (by k_asm) (by rfl) (by k_updF) (by assumption) (by decide) (by decide) (by ktr_room) (by ktr_units) ?_); intro vs' ds' k' r' t' h' tk' hD' hr0' hr1' F' N'; (try dsimp only at N'); (try dsimp only)) | walk_at "K")
      · exact ⟨bs ++ [true], _, _, _, by rw [List.length_append, hbl]; rfl, by rw [flagS_snoc _ _ _ _ hc']; exact strs_append hst (.cons _ _ .nil), rfl, by assumption⟩
      · exact ⟨bs ++ [false], _, _, _, by rw [List.length_append, hbl]; rfl, by rw [flagS_snoc _ _ _ _ hc']; simpa using hst, rfl, by assumption⟩
    · rintro ys news ⟨bs, vs, ds, k, hbl, hst, rfl, hD⟩ D h tk F N o1
      have hok : ((flagS [45, 43, 32, 48, 35] bs).map (·.length)).sum + (flagS [45, 43, 32, 48, 35] bs).length * (Str.ofString "").length ≤ 16777216 := by
        have := flagS_len [45, 43, 32, 48, 35] bs
        rw [this.1, show (Str.ofString "").length = 0 from by decide +kernel]
        have h2 := this.2
        simp only [List.length_cons, List.length_nil] at h2
        omega
      clear F4 NL4
      repeat' ((fail_if_success (with_reducible show wpAny _ _ (call (Value.builtin _) _) _ _ _)); (first | ((with_reducible show wpAny _ _ (call (Value.ref 559) _) _ _ _); k_dflt (refine draw_u (by k_asm) (by k_asm) (by k_asm) (by k_asm) (by k_asm) (by rfl) (by k_updF) (by assumption) (by decide) (by decide) (by ktr_room) (by ktr_units) ?_); intro vs' ds' k' r' t' h' tk' hD' hr0' hr1' F' N'; (try dsimp only at N'); (try dsimp only)) | walk_at "K"))
      refine join_list (News.isList N (.head _)) (ys := flagS [45, 43, 32, 48, 35] bs) hst hok ?_
      intro t' k'
      (try dsimp only)
      repeat' (first | ((with_reducible show wpAny _ _ (call (Value.ref 559) _) _ _ _); k_dflt (refine draw_u (by k_asm) (by k_asm) (by k_asm) (by k_asm) (by k_asm) (by rfl) (by k_updF) (by assumption) (by decide) (by decide) (by ktr_room) (by ktr_units) ?_); intro vs' ds' k' r' t' h' tk' hD' hr0' hr1' F' N'; (try dsimp only at N'); (try dsimp only)) | walk_at "K")
      exact hZ _ _ _ bs _ _ _ _ (frB (by assumption) (by rfl)) (ledA (by assumption) (by lcg_sub)) (by assumption) hbl
  clear F4 NL4 hD
  intro vs ds k bs tf h5 tk5 m5 F5 NL5 hD hbl
  obtain ⟨le, pl, bl, no, ma, rfl⟩ : ∃ le pl bl no ma, bs = [le, pl, bl, no, ma] := by
    match bs, hbl with
    | [a, b, c, d, e], _ => exact ⟨a, b, c, d, e, rfl⟩
  clear hbl
  refine cutA (fun Z => ∀ (vs : List Value) (ds : List Int) (k : Nat) (wi sz : Int) (t1 t2 : Tok) h' tk' m', Fr g L' h' (over m' [(Str.ofString "width", .int wi t1), (Str.ofString "size", .int sz t2), (Str.ofString "flags", .str (flagT [le, pl, bl, no, ma]) tf)]) → News g L' h' [(L' + 1, oc), (dk, listOf (List.toArray vs) k)] → Dk vs ds → 0 ≤ wi → wi ≤ 8 → -2 ≤ sz → sz ≤ 3 → Z h' tk') ?_ ?_
  · intro Z hZ
    repeat' (first | ((with_reducible show wpAny _ _ (call (Value.ref 559) _) _ _ _); k_dflt (refine draw_u (by k_asm) (by k_asm) (by k_asm) (by k_asm) (by k_asm) (by rfl) (by k_updF) (by assumption) (by decide) (by decide) (by ktr_room) (by ktr_units) ?_); intro vs' ds' k' r' t' h' tk' hD' hr0' hr1' F' N'; (try dsimp only at N'); (try dsimp only)) | walk_at "K")
    exact hZ _ _ _ _ _ _ _ _ _ _ (frB (by assumption) (by rfl)) (ledA (by assumption) (by lcg_sub)) (by assumption) (by omega) (by omega) (by omega) (by omega)
  clear F5 NL5 hD
  intro vs ds k wi sz t1 t2 h6 tk6 m6 F6 NL6 hD hw1 hw2 hs1 hs2
  refine cutA (fun Z => ∀ (vs : List Value) (ds : List Int) (k : Nat) (l : Str) (t3 : Tok) h' tk' m', Fr g L' h' (over m' [(Str.ofString "letter", .str l t3), (Str.ofString "width", .int wi t1), (Str.ofString "size", .int sz t2), (Str.ofString "flags", .str (flagT [le, pl, bl, no, ma]) tf)]) → News g L' h' [(L' + 1, oc), (dk, listOf (List.toArray vs) k)] → Dk vs ds → (Four l ∨ l = Str.ofString "c" ∨ l = Str.ofString "s") → Z h' tk') ?_ ?_
  · intro Z hZ
    repeat' (first | ((with_reducible show wpAny _ _ (call (Value.ref 559) _) _ _ _); k_dflt (refine draw_u (by k_asm) (by k_asm) (by k_asm) (by k_asm) (by k_asm) (by rfl) (by k_updF) (by assumption) (by decide) (by decide) (by ktr_room) (by ktr_units) ?_); intro vs' ds' k' r' t' h' tk' hD' hr0' hr1' F' N'; (try dsimp only at N'); (try dsimp only)) | walk_at "K")
    exact hZ _ _ _ _ _ _ _ _ (frB (by assumption) (by rfl)) (ledA (by assumption) (by lcg_sub)) (by assumption) (letter7 (by assumption) (by assumption))
  clear F6 NL6 hD
  intro vs ds k l t3 h7 tk7 m7 F7 NL7 hD hl
  have hfl := flag_len le pl bl no ma
  have hll := letter_len hl
  refine cutA (fun Z => ∀ (t4 : Tok) h' tk' m', Fr g L' h' (over m' [(Str.ofString "words", .str (wordT le pl bl no ma wi sz l) t4), (Str.ofString "letter", .str l t3), (Str.ofString "width", .int wi t1), (Str.ofString "size", .int sz t2), (Str.ofString "flags", .str (flagT [le, pl, bl, no, ma]) tf)]) → News g L' h' [(L' + 1, oc), (dk, listOf (List.toArray vs) k)] → Z h' tk') ?_ ?_
  · intro Z hZ
    have ew : wordT le pl bl no ma wi sz l = flagT [le, pl, bl, no, ma] ++ wideT wi ++ sizeT sz ++ l := rfl
    rw [ew] at hZ
    clear ew
    generalize flagT [le, pl, bl, no, ma] = fl at *
    repeat' walk_at "K"
    all_goals
      first
        | rw [show wideT wi = Str.ofString (toString wi) from if_pos (by assumption)] at hZ
        | rw [show wideT wi = Str.ofString "" from if_neg (by assumption)] at hZ
      first
        | rw [show sizeT sz = Str.ofString "." ++ Str.ofString (toString sz) from if_pos (by assumption)] at hZ
        | rw [show sizeT sz = Str.ofString "" from if_neg (by assumption)] at hZ
      exact hZ _ _ _ _ (frB (by assumption) (by rfl)) (ledA (by assumption) (by lcg_sub))
  (try clear F7 NL7)
  intro t4 h8 tk8 m8 F8 NL8
  by_cases hls : l = Str.ofString "s"
  · subst hls
    clear hl hll
    ((refine wpAny_execs_cons ?_); repeat' (first | ((with_reducible show wpAny _ _ (call (Value.ref 559) _) _ _ _); k_dflt (refine draw_u (by k_asm) (by k_asm) (by k_asm) (by k_asm) (by k_asm) (by rfl) (by k_updF) (by assumption) (by decide) (by decide) (by ktr_room) (by ktr_units) ?_); intro vs' ds' k' r' t' h' tk' hD' hr0' hr1' F' N'; (try dsimp only at N'); (try dsimp only)) | ((with_reducible show wpAny _ _ (call (Value.ref 576) _) _ _ _); k_dflt (refine wide_c (by k_asm) (by k_asm) (by k_asm) (by k_asm) (by k_asm) (by rfl) (by walk_at "ISLIST") (by l_ints) (by (try simp only [List.length_cons, List.length_nil]); omega) (by omega) (by omega) (by omega) (by ktr_room) (by ktr_units) ?_); intro r' ws' n' h' tk' F' N' o1' hI'; (have n1' := offN o1'); (try simp only [OffN, and_true] at n1'); (try dsimp only)) | ((with_reducible show wpAny _ _ (call (Value.ref 200) _) _ _ _); k_dflt (refine text_c (by k_asm) (by k_asm) (by k_asm) (by k_asm) (by k_asm) (by rfl) (by ktr_room) (by ktr_units) ?_); intro x' dx' kt' h' tk' F' N' o1' o2'; (have n1' := offN o1'); (have n2' := offN o2'); (try simp only [OffN, and_true] at n1' n2'); (try dsimp only)) | ((with_reducible show wpAny _ _ (subscriptTail _ (PySem.Expr.Slice none (some _) none _) (Value.ref _) (Value.ref _)) _ _ _); k_dflt (refine' kmk_slice_ints (s := ⟨_, _, _, _, _⟩) ?F ?N ?l IsPart.none (IsPart.int _ _) ?i (kmk_upto ?i2 ?h) rfl ?_ ?s ?t ?z; (case F => k_asm); (case N => k_asm); (case l => kmk_list); (case i => l_ints); (case i2 => assumption); (case h => omega); (case s => with_unfolding_all rfl); (case t => kmk_pure); (case z => kmk_size)); intro D' ws' h' F' N' l1 hI' hC' hL'; clear hC'; (try k_lt l1)) | ((with_reducible show wpAny _ _ (subscriptTail _ (PySem.Expr.Slice none (some _) none _) (Value.ref _) (Value.ref _)) _ _ _); k_dflt (refine' kmk_slice_ints (s := ⟨_, _, _, _, _⟩) ?F ?N ?l IsPart.none (IsPart.int _ _) ?i (kmk_upto ?i2 ?h) rfl ?_ ?s ?t ?z; (case F => k_asm); (case N => k_asm); (case l => kmk_list); (case i => l_ints); (case i2 => assumption); (case h => omega); (case s => with_unfolding_all rfl); (case t => kmk_pure); (case z => kmk_size)); intro D' ws' h' F' N' l1 hI' hC' hL'; clear hC'; (try k_lt l1)) | walk_at "K"))
    refine wpAny_execs_cons ?_
    repeat' ((fail_if_success (with_reducible show wpAny _ _ (eval (Expr.ListComp _ _ _ _) _) _ _ _)); (first | ((with_reducible show wpAny _ _ (call (Value.ref 559) _) _ _ _); k_dflt (refine draw_u (by k_asm) (by k_asm) (by k_asm) (by k_asm) (by k_asm) (by rfl) (by k_updF) (by assumption) (by decide) (by decide) (by ktr_room) (by ktr_units) ?_); intro vs' ds' k' r' t' h' tk' hD' hr0' hr1' F' N'; (try dsimp only at N'); (try dsimp only)) | ((with_reducible show wpAny _ _ (call (Value.ref 576) _) _ _ _); k_dflt (refine wide_c (by k_asm) (by k_asm) (by k_asm) (by k_asm) (by k_asm) (by rfl) (by walk_at "ISLIST") (by l_ints) (by (try simp only [List.length_cons, List.length_nil]); omega) (by omega) (by omega) (by omega) (by ktr_room) (by ktr_units) ?_); intro r' ws' n' h' tk' F' N' o1' hI'; (have n1' := offN o1'); (try simp only [OffN, and_true] at n1'); (try dsimp only)) | ((with_reducible show wpAny _ _ (call (Value.ref 200) _) _ _ _); k_dflt (refine text_c (by k_asm) (by k_asm) (by k_asm) (by k_asm) (by k_asm) (by rfl) (by ktr_room) (by ktr_units) ?_); intro x' dx' kt' h' tk' F' N' o1' o2'; (have n1' := offN o1'); (have n2' := offN o2'); (try simp only [OffN, and_true] at n1' n2'); (try dsimp only)) | ((with_reducible show wpAny _ _ (subscriptTail _ (PySem.Expr.Slice none (some _) none _) (Value.ref _) (Value.ref _)) _ _ _); k_dflt (refine' kmk_slice_ints (s := ⟨_, _, _, _, _⟩) ?F ?N ?l IsPart.none (IsPart.int _ _) ?i (kmk_upto ?i2 ?h) rfl ?_ ?s ?t ?z; (case F => k_asm); (case N => k_asm); (case l => kmk_list); (case i => l_ints); (case i2 => assumption); (case h => omega); (case s => with_unfolding_all rfl); (case t => kmk_pure); (case z => kmk_size)); intro D' ws' h' F' N' l1 hI' hC' hL'; clear hC'; (try k_lt l1)) | ((with_reducible show wpAny _ _ (subscriptTail _ (PySem.Expr.Slice none (some _) none _) (Value.ref _) (Value.ref _)) _ _ _); k_dflt (refine' kmk_slice_ints (s := ⟨_, _, _, _, _⟩) ?F ?N ?l IsPart.none (IsPart.int _ _) ?i (kmk_upto ?i2 ?h) rfl ?_ ?s ?t ?z; (case F => k_asm); (case N => k_asm); (case l => kmk_list); (case i => l_ints); (case i2 => assumption); (case h => omega); (case s => with_unfolding_all rfl); (case t => kmk_pure); (case z => kmk_size)); intro D' ws' h' F' N' l1 hI' hC' hL'; clear hC'; (try k_lt l1)) | walk_at "K"))
    refine LCg.ListComp_U F8 (by with_unfolding_all rfl) (by decide) (by rfl) (by decide) (by rfl) ?_
    repeat' ((fail_if_success (with_reducible show LCg.CompSrc _ _ _ _ _ _ _ _ _ _ _ _ _ _)); (first | ((with_reducible show wpAny _ _ (call (Value.ref 559) _) _ _ _); k_dflt (refine draw_u (by k_asm) (by k_asm) (by k_asm) (by k_asm) (by k_asm) (by rfl) (by k_updF) (by assumption) (by decide) (by decide) (by ktr_room) (by ktr_units) ?_); intro vs' ds' k' r' t' h' tk' hD' hr0' hr1' F' N'; (try dsimp only at N'); (try dsimp only)) | ((with_reducible show wpAny _ _ (call (Value.ref 576) _) _ _ _); k_dflt (refine wide_c (by k_asm) (by k_asm) (by k_asm) (by k_asm) (by k_asm) (by rfl) (by walk_at "ISLIST") (by l_ints) (by (try simp only [List.length_cons, List.length_nil]); omega) (by omega) (by omega) (by omega) (by ktr_room) (by ktr_units) ?_); intro r' ws' n' h' tk' F' N' o1' hI'; (have n1' := offN o1'); (try simp only [OffN, and_true] at n1'); (try dsimp only)) | ((with_reducible show wpAny _ _ (call (Value.ref 200) _) _ _ _); k_dflt (refine text_c (by k_asm) (by k_asm) (by k_asm) (by k_asm) (by k_asm) (by rfl) (by ktr_room) (by ktr_units) ?_); intro x' dx' kt' h' tk' F' N' o1' o2'; (have n1' := offN o1'); (have n2' := offN o2'); (try simp only [OffN, and_true] at n1' n2'); (try dsimp only)) | ((with_reducible show wpAny _ _ (subscriptTail _ (PySem.Expr.Slice none (some _) none _) (Value.ref _) (Value.ref _)) _ _ _); k_dflt (refine' kmk_slice_ints (s := ⟨_, _, _, _, _⟩) ?F ?N ?l IsPart.none (IsPart.int _ _) ?i (kmk_upto ?i2 ?h) rfl ?_ ?s ?t ?z; (case F => k_asm); (case N => k_asm); (case l => kmk_list); (case i => l_ints); (case i2 => assumption); (case h => omega); (case s => with_unfolding_all rfl); (case t => kmk_pure); (case z => kmk_size)); intro D' ws' h' F' N' l1 hI' hC' hL'; clear hC'; (try k_lt l1)) | ((with_reducible show wpAny _ _ (subscriptTail _ (PySem.Expr.Slice none (some _) none _) (Value.ref _) (Value.ref _)) _ _ _); k_dflt (refine' kmk_slice_ints (s := ⟨_, _, _, _, _⟩) ?F ?N ?l IsPart.none (IsPart.int _ _) ?i (kmk_upto ?i2 ?h) rfl ?_ ?s ?t ?z; (case F => k_asm); (case N => k_asm); (case l => kmk_list); (case i => l_ints); (case i2 => assumption); (case h => omega); (case s => with_unfolding_all rfl); (case t => kmk_pure); (case z => kmk_size)); intro D' ws' h' F' N' l1 hI' hC' hL'; clear hC'; (try k_lt l1)) | walk_at "K"))
    rename IsRange _ _ _ _ _ _ _ _ => hrg
    rename Fr g L' _ _ => F9
    rename News g L' _ _ => N9
    rename (_ < (5 : Int)) => hr5
    rename Dk _ _ => hD9
    refine LCg.CompSrc.range (by rfl) F9 N9 hrg (range_five (by assumption) hr5).1 (range_five (by assumption) hr5).2 (by rw [PySem.sizeLine_eq]; omega) fun g2 => ?_
    refine compRest_inv (JText (L' + 1) oc dk _) _ ?_ ?_ _ 0 [] _ (Nat.zero_add _) ⟨[], .nil, rfl, rfl⟩
    · rintro i ys news hi ⟨l, hy, hyl, rfl⟩ v I oI C oC D m₂ h tk E' ⟨t, rfl⟩ hC hx F N off ne
      clear F8 NL8 F9 N9
      repeat' (first | ((with_reducible show wpAny _ _ (call (Value.ref 559) _) _ _ _); k_dflt (refine draw_u (by k_asm) (by k_asm) (by k_asm) (by k_asm) (by k_asm) (by rfl) (by k_updF) (by assumption) (by decide) (by decide) (by ktr_room) (by ktr_units) ?_); intro vs' ds' k' r' t' h' tk' hD' hr0' hr1' F' N'; (try dsimp only at N'); (try dsimp only)) | ((with_reducible show wpAny _ _ (call (Value.ref 576) _) _ _ _); k_dflt (refine wide_c (by k_asm) (by k_asm) (by k_asm) (by k_asm) (by k_asm) (by rfl) (by walk_at "ISLIST") (by l_ints) (by (try simp only [List.length_cons, List.length_nil]); omega) (by omega) (by omega) (by omega) (by ktr_room) (by ktr_units) ?_); intro r' ws' n' h' tk' F' N' o1' hI'; (have n1' := offN o1'); (try simp only [OffN, and_true] at n1'); (try dsimp only)) | ((with_reducible show wpAny _ _ (call (Value.ref 200) _) _ _ _); k_dflt (refine text_c (by k_asm) (by k_asm) (by k_asm) (by k_asm) (by k_asm) (by rfl) (by ktr_room) (by ktr_units) ?_); intro x' dx' kt' h' tk' F' N' o1' o2'; (have n1' := offN o1'); (have n2' := offN o2'); (try simp only [OffN, and_true] at n1' n2'); (try dsimp only)) | ((with_reducible show wpAny _ _ (subscriptTail _ (PySem.Expr.Slice none (some _) none _) (Value.ref _) (Value.ref _)) _ _ _); k_dflt (refine' kmk_slice_ints (s := ⟨_, _, _, _, _⟩) ?F ?N ?l IsPart.none (IsPart.int _ _) ?i (kmk_upto ?i2 ?h) rfl ?_ ?s ?t ?z; (case F => k_asm); (case N => k_asm); (case l => kmk_list); (case i => l_ints); (case i2 => assumption); (case h => omega); (case s => with_unfolding_all rfl); (case t => kmk_pure); (case z => kmk_size)); intro D' ws' h' F' N' l1 hI' hC' hL'; clear hC'; (try k_lt l1)) | ((with_reducible show wpAny _ _ (subscriptTail _ (PySem.Expr.Slice none (some _) none _) (Value.ref _) (Value.ref _)) _ _ _); k_dflt (refine' kmk_slice_ints (s := ⟨_, _, _, _, _⟩) ?F ?N ?l IsPart.none (IsPart.int _ _) ?i (kmk_upto ?i2 ?h) rfl ?_ ?s ?t ?z; (case F => k_asm); (case N => k_asm); (case l => kmk_list); (case i => l_ints); (case i2 => assumption); (case h => omega); (case s => with_unfolding_all rfl); (case t => kmk_pure); (case z => kmk_size)); intro D' ws' h' F' N' l1 hI' hC' hL'; clear hC'; (try k_lt l1)) | walk_at "K")
      exact LCg.CompEnd.intro F N _ (fun _ h => h) off trivial ⟨l ++ [_], IntsAre.append hy (.cons _ _ .nil), by rw [List.length_append, hyl]; rfl, rfl⟩
    · rintro ys news ⟨lt, hy, hyl, rfl⟩ D h tk F N o1
      obtain ⟨kD, hkD⟩ : ∃ k, LCg.lst ys = listOf (List.toArray ys) k := ⟨_, rfl⟩
      rw [hkD] at N
      clear F8 NL8 F9 N9
      dsimp only
      repeat' (first | ((with_reducible show wpAny _ _ (call (Value.ref 559) _) _ _ _); k_dflt (refine draw_u (by k_asm) (by k_asm) (by k_asm) (by k_asm) (by k_asm) (by rfl) (by k_updF) (by assumption) (by decide) (by decide) (by ktr_room) (by ktr_units) ?_); intro vs' ds' k' r' t' h' tk' hD' hr0' hr1' F' N'; (try dsimp only at N'); (try dsimp only)) | ((with_reducible show wpAny _ _ (call (Value.ref 576) _) _ _ _); k_dflt (refine wide_c (by k_asm) (by k_asm) (by k_asm) (by k_asm) (by k_asm) (by rfl) (by walk_at "ISLIST") (by l_ints) (by (try simp only [List.length_cons, List.length_nil]); omega) (by omega) (by omega) (by omega) (by ktr_room) (by ktr_units) ?_); intro r' ws' n' h' tk' F' N' o1' hI'; (have n1' := offN o1'); (try simp only [OffN, and_true] at n1'); (try dsimp only)) | ((with_reducible show wpAny _ _ (call (Value.ref 200) _) _ _ _); k_dflt (refine text_c (by k_asm) (by k_asm) (by k_asm) (by k_asm) (by k_asm) (by rfl) (by ktr_room) (by ktr_units) ?_); intro x' dx' kt' h' tk' F' N' o1' o2'; (have n1' := offN o1'); (have n2' := offN o2'); (try simp only [OffN, and_true] at n1' n2'); (try dsimp only)) | ((with_reducible show wpAny _ _ (subscriptTail _ (PySem.Expr.Slice none (some _) none _) (Value.ref _) (Value.ref _)) _ _ _); k_dflt (refine' kmk_slice_ints (s := ⟨_, _, _, _, _⟩) ?F ?N ?l IsPart.none (IsPart.int _ _) ?i (kmk_upto ?i2 ?h) rfl ?_ ?s ?t ?z; (case F => k_asm); (case N => k_asm); (case l => kmk_list); (case i => l_ints); (case i2 => assumption); (case h => omega); (case s => with_unfolding_all rfl); (case t => kmk_pure); (case z => kmk_size)); intro D' ws' h' F' N' l1 hI' hC' hL'; clear hC'; (try k_lt l1)) | ((with_reducible show wpAny _ _ (subscriptTail _ (PySem.Expr.Slice none (some _) none _) (Value.ref _) (Value.ref _)) _ _ _); k_dflt (refine' kmk_slice_ints (s := ⟨_, _, _, _, _⟩) ?F ?N ?l IsPart.none (IsPart.int _ _) ?i (kmk_upto ?i2 ?h) rfl ?_ ?s ?t ?z; (case F => k_asm); (case N => k_asm); (case l => kmk_list); (case i => l_ints); (case i2 => assumption); (case h => omega); (case s => with_unfolding_all rfl); (case t => kmk_pure); (case z => kmk_size)); intro D' ws' h' F' N' l1 hI' hC' hL'; clear hC'; (try k_lt l1)) | walk_at "K")
      have hyl2 := hy.length
      simp only [LCg.Off1, and_true] at o1
      ((refine wpAny_execs_cons ?_); repeat' (first | ((with_reducible show wpAny _ _ (call (Value.ref 559) _) _ _ _); k_dflt (refine draw_u (by k_asm) (by k_asm) (by k_asm) (by k_asm) (by k_asm) (by rfl) (by k_updF) (by assumption) (by decide) (by decide) (by ktr_room) (by ktr_units) ?_); intro vs' ds' k' r' t' h' tk' hD' hr0' hr1' F' N'; (try dsimp only at N'); (try dsimp only)) | ((with_reducible show wpAny _ _ (call (Value.ref 576) _) _ _ _); k_dflt (refine wide_c (by k_asm) (by k_asm) (by k_asm) (by k_asm) (by k_asm) (by rfl) (by walk_at "ISLIST") (by l_ints) (by (try simp only [List.length_cons, List.length_nil]); omega) (by omega) (by omega) (by omega) (by ktr_room) (by ktr_units) ?_); intro r' ws' n' h' tk' F' N' o1' hI'; (have n1' := offN o1'); (try simp only [OffN, and_true] at n1'); (try dsimp only)) | ((with_reducible show wpAny _ _ (call (Value.ref 200) _) _ _ _); k_dflt (refine text_c (by k_asm) (by k_asm) (by k_asm) (by k_asm) (by k_asm) (by rfl) (by ktr_room) (by ktr_units) ?_); intro x' dx' kt' h' tk' F' N' o1' o2'; (have n1' := offN o1'); (have n2' := offN o2'); (try simp only [OffN, and_true] at n1' n2'); (try dsimp only)) | ((with_reducible show wpAny _ _ (subscriptTail _ (PySem.Expr.Slice none (some _) none _) (Value.ref _) (Value.ref _)) _ _ _); k_dflt (refine' kmk_slice_ints (s := ⟨_, _, _, _, _⟩) ?F ?N ?l IsPart.none (IsPart.int _ _) ?i (kmk_upto ?i2 ?h) rfl ?_ ?s ?t ?z; (case F => k_asm); (case N => k_asm); (case l => kmk_list); (case i => l_ints); (case i2 => assumption); (case h => omega); (case s => with_unfolding_all rfl); (case t => kmk_pure); (case z => kmk_size)); intro D' ws' h' F' N' l1 hI' hC' hL'; clear hC'; (try k_lt l1)) | ((with_reducible show wpAny _ _ (subscriptTail _ (PySem.Expr.Slice none (some _) none _) (Value.ref _) (Value.ref _)) _ _ _); k_dflt (refine' kmk_slice_ints (s := ⟨_, _, _, _, _⟩) ?F ?N ?l IsPart.none (IsPart.int _ _) ?i (kmk_upto ?i2 ?h) rfl ?_ ?s ?t ?z; (case F => k_asm); (case N => k_asm); (case l => kmk_list); (case i => l_ints); (case i2 => assumption); (case h => omega); (case s => with_unfolding_all rfl); (case t => kmk_pure); (case z => kmk_size)); intro D' ws' h' F' N' l1 hI' hC' hL'; clear hC'; (try k_lt l1)) | walk_at "K"))
      · rename News g L' _ ((_, listOf #[Value.str _ _, Value.ref _, Value.ref _] _) :: _) => Nw
        rename Fr g L' _ _ => Fw
        rename IntsAre (Array.toList _) _ => hI
        rw [wide_pad (occ_le le pl bl no ma)] at hI
        obtain ⟨R, hp, hn, ho⟩ := part_txt (w := w) (dk := dk) Nw (by k_mem) (by k_mem) (by k_mem) (by k_mem) hy hI (by omega) (by omega) (by omega) (by omega) (by omega)
        exact hPQ _ _ ⟨_, _, Fw, hn, fun b => hret R _ _ _ _ _ _ _ (by assumption) hp (by have e := PGood.txt le pl bl no ma wi sz lt hw1 hw2 hs1 hs2 (by omega); rw [show cutS sz lt = List.take sz.toNat lt from if_neg (by omega)] at e; exact e) b.fr b.nw ho (fun q hq r hr => b.off q (.tail _ hq) r hr)⟩
      · rename News g L' _ ((_, listOf #[Value.str _ _, Value.ref _, Value.ref _] _) :: _) => Nw
        rename Fr g L' _ _ => Fw
        rename IntsAre (Array.toList _) _ => hI
        rw [wide_pad (occ_le le pl bl no ma)] at hI
        obtain ⟨R, hp, hn, ho⟩ := part_txt (w := w) (dk := dk) Nw (by k_mem) (by k_mem) (by k_mem) (by k_mem) hy hI (by omega) (by omega) (by omega) (by omega) (by omega)
        exact hPQ _ _ ⟨_, _, Fw, hn, fun b => hret R _ _ _ _ _ _ _ (by assumption) hp (by have e := PGood.txt le pl bl no ma wi sz lt hw1 hw2 hs1 hs2 (by omega); rw [show cutS sz lt = lt from if_pos (by omega)] at e; exact e) b.fr b.nw ho (fun q hq r hr => b.off q (.tail _ hq) r hr)⟩
  · ((refine wpAny_execs_cons ?_); repeat' (first | ((with_reducible show wpAny _ _ (call (Value.ref 559) _) _ _ _); k_dflt (refine draw_u (by k_asm) (by k_asm) (by k_asm) (by k_asm) (by k_asm) (by rfl) (by k_updF) (by assumption) (by decide) (by decide) (by ktr_room) (by ktr_units) ?_); intro vs' ds' k' r' t' h' tk' hD' hr0' hr1' F' N'; (try dsimp only at N'); (try dsimp only)) | ((with_reducible show wpAny _ _ (call (Value.ref 583) _) _ _ _); k_dflt (refine lnum_c (by k_asm) (by k_asm) (by k_asm) (by k_asm) (by k_asm) (by rfl) (by omega) (by omega) (by assumption) (by omega) (by omega) (by omega) (by omega) (by omega) (occ_le _ _ _ _ _) (occ_pl _ _ _ _ _) (occ_bl _ _ _ _ _) (occ_no _ _ _ _ _) (occ_ma _ _ _ _ _) (fig_eq (by assumption) (by split <;> omega) (by split <;> omega)) (by ktr_room) (by ktr_units) ?_); intro r' ws' n' h' tk' F' N' o1' hI'; (have n1' := offN o1'); (try simp only [OffN, and_true] at n1'); (try dsimp only)) | ((with_reducible show wpAny _ _ (call (Value.ref 576) _) _ _ _); k_dflt (refine wide_c (by k_asm) (by k_asm) (by k_asm) (by k_asm) (by k_asm) (by rfl) (by walk_at "ISLIST") (by l_ints) (by (try simp only [List.length_cons, List.length_nil]); omega) (by omega) (by omega) (by omega) (by ktr_room) (by ktr_units) ?_); intro r' ws' n' h' tk' F' N' o1' hI'; (have n1' := offN o1'); (try simp only [OffN, and_true] at n1'); (try dsimp only)) | walk_at "K"))
    ((refine wpAny_execs_cons ?_); repeat' (first | ((with_reducible show wpAny _ _ (call (Value.ref 559) _) _ _ _); k_dflt (refine draw_u (by k_asm) (by k_asm) (by k_asm) (by k_asm) (by k_asm) (by rfl) (by k_updF) (by assumption) (by decide) (by decide) (by ktr_room) (by ktr_units) ?_); intro vs' ds' k' r' t' h' tk' hD' hr0' hr1' F' N'; (try dsimp only at N'); (try dsimp only)) | ((with_reducible show wpAny _ _ (call (Value.ref 583) _) _ _ _); k_dflt (refine lnum_c (by k_asm) (by k_asm) (by k_asm) (by k_asm) (by k_asm) (by rfl) (by omega) (by omega) (by assumption) (by omega) (by omega) (by omega) (by omega) (by omega) (occ_le _ _ _ _ _) (occ_pl _ _ _ _ _) (occ_bl _ _ _ _ _) (occ_no _ _ _ _ _) (occ_ma _ _ _ _ _) (fig_eq (by assumption) (by split <;> omega) (by split <;> omega)) (by ktr_room) (by ktr_units) ?_); intro r' ws' n' h' tk' F' N' o1' hI'; (have n1' := offN o1'); (try simp only [OffN, and_true] at n1'); (try dsimp only)) | ((with_reducible show wpAny _ _ (call (Value.ref 576) _) _ _ _); k_dflt (refine wide_c (by k_asm) (by k_asm) (by k_asm) (by k_asm) (by k_asm) (by rfl) (by walk_at "ISLIST") (by l_ints) (by (try simp only [List.length_cons, List.length_nil]); omega) (by omega) (by omega) (by omega) (by ktr_room) (by ktr_units) ?_); intro r' ws' n' h' tk' F' N' o1' hI'; (have n1' := offN o1'); (try simp only [OffN, and_true] at n1'); (try dsimp only)) | walk_at "K"))
    · clear hl
      ((refine wpAny_execs_cons ?_); repeat' (first | ((with_reducible show wpAny _ _ (call (Value.ref 559) _) _ _ _); k_dflt (refine draw_u (by k_asm) (by k_asm) (by k_asm) (by k_asm) (by k_asm) (by rfl) (by k_updF) (by assumption) (by decide) (by decide) (by ktr_room) (by ktr_units) ?_); intro vs' ds' k' r' t' h' tk' hD' hr0' hr1' F' N'; (try dsimp only at N'); (try dsimp only)) | ((with_reducible show wpAny _ _ (call (Value.ref 583) _) _ _ _); k_dflt (refine lnum_c (by k_asm) (by k_asm) (by k_asm) (by k_asm) (by k_asm) (by rfl) (by omega) (by omega) (by assumption) (by omega) (by omega) (by omega) (by omega) (by omega) (occ_le _ _ _ _ _) (occ_pl _ _ _ _ _) (occ_bl _ _ _ _ _) (occ_no _ _ _ _ _) (occ_ma _ _ _ _ _) (fig_eq (by assumption) (by split <;> omega) (by split <;> omega)) (by ktr_room) (by ktr_units) ?_); intro r' ws' n' h' tk' F' N' o1' hI'; (have n1' := offN o1'); (try simp only [OffN, and_true] at n1'); (try dsimp only)) | ((with_reducible show wpAny _ _ (call (Value.ref 576) _) _ _ _); k_dflt (refine wide_c (by k_asm) (by k_asm) (by k_asm) (by k_asm) (by k_asm) (by rfl) (by walk_at "ISLIST") (by l_ints) (by (try simp only [List.length_cons, List.length_nil]); omega) (by omega) (by omega) (by omega) (by ktr_room) (by ktr_units) ?_); intro r' ws' n' h' tk' F' N' o1' hI'; (have n1' := offN o1'); (try simp only [OffN, and_true] at n1'); (try dsimp only)) | walk_at "K"))
      ((refine wpAny_execs_cons ?_); repeat' (first | ((with_reducible show wpAny _ _ (call (Value.ref 559) _) _ _ _); k_dflt (refine draw_u (by k_asm) (by k_asm) (by k_asm) (by k_asm) (by k_asm) (by rfl) (by k_updF) (by assumption) (by decide) (by decide) (by ktr_room) (by ktr_units) ?_); intro vs' ds' k' r' t' h' tk' hD' hr0' hr1' F' N'; (try dsimp only at N'); (try dsimp only)) | ((with_reducible show wpAny _ _ (call (Value.ref 583) _) _ _ _); k_dflt (refine lnum_c (by k_asm) (by k_asm) (by k_asm) (by k_asm) (by k_asm) (by rfl) (by omega) (by omega) (by assumption) (by omega) (by omega) (by omega) (by omega) (by omega) (occ_le _ _ _ _ _) (occ_pl _ _ _ _ _) (occ_bl _ _ _ _ _) (occ_no _ _ _ _ _) (occ_ma _ _ _ _ _) (fig_eq (by assumption) (by split <;> omega) (by split <;> omega)) (by ktr_room) (by ktr_units) ?_); intro r' ws' n' h' tk' F' N' o1' hI'; (have n1' := offN o1'); (try simp only [OffN, and_true] at n1'); (try dsimp only)) | ((with_reducible show wpAny _ _ (call (Value.ref 576) _) _ _ _); k_dflt (refine wide_c (by k_asm) (by k_asm) (by k_asm) (by k_asm) (by k_asm) (by rfl) (by walk_at "ISLIST") (by l_ints) (by (try simp only [List.length_cons, List.length_nil]); omega) (by omega) (by omega) (by omega) (by ktr_room) (by ktr_units) ?_); intro r' ws' n' h' tk' F' N' o1' hI'; (have n1' := offN o1'); (try simp only [OffN, and_true] at n1'); (try dsimp only)) | walk_at "K"))
      rename News g L' _ ((_, listOf #[Value.str _ _, Value.int _ _, Value.ref _] _) :: _) => Nw
      rename Fr g L' _ _ => Fw
      rename IntsAre (Array.toList _) _ => hI
      rename (l == _) = true => hlc
      have hlc' : l = Str.ofString "c" := by simpa using hlc
      rw [wide_pad (occ_le le pl bl no ma)] at hI
      obtain ⟨R, hp, hn, ho⟩ := part_num (w := w) (dk := dk) Nw (by k_mem) hI (by omega) (by omega)
      exact hPQ _ _ ⟨_, _, Fw, hn, fun b => hret R _ _ _ _ _ _ _ (by assumption) hp (by rw [hlc']; exact .chr _ _ _ _ _ _ _ _ hw1 hw2 hs1 hs2 (by assumption) (by omega)) b.fr b.nw ho (fun q hq r hr => b.off q (.tail _ hq) r hr)⟩
    · rename (l == _) = false => hlc
      have hl4 : Four l := hl.elim id (fun h => h.elim (fun h => by rw [h] at hlc; exact absurd hlc (by decide +kernel)) (fun h => absurd h hls))
      ((refine wpAny_execs_cons ?_); repeat' (first | ((with_reducible show wpAny _ _ (call (Value.ref 559) _) _ _ _); k_dflt (refine draw_u (by k_asm) (by k_asm) (by k_asm) (by k_asm) (by k_asm) (by rfl) (by k_updF) (by assumption) (by decide) (by decide) (by ktr_room) (by ktr_units) ?_); intro vs' ds' k' r' t' h' tk' hD' hr0' hr1' F' N'; (try dsimp only at N'); (try dsimp only)) | ((with_reducible show wpAny _ _ (call (Value.ref 583) _) _ _ _); k_dflt (refine lnum_c (by k_asm) (by k_asm) (by k_asm) (by k_asm) (by k_asm) (by rfl) (by omega) (by omega) (by assumption) (by omega) (by omega) (by omega) (by omega) (by omega) (occ_le _ _ _ _ _) (occ_pl _ _ _ _ _) (occ_bl _ _ _ _ _) (occ_no _ _ _ _ _) (occ_ma _ _ _ _ _) (fig_eq (by assumption) (by split <;> omega) (by split <;> omega)) (by ktr_room) (by ktr_units) ?_); intro r' ws' n' h' tk' F' N' o1' hI'; (have n1' := offN o1'); (try simp only [OffN, and_true] at n1'); (try dsimp only)) | ((with_reducible show wpAny _ _ (call (Value.ref 576) _) _ _ _); k_dflt (refine wide_c (by k_asm) (by k_asm) (by k_asm) (by k_asm) (by k_asm) (by rfl) (by walk_at "ISLIST") (by l_ints) (by (try simp only [List.length_cons, List.length_nil]); omega) (by omega) (by omega) (by omega) (by ktr_room) (by ktr_units) ?_); intro r' ws' n' h' tk' F' N' o1' hI'; (have n1' := offN o1'); (try simp only [OffN, and_true] at n1'); (try dsimp only)) | walk_at "K"))
      ((refine wpAny_execs_cons ?_); repeat' (first | ((with_reducible show wpAny _ _ (call (Value.ref 559) _) _ _ _); k_dflt (refine draw_u (by k_asm) (by k_asm) (by k_asm) (by k_asm) (by k_asm) (by rfl) (by k_updF) (by assumption) (by decide) (by decide) (by ktr_room) (by ktr_units) ?_); intro vs' ds' k' r' t' h' tk' hD' hr0' hr1' F' N'; (try dsimp only at N'); (try dsimp only)) | ((with_reducible show wpAny _ _ (call (Value.ref 583) _) _ _ _); k_dflt (refine lnum_c (by k_asm) (by k_asm) (by k_asm) (by k_asm) (by k_asm) (by rfl) (by omega) (by omega) (by assumption) (by omega) (by omega) (by omega) (by omega) (by omega) (occ_le _ _ _ _ _) (occ_pl _ _ _ _ _) (occ_bl _ _ _ _ _) (occ_no _ _ _ _ _) (occ_ma _ _ _ _ _) (fig_eq (by assumption) (by split <;> omega) (by split <;> omega)) (by ktr_room) (by ktr_units) ?_); intro r' ws' n' h' tk' F' N' o1' hI'; (have n1' := offN o1'); (try simp only [OffN, and_true] at n1'); (try dsimp only)) | ((with_reducible show wpAny _ _ (call (Value.ref 576) _) _ _ _); k_dflt (refine wide_c (by k_asm) (by k_asm) (by k_asm) (by k_asm) (by k_asm) (by rfl) (by walk_at "ISLIST") (by l_ints) (by (try simp only [List.length_cons, List.length_nil]); omega) (by omega) (by omega) (by omega) (by ktr_room) (by ktr_units) ?_); intro r' ws' n' h' tk' F' N' o1' hI'; (have n1' := offN o1'); (try simp only [OffN, and_true] at n1'); (try dsimp only)) | walk_at "K"))
      rename News g L' _ ((_, listOf #[Value.str _ _, Value.int _ _, Value.ref _] _) :: _) => Nw
      rename Fr g L' _ _ => Fw
      rename IntsAre (Array.toList _) _ => hI
      obtain ⟨R, hp, hn, ho⟩ := part_num (w := w) (dk := dk) Nw (by k_mem) hI (by omega) (by omega)
      exact hPQ _ _ ⟨_, _, Fw, hn, fun b => hret R _ _ _ _ _ _ _ (by assumption) hp (.num _ _ _ _ _ _ _ _ _ hw1 hw2 hs1 hs2 hl4 (by omega) (by omega)) b.fr b.nw ho (fun q hq r hr => b.off q (.tail _ hq) r hr)⟩
end
end
section
/-! ## A call, from the outermost frame, of a def that catches -/
section
variable {prog : Program} {w : World} {A₀ A : Around} {s : Shared} {base h₀ : Heap} {L : Addr} {m : Str → Option Value} {env : Env} {news : List (Addr × Obj)} {K : Frag}
  {Q E : Value → Shared → Prop} {R : Result → Shared → Prop} {name qual : Str} {params : Arguments} {body : List Stmt} {scope : Scope} {dV kV doc pm cdv ct oc : Value} {an od : Option Addr} {osl : Array (Option Value)} {f : Addr} {vals : List Value} {args : Args} {binds : List (Str × Value)}
  {p : Program} {loose : List Str} {mean : ExcName → Option Value} {mg mb : Str → Option Value}
theorem code_defST (B : Below A₀ base [] h₀) (F : Fr h₀ L s.heap m) (X₀ : K.In h₀) (N : News h₀ L s.heap news) (T : Top p loose mean mg mb h₀) (hA : A.frames = some [env]) (hf : env.frame = some L) (hke : env.scope.kind = .function)
    (ho : K.lookup f = some ⟨oc, od, .func (fnOf name qual params body scope dV kV doc pm an cdv ct), osl⟩) (hcd : codeIn K cdv qual = true) (hroom : A.depth < recursionLimit)
    (hbind : BindsTo s (fnOf name qual params body scope dV kV doc pm an cdv ct) args binds) (hloc : ∀ y ∈ binds, scope.names.lookup y.1 = some .local)
    (h : ∀ g L' h₁ tk, GSub s.heap g [] → Fr g L' h₁ (fun y => binds.reverse.lookup y) → Below A base [env] g → K.In g → Top p loose mean mg mb g →
      wpAny (model prog w) (A.deeper (envOf qual scope L' f cdv)) (execs body (envOf qual scope L' f cdv))
        (fun fl s' => ∃ g' m' news', KtsTurn [L] g g' ∧ Fr g' L' s'.heap m' ∧ News g' L' s'.heap news' ∧ (Back h₀ L m news news' s'.heap → R (.ok (.ret (match fl with | .ret v => v | _ => .none))) s'))
        (fun e s' => wpAny (model prog w) (A.deeper (envOf qual scope L' f cdv)) (leaving (envOf qual scope L' f cdv) e) (fun _ s'' => R (.error e) s'') (fun e' s'' => R (.error e') s'') s')
        { s with heap := h₁, toks := tk })
    (hco : scope.isCoroutine = false) (hgen : scope.isGenerator = false) (hk : scope.kind = .function)
    (hcell : ∀ x ∈ scope.names, x.2 ≠ .cell) : codeAny (model prog w) A (.call (.ref f) args) R s := by
  have X := X₀.keeps F.keep
  refine codeAny_call_def (fd := fnOf name qual params body scope dV kV doc pm an cdv ct) (body := body) (binds := binds) hroom (X _ _ ho) rfl (T.nolimit.keeps F.keep) (codeRec_of X hcd) rfl hbind hcell hloc (fun h₁ hns hk₁ => ?_) hco hgen hk
  obtain ⟨FG, BG, st, lv⟩ := groundX (R := R) (news := []) B F (fun _ hq => nomatch hq) hA hf hke
  obtain ⟨oL, es, ep, hLg, hLd, hLk, hLf⟩ := FG.ns
  refine wpAny_mono (h _ s.heap.objs.size h₁ _ (fun b o e _ => hideAll_get _ e (by simp)) ⟨hns, fun b o e => hk₁ b o (of_hideAll _ e), Nat.le_of_eq (hideAll_size _ _)⟩ BG (X₀.keeps st) (T.keeps st)) (fun fl s' hl => ?_) fun _ _ y => y
  obtain ⟨g', m', news', T', F', N', k⟩ := hl
  have nL₀ : h₀.get? L = none := kts_self F
  obtain ⟨sl, hs⟩ := T'.up hLg
  have hfr : Fr h₀ L s'.heap m := ⟨⟨_, es, ep, F'.keep _ _ hs, hLd, hLk, hLf⟩, fun b o e => F'.keep b o (T'.other b o (st b o e) (fun q => by
      rw [List.mem_singleton.mp q, nL₀] at e
      cases e)), F.above⟩
  have hin : ∀ q ∈ news, g'.get? q.1 = some q.2 := fun q hq => T'.other _ _ (hideAll_get _ (N q hq).1 (by simp)) (fun z => (N q hq).2.1 (List.mem_singleton.mp z))
  have hnw : ∀ q ∈ news', h₀.get? q.1 = none := fun q hq => by
    cases z : h₀.get? q.1 with
    | none => rfl
    | some o =>
      obtain ⟨sl', hs'⟩ := T'.up (st _ _ z)
      have := (N' q hq).2.2
      rw [hs'] at this
      cases this
  have b : Back h₀ L m news news' s'.heap := by
    refine ⟨hfr, fun q hq => ?_, fun q hq r hr e => ?_⟩
    · rcases List.mem_append.mp hq with hq | hq
      · exact ⟨(N' q hq).1, fun e => (by have := (N' q hq).2.2; rw [e, hs] at this; cases this), hnw q hq⟩
      · exact ⟨F'.keep _ _ (hin q hq), (N q hq).2⟩
    · have z := hin r hr
      have y := (N' q hq).2.2
      rw [e, z] at y
      cases y
  have z := k b
  cases fl <;> exact z
theorem enterS (B : Below A₀ base [] h₀) (F : Fr h₀ L s.heap m) (X₀ : K.In h₀) (N : News h₀ L s.heap news) (T : Top p loose mean mg mb h₀) (hA : A.frames = some [env]) (hf : env.frame = some L) (hke : env.scope.kind = .function)
    (ho : K.lookup f = some ⟨oc, od, .func (fnOf name qual params body scope dV kV doc pm an cdv ct), osl⟩) (hcd : codeIn K cdv qual = true) (hroom : A.depth < recursionLimit)
    (hbind : BindsTo s (fnOf name qual params body scope dV kV doc pm an cdv ct) ⟨vals, []⟩ binds) (hloc : ∀ y ∈ binds, scope.names.lookup y.1 = some .local)
    (h : ∀ g L' h₁ tk (PQ : Flow → Shared → Prop) (PE : Value → Shared → Prop), GSub s.heap g [] → Fr g L' h₁ (fun y => binds.reverse.lookup y) → Below A base [env] g → K.In g → Top p loose mean mg mb g →
      (∀ fl s', (∃ g' m' news', KtsTurn [L] g g' ∧ Fr g' L' s'.heap m' ∧ News g' L' s'.heap news' ∧ (Back h₀ L m news news' s'.heap → Q (match fl with | .ret v => v | _ => .none) s')) → PQ fl s') →
      PassesOwn (model prog w) (A.deeper (envOf qual scope L' f cdv)) (envOf qual scope L' f cdv) PE →
      wpAny (model prog w) (A.deeper (envOf qual scope L' f cdv)) (execs body (envOf qual scope L' f cdv)) PQ PE { s with heap := h₁, toks := tk })
    (hco : scope.isCoroutine = false) (hgen : scope.isGenerator = false) (hk : scope.kind = .function)
    (hcell : ∀ x ∈ scope.names, x.2 ≠ .cell) : wpAny (model prog w) A (call (.ref f) vals) Q E s := by
  refine wpAny_call ?_
  refine code_defST B F X₀ N T hA hf hke ho hcd hroom hbind hloc (fun g L' h₁ tk G F' B' X' T' => ?_) hco hgen hk hcell
  exact h g L' h₁ tk _ _ G F' B' X' T' (fun _ _ x => x) PassesOwn.leaving
end
/-! ## An own entry of an exception, read -/
section
variable {prog : Program} {w : World} {A : Around} {E : Value → Shared → Prop} {h : Heap} {g : Array GenState} {d : Drawn} {t : Nat} {os : OsState} {K : Frag} {x C : Addr} {ox od : Obj} {name : Str} {v : Value}
theorem exc_get {expr : Bool} {Q : Value → Shared → Prop} (X : K.In h) (I : InstAt h x ox C (some od)) (hga : findIn K (.ref C) "__getattribute__" = some (some (.builtin "BaseException.__getattribute__"))) (hgx : findIn K (.ref C) "__getattr__" = some none)
    (hm : mroIn K C (.type "BaseException") = some true) (hf : findObj K C (some od) name = some (.value v)) (hh : handedIn v = true) (hq : ∀ tk, Q v ⟨h, g, d, tk, os⟩) : wpAny (model prog w) A (getAttr (.ref x) name expr) Q E ⟨h, g, d, t, os⟩ := by
  have L0 := I.type (M := model prog w)
  have LG := looks_findIn (M := model prog w) X hga
  have LX := looks_findIn (M := model prog w) X hgx
  have LM := looks_mroIn (M := model prog w) X hm
  have LF := looks_find (M := model prog w) X I hf
  have f3 := F.excAttr_ValueError.ga.bind (.ref x)
  have hx0 : (expr && onTheHeap (Value.builtin "BaseException.__getattribute__")) = false := by cases expr <;> rfl
  have hx2 : (Value.builtin "BaseException.__getattribute__" == Value.builtin "object.__getattribute__") = false := by decide +kernel
  have hx1 : (onTheHeap (Value.ref C) && Value.builtin "BaseException.__getattribute__" == Value.builtin "object.__getattribute__") = false := by rw [hx2]; rfl
  have hho := handedOut_of hh
  unfold getAttr getAttrBy
  refine wpAny_bind (wpAny_mkText (wpAny_holding (wpAny_bind (L0.at (wpAny_bind (LG.at ?_))))))
  dsimp only
  rw [hx1, if_neg (by decide)]
  unfold getAttrByItsOwn hookBefore
  refine wpAny_bind ?_
  rw [if_pos (show onTheHeap (Value.ref C) = true from rfl)]
  refine LX.at ?_
  unfold callGetattribute boundAndCalled
  rw [hx0, f3]
  repeat (any_goals (first | assumption | wp_step))
  refine codeAny_call_builtin F.excAttr_ValueError.ga.plain F.entry_bexc_ga ?_
  have hk : builtinKind "BaseException.__getattribute__" = some .slot := by decide +kernel
  have hsplit : splitId "BaseException.__getattribute__" = some ("BaseException", "__getattribute__") := by decide +kernel
  have ha := F.args_bexc_ga (.ref x) (.str name t)
  simp only [checkBuiltinCall, hk, hsplit, List.cons_append, List.nil_append]
  refine wpAny_bind ?_
  unfold isInstance
  refine wpAny_bind (L0.at (LM.at ?_))
  repeat (any_goals (first | assumption | with_reducible refine L0.at ?_ | with_reducible refine LF.at ?_ | wp_step))
  all_goals (try (rw [hho]))
  repeat (any_goals (first | assumption | wp_step))
  all_goals exact hq _
end
section
variable {w : World} {dp un : Nat} {gd : Option (List Code)} {cn : Str} {cs : Scope} {a : Addr} {ccd : Value} {cl : List (Str × Addr)} {outer : List Env} {A₀ : Around} {base h₀ : Heap} {L : Addr}
  {m : Str → Option Value} {s : Shared} {Q E : Value → Shared → Prop} {loose : List Str} {mean : ExcName → Option Value} {mg mb : Str → Option Value} {p : Program} {news : List (Addr × Obj)}

theorem told_c {lc lt : Addr} {vs tv : List Value} {ns : List Int} {ths : List Thg} {f : Nat} {total : List Int} {ok : Bool}
  (XB : (heapK w.params).In base) (TB : Top p loose mean mg mb base)
  (B : Below A₀ base [] h₀) (F : Fr h₀ L s.heap m) (X : (heapK w.params).In h₀) (N : News h₀ L s.heap news) (T : Top p loose mean mg mb h₀) (hk : cs.kind = .function)
  (hl : s.heap.IsList lc vs.toArray) (hi : IntsAre vs ns) (hlen : ns.length ≤ 1000) (ht : s.heap.IsList lt tv.toArray) (hth : ∀ (i : Nat) (T : Thg), ths[i]? = some T → ∃ v, tv[i]? = some v ∧ ThIs w s.heap v T) (htl : tv.length = ths.length) (htn : tv.length ≤ 100)
  (hrun : Run ns ths f 0 0 total ok) (htot : total.length ≤ 5000)
  (hd : dp + 18 < recursionLimit) (hu : un + 244 < cLine)
  (hret : ok = true → ∀ r ws n h' tk', Fr h₀ L h' m → News h₀ L h' ((r, listOf ws n) :: news) → LCg.Off1 r news → IntsAre ws.toList total → Q (.ref r) { s with heap := h', toks := tk' })
  (herr : ok = false → ∀ t h' tk', Fr h₀ L h' m → News h₀ L h' news → Q (.str (Str.ofString "error") t) { s with heap := h', toks := tk' }) :
  wpAny (model PySem.Challenge.rw_np0086_01.row.prog w) (ktrTop dp un gd cn cs L a ccd cl []) (call (.ref 595) [.ref lc, .ref lt]) Q E s := by
  have hXB : Unit → (heapK w.params).In base := fun _ => XB
  clear XB
  (revert X; k_fill; intro X)
  k_dflt (refine enterS (binds := [("codes", .ref lc), ("things", .ref lt)]) B F X N T rfl rfl hk (by k_is) (by k_is) (by ktr_room) (BindsTo.of_eq rfl) (locs rfl) ?_ rfl rfl rfl (by decide))
  intro g L' h₁ tk PQ PE G F' B' X' T' hPQ hPE
  set_option simprocs false in dsimp only [b595, qb595]
  have hl' := gList G hl
  have ht' := gList G ht
  have hth' : ∀ (i : Nat) (T : Thg), ths[i]? = some T → ∃ v, tv[i]? = some v ∧ ThIs w g v T := fun i T h => by
    obtain ⟨v, a, b⟩ := hth i T h
    exact ⟨v, a, b.keeps fun x o e => G x o e (fun q => nomatch q)⟩
  have N' : News g L' h₁ [] := fun _ h => nomatch h
  clear B F N T X G hl ht hth
  ((refine wpAny_execs_cons ?_); repeat' (first | ((with_reducible show wpAny _ _ (call (Value.ref 38) _) _ _ _); k_dflt (refine sig_c (by k_asm) (by k_asm) (by k_asm) (by k_asm) (by k_asm) (by rfl) (by ktr_room) (by ktr_units) ?_); intro e' dx' od' h' tk' F' N' M'; (try dsimp only)) | walk_at "K"))
  refine wpAny_execs_cons ?_
  repeat' (first | ((with_reducible show wpAny _ _ (call (Value.ref 38) _) _ _ _); k_dflt (refine sig_c (by k_asm) (by k_asm) (by k_asm) (by k_asm) (by k_asm) (by rfl) (by ktr_room) (by ktr_units) ?_); intro e' dx' od' h' tk' F' N' M'; (try dsimp only)) | walk_at "K")
  rename Fr g L' _ _ => Fw
  k_dflt (refine formatted_c (by k_asm) (by k_asm) (by k_asm) (by k_asm) (by k_asm) (by rfl) (stays_list Fw.keep hl') hi hlen (stays_list Fw.keep ht') (fun i T h => by obtain ⟨v, a, b⟩ := hth' i T h; exact ⟨v, a, b.keeps Fw.keep⟩) htl htn hrun htot (by ktr_room) (by ktr_units) ?_ ?_)
  · intro hok r ws n h' tk' F' N' o1 hI
    (try dsimp only)
    repeat' (first | ((with_reducible show wpAny _ _ (call (Value.ref 38) _) _ _ _); k_dflt (refine sig_c (by k_asm) (by k_asm) (by k_asm) (by k_asm) (by k_asm) (by rfl) (by ktr_room) (by ktr_units) ?_); intro e' dx' od' h' tk' F' N' M'; (try dsimp only)) | walk_at "K")
    exact hPQ _ _ ⟨g, _, _, KtsTurn.refl, F', N', fun b => hret hok _ _ _ _ _ b.fr b.nw (b.off1 (.head _)) hI⟩
  · intro hok g2 e dx od h' tk' G2 R u
    have q38 := kts38 w
    (revert hXB q38; k_fill; intro hXB q38)
    k_dflt (refine caught_D (news := []) R (fr_sub Fw G2) B' u (hXB ()) TB (fun _ h => by exact nomatch h) (by k_is) q38 ?_)
    intro h3 g3 oe tk3 T3 F3 N3 hc hd hn K3 X3 P3
    refine wpAny_execs_cons ?_
    repeat' (first | ((with_reducible show wpAny _ _ (call (Value.ref 38) _) _ _ _); k_dflt (refine sig_c (by k_asm) (by k_asm) (by k_asm) (by k_asm) (by k_asm) (by rfl) (by ktr_room) (by ktr_units) ?_); intro e' dx' od' h' tk' F' N' M'; (try dsimp only)) | walk_at "K")
    obtain ⟨ts, hts⟩ := R.2.2.sym
    have hI : InstAt h3 e oe 38 (some od) := ⟨(N3 _ (.head _)).1, hc, hn, by rw [hd]; exact (N3 _ (.tail _ (.head _))).1⟩
    refine exc_get (X3.keeps F3.keep) hI (by with_unfolding_all k_is) (by with_unfolding_all k_is) (by with_unfolding_all k_is) (findObj_own (attr := none) (by k_is) (by k_is) rfl hts) rfl (fun tk4 => ?_)
    repeat' (first | ((with_reducible show wpAny _ _ (call (Value.ref 38) _) _ _ _); k_dflt (refine sig_c (by k_asm) (by k_asm) (by k_asm) (by k_asm) (by k_asm) (by rfl) (by ktr_room) (by ktr_units) ?_); intro e' dx' od' h' tk' F' N' M'; (try dsimp only)) | walk_at "K")
    rename Fr g3 L' _ _ => Fz
    rename News g3 L' _ _ => Nz
    exact hPQ _ _ ⟨g3, _, _, T3, Fz, Nz, fun b => herr hok _ _ _ b.fr b.none⟩
end
end
section
/-! ## for TARGET in LIST, the list in the ledger -/
section
variable {prog : Program} {w : World} {A : Around} {E : Value → Shared → Prop} {Q : Flow → Shared → Prop} {s : Shared} {env : Env} {g : Heap} {m : Str → Option Value}
theorem forList {target : Expr} {pos : Pos} {iter : Expr} {body rest : List Stmt} {ax : Addr} {its : Array Value} {ka : Nat} (J : Nat → (Str → Option Value) → List (Addr × Obj) → Prop)
    (F₀ : Fr g env.locals s.heap m) (hh : A.handled = none) (hJa : ∀ i m nw, J i m nw → (ax, listOf its ka) ∈ nw)
    (hit : wpAny (model prog w) A (eval iter env) (fun xv s₁ => ∃ h' tk m' nw, s₁ = { s with heap := h', toks := tk } ∧ xv = .ref ax ∧ Fr g env.locals h' m' ∧ News g env.locals h' nw ∧ J 0 m' nw) E s)
    (turn : ∀ i v m₁ nw h tk I oI, its[i]? = some v → J i m₁ nw → LCg.Off1 I nw → Fr g env.locals h m₁ → News g env.locals h ((I, oI) :: nw) →
      wpAny (model prog w) A (assign target env v) (fun _ s₃ => wpAny (model prog w) A (execs body env) (FTurn g env.locals { s with heap := h, toks := tk } I oI (J (i + 1)) (J its.size) Q) E s₃) E { s with heap := h, toks := tk })
    (k : ∀ h' tk m' news', Fr g env.locals h' m' → News g env.locals h' news' → J its.size m' news' → wpAny (model prog w) A (execs rest env) Q E { s with heap := h', toks := tk })
    (hE : PassesOwn (model prog w) A env E) (hs : ∀ x, foldedSetIterable iter env x = pure x := by intro _; rfl) :
    wpAny (model prog w) A (execs (.For target iter body [] pos :: rest) env) Q E s := by
  refine cut (g := g) (L := env.locals) (J its.size) ?_ k
  refine For_turns (h₀ := g) F₀ (wpAny_mono hit (fun xv s₁ y => ?_) fun _ _ e => e) hs hE
  obtain ⟨h', tk, m', nw, rfl, rfl, F, N, hJ⟩ := y
  have hax := N _ (hJa _ _ _ hJ)
  dsimp only at hax
  have hl : h'.IsList ax its := ⟨_, hax.1, rfl, _, rfl⟩
  have hlt : ax < h'.objs.size := Heap.lt_size hax.1
  have hne : ax ≠ h'.objs.size := Nat.ne_of_lt hlt
  refine wpAny_pyIter_list hl ?_
  refine ⟨_, _, _, its.size, _, _, _, m', nw, J, rfl, KTurns.ofWalks (Walks.list hh h'.objs.size ax hne its) (fun i v s Q E st q => letGo_listiter st.1 q), ?_, ?_, ?_, ?_, F.push _, (fun q hq => ⟨Heap.get?_push_of_some _ (N q hq).1, (N q hq).2⟩), hJ, ?_, ?_⟩
  · intro hm
    simp only [List.mem_cons, List.not_mem_nil, or_false] at hm
    rcases hm with e | e
    · exact absurd F.ns.lt (e ▸ Nat.lt_irrefl _)
    · exact hax.2.1 e.symm
  · intro b hb
    rw [List.mem_singleton.mp hb]
    exact next_is_new F
  · intro q hq hI
    exact absurd (Heap.lt_size (N q hq).1) ((List.mem_singleton.mp hI) ▸ Nat.lt_irrefl _)
  · exact ⟨⟨_, Heap.get?_push_size _ rfl, rfl, rfl⟩, ⟨_, Heap.get?_push_of_some _ hax.1, rfl, _, rfl⟩⟩
  · rintro i v m₁ nw₁ h₁ tk₁ own hi hv hJ₁ hoff hown hown2 hall hst F₁ N₁
    obtain ⟨oI, hst', _⟩ := hst.1
    have hI : (h'.objs.size, oI) ∈ own := hall _ (.head _) (next_is_new F) _ hst'
    have hA₁ := hJa _ _ _ hJ₁
    have hone : ∀ q ∈ own, q = (h'.objs.size, oI) ∨ q = (ax, listOf its ka) := fun q hq => by
      have e := hown2 q hq
      have z := hown q hq
      simp only [List.mem_cons, List.not_mem_nil, or_false] at z
      obtain ⟨b, o⟩ := q
      dsimp only at e z
      rcases z with rfl | rfl
      · rw [hst'] at e
        exact .inl (by rw [Option.some.inj e])
      · have y := (N₁ _ (List.mem_append_right _ hA₁)).1
        dsimp only at y
        rw [y] at e
        exact .inr (by rw [Option.some.inj e])
    refine wpAny_mono (turn i v m₁ nw₁ h₁ tk₁ h'.objs.size oI hv hJ₁ (off1_of fun q hq => by simpa using hoff q hq) F₁ (fun q hq => by
      rcases List.mem_cons.mp hq with rfl | hq
      · exact N₁ _ (List.mem_append_left _ hI)
      · exact N₁ _ (List.mem_append_right _ hq))) (fun _ s₃ x => wpAny_mono x (fun fl s₂ z => ?_) fun _ _ e => e) fun _ _ e => e
    have fin : FEnd g env.locals { s with heap := h₁, toks := tk₁ } h'.objs.size oI (J (i + 1)) s₂ → LoopStepU g env.locals [h'.objs.size] own (J (i + 1)) { s with heap := h₁, toks := tk₁ } .next s₂ := by
      rintro ⟨h₂, tk₂, m₂, news₂, nw₂, rfl, F₂, N₂, led, off, hJ₂⟩
      refine ⟨rfl, h₂, tk₂, m₂, nw₂, rfl, F₂, fun q hq => ?_, fun q hq => by simpa using off1_mem off q hq, hJ₂⟩
      rcases List.mem_append.mp hq with hq | hq
      · rcases hone q hq with e | e
        · rw [e]; exact N₂ _ (led _ (.head _))
        · rw [e]; exact N₂ _ (led _ (.tail _ (hJa _ _ _ hJ₂)))
      · exact N₂ _ (led _ (.tail _ hq))
    cases fl with
    | ret v => exact .ret z
    | brk => exact .brk z
    | next => exact .next (fin z)
    | cont => exact .cont (fin z)
  · rintro h₂ tk₂ m₂ nw₂ F₂ N₂ _ hJ₂
    exact ⟨h₂, tk₂, m₂, nw₂, rfl, F₂, N₂, hJ₂⟩
noncomputable def FTurnZ (ZE : Shared → Prop) (Q : Flow → Shared → Prop) (fl : Flow) (s' : Shared) : Prop :=
  match fl with
  | .next | .cont => ZE s'
  | .brk => False
  | .ret v => Q (.ret v) s'
theorem forListA {target : Expr} {pos : Pos} {iter : Expr} {body rest : List Stmt} {ax : Addr} {its : Array Value} {ka : Nat} (J : Nat → ((Str → Option Value) → List (Addr × Obj) → Prop) → Prop)
    (hall : ∀ i Z, (∀ m nw, (∀ Z', J i Z' → Z' m nw) → Z m nw) → J i Z)
    (F₀ : Fr g env.locals s.heap m) (hh : A.handled = none) (hJa : ∀ i, J i fun _ nw => (ax, listOf its ka) ∈ nw)
    (hit : ∀ Z : Shared → Prop, (J 0 fun m nw => ∀ h' tk, Fr g env.locals h' m → News g env.locals h' nw → Z { s with heap := h', toks := tk }) → wpAny (model prog w) A (eval iter env) (fun xv s₁ => xv = .ref ax ∧ Z s₁) E s)
    (turn : ∀ i v h tk I oI (ZE : Shared → Prop), its[i]? = some v → (J (i + 1) fun m nw => ∀ h' tk', Fr g env.locals h' m → News g env.locals h' ((I, oI) :: nw) → LCg.Off1 I nw → ZE { s with heap := h', toks := tk' }) →
      J i fun m nw => LCg.Off1 I nw → Fr g env.locals h m → News g env.locals h ((I, oI) :: nw) →
        wpAny (model prog w) A (assign target env v) (fun _ s₃ => wpAny (model prog w) A (execs body env) (FTurnZ ZE Q) E s₃) E { s with heap := h, toks := tk })
    (k : J its.size fun m nw => ∀ h' tk, Fr g env.locals h' m → News g env.locals h' nw → wpAny (model prog w) A (execs rest env) Q E { s with heap := h', toks := tk })
    (hE : PassesOwn (model prog w) A env E) (hs : ∀ x, foldedSetIterable iter env x = pure x := by intro _; rfl) :
    wpAny (model prog w) A (execs (.For target iter body [] pos :: rest) env) Q E s := by
  refine forList (fun i m nw => ∀ Z, J i Z → Z m nw) F₀ hh (fun i m nw c => c _ (hJa i)) ?_ ?_ (fun h' tk m' nw F N c => c _ k h' tk F N) hE hs
  · refine wpAny_mono (hit (fun s₁ => ∃ h' tk m' nw, s₁ = { s with heap := h', toks := tk } ∧ Fr g env.locals h' m' ∧ News g env.locals h' nw ∧ ∀ Z, J 0 Z → Z m' nw) (hall 0 _ fun m nw c h' tk F N => ⟨h', tk, m, nw, rfl, F, N, c⟩)) (fun xv s₁ y => ?_) fun _ _ e => e
    obtain ⟨e, h', tk, m', nw, e', F, N, c⟩ := y
    exact ⟨h', tk, m', nw, e', e, F, N, c⟩
  · intro i v m₁ nw h tk I oI hv c off F N
    refine wpAny_mono (c _ (turn i v h tk I oI (fun s' => FEnd g env.locals { s with heap := h, toks := tk } I oI (fun m nw => ∀ Z, J (i + 1) Z → Z m nw) s') hv (hall (i + 1) _ fun m nw c h' tk' F N off => ⟨h', tk', m, _, nw, rfl, F, N, fun _ h => h, off, c⟩)) off F N)
      (fun _ s₃ x => wpAny_mono x (fun fl s₂ z => ?_) fun _ _ e => e) fun _ _ e => e
    cases fl with
    | next => exact z
    | cont => exact z
    | brk => exact z.elim
    | ret v => exact z
end
end
section
/-! ## The order and its places -/
noncomputable def ordOf (b : Bool) (n : Nat) : List Int := if b then (rangeKs 0 n).reverse else rangeKs 0 n
noncomputable def posOf (rv : Bool) (n k : Nat) : Int := if rv then (n : Int) - 1 - k else k
theorem ord_lay : ∀ rv : Bool, ∀ n, n < 6 → PyData.layable0 (.list ((ordOf rv n).map .int)) = true := by
  intro rv n h
  have h' : n = 0 ∨ n = 1 ∨ n = 2 ∨ n = 3 ∨ n = 4 ∨ n = 5 := by omega
  cases rv <;> rcases h' with rfl | rfl | rfl | rfl | rfl | rfl <;> decide +kernel
theorem ord_idx : ∀ rv : Bool, ∀ n, n < 6 → ∀ k, k < n → (k : Int) ∈ ordOf rv n ∧ (((ordOf rv n).idxOf (k : Int) : Nat) : Int) = posOf rv n k := by
  intro rv n h
  have h' : n = 0 ∨ n = 1 ∨ n = 2 ∨ n = 3 ∨ n = 4 ∨ n = 5 := by omega
  cases rv <;> rcases h' with rfl | rfl | rfl | rfl | rfl | rfl <;> decide +kernel
end
section
noncomputable def Parts (w : World) (R : List (Addr × Obj)) (ys : List Value) (ps : List Prt) : Prop := ys.length = ps.length ∧ ∀ (i : Nat) (p : Prt), ps[i]? = some p → ∃ ra, ys[i]? = some (.ref ra) ∧ PIn w R ra p
theorem Parts.snoc {w : World} {R R' : List (Addr × Obj)} {ys : List Value} {ps : List Prt} {ra : Addr} {p : Prt} (h : Parts w R ys ps) (hp : PIn w R' ra p) : Parts w (R' ++ R) (ys ++ [.ref ra]) (ps ++ [p]) := by
  refine ⟨by rw [List.length_append, List.length_append, h.1]; rfl, fun i q hq => ?_⟩
  by_cases hi : i < ps.length
  · rw [List.getElem?_append_left hi] at hq
    obtain ⟨a, ha, hP⟩ := h.2 i q hq
    exact ⟨a, by rw [List.getElem?_append_left (by rw [h.1]; exact hi)]; exact ha, hP.mono fun q hq => List.mem_append_right _ hq⟩
  · rw [List.getElem?_append_right (by omega)] at hq
    have hi' : i = ps.length := by
      have := (List.getElem?_eq_some_iff.mp hq).1
      simp only [List.length_singleton] at this
      omega
    subst hi'
    rw [Nat.sub_self] at hq
    obtain rfl : p = q := by simpa using hq
    exact ⟨ra, by rw [List.getElem?_append_right (by rw [h.1]; exact Nat.le_refl _), h.1, Nat.sub_self]; rfl, hp.mono fun q hq => List.mem_append_left _ hq⟩
noncomputable def JP (w : World) (dk c2 c1 : Addr) (o2 o1 : Obj) (i : Nat) (ys : List Value) (nw : List (Addr × Obj)) : Prop :=
  ∃ (ps : List Prt) (vs : List Value) (ds : List Int) (k : Nat) (R : List (Addr × Obj)), Parts w R ys ps ∧ (∀ p ∈ ps, PGood p) ∧ ps.length = i ∧ Dk vs ds ∧ nw = (dk, listOf (List.toArray vs) k) :: (c2, o2) :: (c1, o1) :: R ∧ (∀ q ∈ R, q.1 ≠ dk ∧ q.1 ≠ c2 ∧ q.1 ≠ c1)
theorem off3_of {I C D : Addr} {l : List (Addr × Obj)} (h : ∀ q ∈ l, q.1 ≠ I ∧ q.1 ≠ C ∧ q.1 ≠ D) : LCg.Off3 I C D l := by
  induction l with
  | nil => exact True.intro
  | cons q r ih => exact ⟨h q (.head _), ih fun p hp => h p (.tail _ hp)⟩
theorem off3_mem {I C D : Addr} {l : List (Addr × Obj)} (h : LCg.Off3 I C D l) : ∀ q ∈ l, q.1 ≠ I ∧ q.1 ≠ C ∧ q.1 ≠ D := by
  induction l with
  | nil => exact fun q hq => absurd hq List.not_mem_nil
  | cons q r ih =>
    intro p hp
    rcases List.mem_cons.mp hp with rfl | hp
    · exact h.1
    · exact ih h.2 p hp
theorem range_six {r : Int} (h0 : 0 ≤ r) (h1 : r < 6) : Builtin.Range.small 0 r 1 = true ∧ Builtin.Range.rangeSize 0 r 1 = ((r.toNat : Nat) : Int) := by
  have h : r = 0 ∨ r = 1 ∨ r = 2 ∨ r = 3 ∨ r = 4 ∨ r = 5 := by omega
  rcases h with rfl | rfl | rfl | rfl | rfl | rfl <;> exact ⟨rfl, rfl⟩
noncomputable def thgs (ps : List Prt) : List Thg := ps.filterMap fun | .spec _ th _ => some th | .flat _ _ => none
noncomputable def ThsAre (w : World) (R : List (Addr × Obj)) (ys : List Value) (ths : List Thg) : Prop := ys.length = ths.length ∧ ∀ (i : Nat) (T : Thg), ths[i]? = some T → ∃ v, ys[i]? = some v ∧ ThIn w R v T
theorem ThsAre.snoc {w : World} {R : List (Addr × Obj)} {ys : List Value} {ths : List Thg} {v : Value} {T : Thg} (h : ThsAre w R ys ths) (hp : ThIn w R v T) : ThsAre w R (ys ++ [v]) (ths ++ [T]) := by
  refine ⟨by rw [List.length_append, List.length_append, h.1]; rfl, fun i q hq => ?_⟩
  by_cases hi : i < ths.length
  · rw [List.getElem?_append_left hi] at hq
    obtain ⟨a, ha, hP⟩ := h.2 i q hq
    exact ⟨a, by rw [List.getElem?_append_left (by rw [h.1]; exact hi)]; exact ha, hP⟩
  · rw [List.getElem?_append_right (by omega)] at hq
    have hi' : i = ths.length := by
      have := (List.getElem?_eq_some_iff.mp hq).1
      simp only [List.length_singleton] at this
      omega
    subst hi'
    rw [Nat.sub_self] at hq
    obtain rfl : T = q := by simpa using hq
    exact ⟨v, by rw [List.getElem?_append_right (by rw [h.1]; exact Nat.le_refl _), h.1, Nat.sub_self]; rfl, hp⟩
theorem thgs_take {ps : List Prt} {i : Nat} {p : Prt} (h : ps[i]? = some p) : thgs (ps.take (i + 1)) = thgs (ps.take i) ++ thgs [p] := by
  unfold thgs
  rw [List.take_add_one, h, List.filterMap_append]
  rfl
theorem PGood.form {p : Prt} (h : PGood p) : (∃ ws tale, p = .flat ws tale) ∨ (∃ st n tale, p = .spec st (.num n) tale) ∨ (∃ st l tale, p = .spec st (.txt l) tale) := by
  cases h with
  | plain => exact .inl ⟨_, _, rfl⟩
  | pct => exact .inl ⟨_, _, rfl⟩
  | num => exact .inr (.inl ⟨_, _, _, rfl⟩)
  | chr => exact .inr (.inl ⟨_, _, _, rfl⟩)
  | txt => exact .inr (.inr ⟨_, _, _, rfl⟩)
theorem news_in {g h : Heap} {L : Addr} {l : List (Addr × Obj)} {q : Addr × Obj} (N : News g L h l) (hq : q ∈ l) : News g L h (q :: l) := fun r hr => by
  rcases List.mem_cons.mp hr with rfl | hr
  · exact N _ hq
  · exact N _ hr
noncomputable def fieldT (f : Bool) (i : Int) : Str := if f then Str.ofString (toString (i + 1)) ++ Str.ofString "$" else Str.ofString ""
noncomputable def taleOf : Prt → List Int
  | .flat _ tale => tale
  | .spec _ _ tale => tale
noncomputable def dueOf (ps : List Prt) : List Int := (ps.map taleOf).flatten
/-- the codes that the law builds out of its portions -/
inductive Built (rv : Bool) (n : Nat) : List Prt → List Int → Prop
  | nil : Built rv n [] []
  | flat {ps : List Prt} {cs ws tale : List Int} (h : Built rv n ps cs) : Built rv n (ps ++ [.flat ws tale]) (cs ++ ws)
  | spec {ps : List Prt} {cs tale : List Int} {st : Str} {th : Thg} (f : Bool) (h : Built rv n ps cs) (hf : f = false → (ordOf rv n).take 1 = [0]) :
    Built rv n (ps ++ [.spec st th tale]) (cs ++ [37] ++ sgn (fieldT f (posOf rv n (thgs ps).length) ++ st))
theorem PGood.flat_len {ws tale : List Int} (h : PGood (.flat ws tale)) : ws.length ≤ 2 ∧ tale.length ≤ 2 := by
  cases h with
  | plain c k h1 h2 h3 => rw [List.length_replicate]; exact ⟨h3, h3⟩
  | pct => exact ⟨Nat.le_refl _, by decide⟩
theorem padS_len (le : Bool) (wi : Int) (ns : List Int) : (padS le wi ns).length ≤ wi.toNat + ns.length := by
  unfold padS
  split <;> rw [List.length_append, List.length_replicate] <;> omega
theorem nCodes_len (d : SD) (n : Int) (hw : d.width ≤ 8) (hp : d.prec ≤ 3) : (nCodes d n).length ≤ 100 := by
  have a1 : (nHead d n).length ≤ 1 := by
    unfold nHead
    split
    · exact Nat.le_refl _
    split
    · exact Nat.le_refl _
    split
    · exact Nat.le_refl _
    · exact Nat.zero_le _
  have a2 : (nHead2 d n).length ≤ 3 := by
    unfold nHead2
    split
    · rw [List.length_append]; simp only [List.length_cons, List.length_nil]; omega
    · omega
  have a3 : (nF1 d n).length ≤ 11 := by
    unfold nF1
    rw [List.length_append, List.length_replicate]
    have := figS_len (if n < 0 then -n else n) d.letter
    omega
  have a4 : (nF2 d n).length ≤ 12 := by
    unfold nF2
    split
    · rw [List.length_cons]; omega
    · omega
  have a5 : (nF3 d n).length ≤ 20 := by
    unfold nF3
    split
    · rw [List.length_append, List.length_replicate]; omega
    · omega
  refine Nat.le_trans (padS_len _ _ _) ?_
  rw [List.length_append]
  omega
theorem PGood.tale_len {p : Prt} (h : PGood p) : (taleOf p).length ≤ 400 := by
  cases h with
  | plain c k h1 h2 h3 => show (List.replicate _ _).length ≤ _; rw [List.length_replicate]; omega
  | pct => decide
  | num le pl bl no ma wi sz l n h1 h2 h3 h4 hl h5 h6 => exact Nat.le_trans (nCodes_len _ _ h2 h4) (by decide)
  | chr le pl bl no ma wi sz n h1 h2 h3 h4 h5 h6 =>
    refine Nat.le_trans (padS_len _ _ _) ?_
    rw [List.length_singleton]
    omega
  | txt le pl bl no ma wi sz l h1 h2 h3 h4 h5 =>
    refine Nat.le_trans (padS_len _ _ _) ?_
    have := cutS_len (pr := sz) (nt := l)
    omega
theorem due_len : ∀ (ps : List Prt), (∀ p ∈ ps, PGood p) → (dueOf ps).length ≤ 400 * ps.length
  | [], _ => Nat.zero_le _
  | p :: ps, h => by
    have a := (h p (.head _)).tale_len
    have b := due_len ps fun q hq => h q (.tail _ hq)
    show (taleOf p ++ dueOf ps).length ≤ 400 * (ps.length + 1)
    rw [List.length_append]
    omega
theorem due_take {ps : List Prt} {i : Nat} {p : Prt} (h : ps[i]? = some p) : dueOf (ps.take (i + 1)) = dueOf (ps.take i) ++ taleOf p := by
  unfold dueOf
  rw [List.take_add_one, h, List.map_append, List.flatten_append]
  simp
theorem ordOf_len (rv : Bool) (n : Nat) : (ordOf rv n).length = n := by
  unfold ordOf
  cases rv
  · show (rangeKs 0 n).length = n
    rw [rangeKs_length]
  · show (rangeKs 0 n).reverse.length = n
    rw [List.length_reverse, rangeKs_length]
theorem thgs_pos {ps : List Prt} {i : Nat} {st : Str} {th : Thg} {tale : List Int} (h : ps[i]? = some (.spec st th tale)) : 1 ≤ (thgs ps).length := by
  have : th ∈ thgs ps := List.mem_filterMap.mpr ⟨_, List.mem_of_getElem? h, rfl⟩
  exact List.length_pos_of_mem this
theorem pos_bd {rv : Bool} {n k : Nat} (h : k < n) (hn : n ≤ 5) : 0 ≤ posOf rv n k ∧ posOf rv n k ≤ 5 := by
  unfold posOf
  split <;> omega
theorem ThIn.form {w : World} {R : List (Addr × Obj)} {v : Value} {th : Thg} (h : ThIn w R v th) (hn : th ≠ .any) : (∃ z t, v = .int z t) ∨ (∃ y, v = .ref y) := by
  cases th with
  | num n => obtain ⟨t, rfl⟩ := h; exact .inl ⟨_, _, rfl⟩
  | any => exact absurd rfl hn
  | txt l => obtain ⟨y, dy, lt, ky, n, kq, vt, rfl, _⟩ := h; exact .inr ⟨_, rfl⟩
end
section
/-! ## A specifier read out of its signs -/
theorem digRun_of {ns D r : List Int} {k : Nat} {x : Int} (h : ns.drop k = D ++ (x :: r)) (hD : ∀ c ∈ D, isDig c = true) (hx : isDig x = false) : digRun ns k = D := by
  unfold digRun
  rw [h, List.takeWhile_append_of_pos hD, List.takeWhile_cons_of_neg (by rw [hx]; decide), List.append_nil]
theorem flagRun_of {ns D r : List Int} {k : Nat} {x : Int} (h : ns.drop k = D ++ (x :: r)) (hD : ∀ c ∈ D, isFlag c = true) (hx : isFlag x = false) : flagRun ns k = D := by
  unfold flagRun
  rw [h, List.takeWhile_append_of_pos hD, List.takeWhile_cons_of_neg (by rw [hx]; decide), List.append_nil]
theorem drop_go {ns D r : List Int} {k : Nat} (h : ns.drop k = D ++ r) : ns.drop (k + D.length) = r := by
  rw [← List.drop_drop, h, List.drop_left]
theorem getD_drop {ns r : List Int} {k : Nat} {x : Int} (h : ns.drop k = x :: r) : ns.getD k 0 = x ∧ k < ns.length := by
  have e : (ns.drop k)[0]? = some x := by rw [h]; rfl
  rw [List.getElem?_drop, Nat.add_zero] at e
  exact ⟨by rw [List.getD_eq_getElem?_getD, e]; rfl, (List.getElem?_eq_some_iff.mp e).1⟩
theorem tw_next {c : Int} (post : List Int) (hc : isDig c = false) (hc2 : c ≠ 36) : ∀ W : List Int, (∀ x ∈ W, x ≠ 36) →
    (W ++ c :: post).getD ((W ++ c :: post).takeWhile isDig).length 0 ≠ 36 ∧ ((W ++ c :: post).takeWhile isDig).length ≤ W.countP isDig
  | [], _ => by
    rw [List.nil_append, List.takeWhile_cons_of_neg (by rw [hc]; decide)]
    exact ⟨hc2, Nat.zero_le _⟩
  | x :: W, h => by
    have ih := tw_next post hc hc2 W fun y hy => h y (.tail _ hy)
    rw [List.cons_append]
    by_cases hx : isDig x = true
    · rw [List.takeWhile_cons_of_pos hx, List.countP_cons_of_pos hx, List.length_cons]
      exact ⟨ih.1, Nat.succ_le_succ ih.2⟩
    · rw [List.takeWhile_cons_of_neg hx]
      exact ⟨h x (.head _), Nat.zero_le _⟩
/-- the signs of a specifier behind its field: flags, width, precision, letter -/
structure Wrd (Fl Wd P : List Int) (c : Int) : Prop where
  fl : ∀ x ∈ Fl, isFlag x = true
  wd : ∀ x ∈ Wd, isDig x = true ∧ isFlag x = false
  pr : P = [] ∨ ∃ y, P = [46, y] ∧ isDig y = true
  dig : isDig c = false
  flg : isFlag c = false
  dot : c ≠ 46
  sum : c ≠ 36
  lo : 32 ≤ c
  hi : c < 127
  fn : Fl.countP isDig ≤ 1
  wn : Wd.length ≤ 1
noncomputable def precOf (P : List Int) : Int := if P = [] then -1 else digVal (P.drop 1)
noncomputable def Cl (post : List Int) : Prop := post.takeWhile isDig = []
theorem Cl.nil : Cl [] := rfl
theorem Cl.cons {c : Int} {r : List Int} (h : isDig c = false) : Cl (c :: r) := List.takeWhile_cons_of_neg (by rw [h]; decide)
theorem parse {ns Fl Wd P post : List Int} {c : Int} {k : Nat} (H : Wrd Fl Wd P c) (hp : Cl post) (h : ns.drop (rsK1 ns k) = Fl ++ (Wd ++ (P ++ (c :: post)))) :
    rsSD ns k = { setFlags { sd0 with field := rsField ns k } Fl with width := digVal Wd, prec := if P = [] then (setFlags { sd0 with field := rsField ns k } Fl).prec else digVal (P.drop 1), letter := Str.mk #[c.toNat] } ∧
    rsK4 ns k = rsK1 ns k + Fl.length + Wd.length + P.length ∧ rsK4 ns k < ns.length ∧ ns.getD (rsK4 ns k) 0 = c ∧ (digRun ns (rsK2 ns k)).length ≤ 4 ∧ (digRun ns (rsK3 ns k + 1)).length ≤ 4 := by
  have hcf : ∀ r, ∃ x r', P ++ (c :: r) = x :: r' ∧ isDig x = false ∧ isFlag x = false := fun r => by
    rcases H.pr with rfl | ⟨y, rfl, hy⟩
    · exact ⟨c, r, rfl, H.dig, H.flg⟩
    · exact ⟨46, _, rfl, by decide, by decide⟩
  have e1 : flagRun ns (rsK1 ns k) = Fl := by
    cases Wd with
    | nil =>
      obtain ⟨x, r', e, h1, h2⟩ := hcf post
      rw [List.nil_append, e] at h
      exact flagRun_of h H.fl h2
    | cons x r => exact flagRun_of h H.fl (H.wd x (.head _)).2
  have h2 : ns.drop (rsK2 ns k) = Wd ++ (P ++ (c :: post)) := by
    unfold rsK2
    rw [e1]
    exact drop_go h
  have e2 : digRun ns (rsK2 ns k) = Wd := by
    obtain ⟨x, r', e, h3, h4⟩ := hcf post
    rw [e] at h2
    exact digRun_of h2 (fun x hx => (H.wd x hx).1) h3
  have h3 : ns.drop (rsK3 ns k) = P ++ (c :: post) := by
    unfold rsK3
    rw [e2]
    exact drop_go h2
  have e3 : rsK3 ns k = rsK1 ns k + Fl.length + Wd.length := by
    unfold rsK3 rsK2
    rw [e1]
    unfold rsK2 at e2
    rw [e1] at e2
    rw [e2]
  rcases H.pr with rfl | ⟨y, rfl, hy⟩
  · have hz := getD_drop h3
    have eP : rsP ns k = false := by
      unfold rsP
      rw [hz.1, show decide (c = 46) = false from decide_eq_false H.dot, Bool.and_false]
    have e4 : rsK4 ns k = rsK3 ns k := by unfold rsK4; rw [eP]; rfl
    refine ⟨?_, by rw [e4, e3]; rfl, by rw [e4]; exact hz.2, by rw [e4]; exact hz.1, by rw [e2]; exact Nat.le_trans H.wn (by decide), ?_⟩
    · unfold rsSD rsPrec
      rw [eP, e1, e2, e4, hz.1]
      rfl
    · have h4 : ns.drop (rsK3 ns k + 1) = post := drop_go (D := [c]) h3
      unfold digRun
      rw [h4, hp]
      decide
  · have hz := getD_drop h3
    have eP : rsP ns k = true := by
      unfold rsP
      rw [hz.1, decide_eq_true hz.2]
      rfl
    have h4 : ns.drop (rsK3 ns k + 1) = [y] ++ (c :: post) := drop_go (D := [46]) h3
    have e5 : digRun ns (rsK3 ns k + 1) = [y] := digRun_of h4 (by intro x hx; rw [List.mem_singleton.mp hx]; exact hy) H.dig
    have e4 : rsK4 ns k = rsK3 ns k + 2 := by unfold rsK4; rw [eP, e5]; rfl
    have h5 : ns.drop (rsK3 ns k + 2) = c :: post := drop_go (D := [46, y]) h3
    have hz5 := getD_drop h5
    refine ⟨?_, by rw [e4, e3]; rfl, by rw [e4]; exact hz5.2, by rw [e4]; exact hz5.1, by rw [e2]; exact Nat.le_trans H.wn (by decide), by rw [e5]; exact Nat.succ_le_succ (Nat.zero_le _)⟩
    unfold rsSD rsPrec
    rw [eP, e1, e2, e4, e5, hz5.1]
    rfl
theorem parse_field {ns Fl Wd P post : List Int} {c y : Int} {k : Nat} (H : Wrd Fl Wd P c) (hp : Cl post) (hy : isDig y = true) (hy0 : 49 ≤ y) (h : ns.drop k = [y, 36] ++ (Fl ++ (Wd ++ (P ++ (c :: post))))) :
    ROk ns k ∧ rsSD ns k = { setFlags { sd0 with field := y - 49 } Fl with width := digVal Wd, prec := if P = [] then (setFlags { sd0 with field := y - 49 } Fl).prec else digVal (P.drop 1), letter := Str.mk #[c.toNat] } ∧
    rsK4 ns k + 1 = k + ([y, 36] ++ (Fl ++ (Wd ++ (P ++ [c])))).length := by
  have e0 : digRun ns k = [y] := digRun_of (D := [y]) (x := 36) h (by intro x hx; rw [List.mem_singleton.mp hx]; exact hy) (by decide)
  have h1 : ns.drop (k + 1) = 36 :: (Fl ++ (Wd ++ (P ++ (c :: post)))) := drop_go (D := [y]) h
  have hz := getD_drop h1
  have eF : rsF ns k = true := by
    unfold rsF
    rw [e0, show k + [y].length = k + 1 from rfl, hz.1, decide_eq_true hz.2]
    rfl
  have eK : rsK1 ns k = k + 2 := by unfold rsK1; rw [eF, e0]; rfl
  have ev : digVal [y] = y - 48 := by unfold digVal; simp
  have ef : rsField ns k = y - 49 := by unfold rsField; rw [eF, e0, ev]; simp only [if_true]; omega
  have h2 : ns.drop (rsK1 ns k) = Fl ++ (Wd ++ (P ++ (c :: post))) := by rw [eK]; exact drop_go (D := [y, 36]) h
  have z := parse H hp h2
  rw [ef] at z
  refine ⟨⟨by rw [e0]; exact Nat.succ_le_succ (Nat.zero_le _), z.2.2.2.2.1, z.2.2.2.2.2, fun _ => by rw [e0, ev]; omega, z.2.2.1, by rw [z.2.2.2.1]; exact H.lo, by rw [z.2.2.2.1]; exact H.hi⟩, z.1, ?_⟩
  rw [z.2.1, eK]
  simp only [List.length_append, List.length_cons, List.length_nil]
  omega
theorem parse_plain {ns Fl Wd P post : List Int} {c : Int} {k : Nat} (H : Wrd Fl Wd P c) (hp : Cl post) (h : ns.drop k = Fl ++ (Wd ++ (P ++ (c :: post)))) :
    ROk ns k ∧ rsSD ns k = { setFlags sd0 Fl with width := digVal Wd, prec := if P = [] then (setFlags sd0 Fl).prec else digVal (P.drop 1), letter := Str.mk #[c.toNat] } ∧
    rsK4 ns k + 1 = k + (Fl ++ (Wd ++ (P ++ [c]))).length := by
  have hn := tw_next post H.dig H.sum (Fl ++ Wd ++ P) (by
    intro x hx e
    subst e
    rcases List.mem_append.mp hx with hx | hx
    · rcases List.mem_append.mp hx with hx | hx
      · exact absurd (H.fl _ hx) (by decide)
      · exact absurd (H.wd _ hx).1 (by decide)
    · rcases H.pr with rfl | ⟨y, rfl, hy⟩
      · cases hx
      · simp only [List.mem_cons, List.not_mem_nil, or_false] at hx
        rcases hx with hx | hx
        · cases hx
        · rw [← hx] at hy; exact absurd hy (by decide))
  have e : ns.drop k = Fl ++ Wd ++ P ++ (c :: post) := by rw [h]; simp only [List.append_assoc]
  rw [← e] at hn
  have hlen : (digRun ns k).length ≤ 4 := by
    refine Nat.le_trans hn.2 ?_
    rw [List.countP_append, List.countP_append]
    have a := H.fn
    have b := List.countP_le_length (p := isDig) (l := Wd)
    have b2 := H.wn
    have d : P.countP isDig ≤ 2 := Nat.le_trans List.countP_le_length (by rcases H.pr with rfl | ⟨y, rfl, hy⟩ <;> exact Nat.le_of_ble_eq_true rfl)
    omega
  have eF : rsF ns k = false := by
    unfold rsF
    have : ns.getD (k + (digRun ns k).length) 0 ≠ 36 := by
      have a := hn.1
      rw [List.getD_eq_getElem?_getD, List.getElem?_drop, ← List.getD_eq_getElem?_getD] at a
      exact a
    rw [decide_eq_false this, Bool.and_false]
  have eK : rsK1 ns k = k := by unfold rsK1; rw [eF]; rfl
  have ef : rsField ns k = -1 := by unfold rsField; rw [eF]; rfl
  have h2 : ns.drop (rsK1 ns k) = Fl ++ (Wd ++ (P ++ (c :: post))) := by rw [eK]; exact h
  have z := parse H hp h2
  rw [ef] at z
  refine ⟨⟨hlen, z.2.2.2.2.1, z.2.2.2.2.2, fun q => (by rw [eF] at q; cases q), z.2.2.1, by rw [z.2.2.2.1]; exact H.lo, by rw [z.2.2.2.1]; exact H.hi⟩, z.1, ?_⟩
  rw [z.2.1, eK]
  simp only [List.length_append, List.length_cons, List.length_nil]
  omega
/-! ## The words of the law -/
noncomputable def flagL (le pl bl no ma : Bool) : List Int := (if le then [45] else []) ++ ((if pl then [43] else []) ++ ((if bl then [32] else []) ++ ((if no then [48] else []) ++ (if ma then [35] else []))))
noncomputable def widL (wi : Int) : List Int := if 0 < wi then [48 + wi] else []
noncomputable def preL (sz : Int) : List Int := if 0 ≤ sz then [46, 48 + sz] else []
theorem sgn_flag : ∀ le pl bl no ma : Bool, sgn (flagT [le, pl, bl, no, ma]) = flagL le pl bl no ma := by decide +kernel
theorem flag_is : ∀ le pl bl no ma : Bool, ∀ x ∈ flagL le pl bl no ma, isFlag x = true := by decide
theorem flag_cnt : ∀ le pl bl no ma : Bool, (flagL le pl bl no ma).countP isDig ≤ 1 := by decide
theorem flag_set (fi : Int) : ∀ le pl bl no ma : Bool, setFlags { sd0 with field := fi } (flagL le pl bl no ma) = ⟨fi, le, pl, bl, no, ma, 0, -1, Str.ofString ""⟩ := by
  intro le pl bl no ma
  cases le <;> cases pl <;> cases bl <;> cases no <;> cases ma <;> rfl
theorem sgn_wide : ∀ wi : Int, 0 ≤ wi → wi ≤ 8 → sgn (wideT wi) = widL wi := by
  intro i h0 h1
  have h : i = 0 ∨ i = 1 ∨ i = 2 ∨ i = 3 ∨ i = 4 ∨ i = 5 ∨ i = 6 ∨ i = 7 ∨ i = 8 := by omega
  rcases h with rfl | rfl | rfl | rfl | rfl | rfl | rfl | rfl | rfl <;> decide +kernel
theorem sgn_size : ∀ sz : Int, -2 ≤ sz → sz ≤ 3 → sgn (sizeT sz) = preL sz := by
  intro i h0 h1
  have h : i = -2 ∨ i = -1 ∨ i = 0 ∨ i = 1 ∨ i = 2 ∨ i = 3 := by omega
  rcases h with rfl | rfl | rfl | rfl | rfl | rfl <;> decide +kernel
theorem sgn_field : ∀ f : Bool, ∀ i : Int, 0 ≤ i → i ≤ 5 → sgn (fieldT f i) = if f then [49 + i, 36] else [] := by
  intro f i h0 h1
  have h : i = 0 ∨ i = 1 ∨ i = 2 ∨ i = 3 ∨ i = 4 ∨ i = 5 := by omega
  cases f <;> rcases h with rfl | rfl | rfl | rfl | rfl | rfl <;> decide +kernel
noncomputable def Six (l : Str) : Prop := Four l ∨ l = Str.ofString "c" ∨ l = Str.ofString "s"
theorem isDig_of {x : Int} (h : 48 ≤ x) (h2 : x ≤ 57) : isDig x = true := by
  unfold isDig
  rw [decide_eq_true h, decide_eq_true h2]
  rfl
theorem not_flag {x : Int} (h : 49 ≤ x) : isFlag x = false := by
  unfold isFlag
  simp only [List.any_cons, List.any_nil, Bool.or_false, Bool.or_eq_false_iff, beq_eq_false_iff_ne, ne_eq]
  omega
theorem wrd_of {le pl bl no ma : Bool} {wi sz c : Int} (h1 : wi ≤ 8) (h3 : sz ≤ 3) (dig : isDig c = false) (flg : isFlag c = false) (dot : c ≠ 46) (sum : c ≠ 36) (lo : 32 ≤ c) (hi : c < 127) : Wrd (flagL le pl bl no ma) (widL wi) (preL sz) c := by
  refine ⟨flag_is _ _ _ _ _, ?_, ?_, dig, flg, dot, sum, lo, hi, flag_cnt _ _ _ _ _, ?_⟩
  · intro x hx
    unfold widL at hx
    split at hx
    · rw [List.mem_singleton.mp hx]
      exact ⟨isDig_of (by omega) (by omega), not_flag (by omega)⟩
    · cases hx
  · unfold preL
    split
    · exact .inr ⟨_, rfl, isDig_of (by omega) (by omega)⟩
    · exact .inl rfl
  · unfold widL
    split
    · exact Nat.le_refl _
    · exact Nat.zero_le _
theorem six_sign {l : Str} (h : Six l) : ∃ c : Int, sgn l = [c] ∧ Str.mk #[c.toNat] = l ∧ isDig c = false ∧ isFlag c = false ∧ c ≠ 46 ∧ c ≠ 36 ∧ 32 ≤ c ∧ c < 127 := by
  unfold Six Four at h
  rcases h with (rfl | rfl | rfl | rfl) | rfl | rfl
  · exact ⟨100, by decide +kernel⟩
  · exact ⟨111, by decide +kernel⟩
  · exact ⟨120, by decide +kernel⟩
  · exact ⟨88, by decide +kernel⟩
  · exact ⟨99, by decide +kernel⟩
  · exact ⟨115, by decide +kernel⟩
theorem word_len {le pl bl no ma : Bool} {wi sz : Int} {l : Str} (h0 : 0 ≤ wi) (h1 : wi ≤ 8) (h2 : -2 ≤ sz) (h3 : sz ≤ 3) (hl : Six l) : (wordT le pl bl no ma wi sz l).length ≤ 50 := by
  obtain ⟨c, hc, _⟩ := six_sign hl
  show (wordT le pl bl no ma wi sz l).cps.size ≤ 50
  rw [← sgn_len]
  unfold wordT
  rw [sgn_append, sgn_append, sgn_append, sgn_flag, sgn_wide _ h0 h1, sgn_size _ h2 h3, hc]
  simp only [List.length_append, List.length_singleton]
  have a : (flagL le pl bl no ma).length ≤ 5 := by revert le pl bl no ma; decide
  have b : (widL wi).length ≤ 1 := by unfold widL; split <;> simp
  have d : (preL sz).length ≤ 2 := by unfold preL; split <;> simp
  omega
noncomputable def precP (sz : Int) : Int := if 0 ≤ sz then sz else -1
theorem spec_read {ns post : List Int} {k : Nat} {f : Bool} {i : Int} {le pl bl no ma : Bool} {wi sz : Int} {l : Str} (hi0 : 0 ≤ i) (hi1 : i ≤ 5) (h0 : 0 ≤ wi) (h1 : wi ≤ 8) (h2 : -2 ≤ sz) (h3 : sz ≤ 3) (hl : Six l) (hp : Cl post)
    (h : ns.drop k = sgn (fieldT f i ++ wordT le pl bl no ma wi sz l) ++ post) :
    ROk ns k ∧ rsSD ns k = ⟨if f then i else -1, le, pl, bl, no, ma, wi, precP sz, l⟩ ∧ rsK4 ns k + 1 = k + (sgn (fieldT f i ++ wordT le pl bl no ma wi sz l)).length := by
  obtain ⟨c, hc, hcl, q1, q2, q3, q4, q5, q6⟩ := six_sign hl
  have H := wrd_of (le := le) (pl := pl) (bl := bl) (no := no) (ma := ma) h1 h3 q1 q2 q3 q4 q5 q6
  have ew : sgn (wordT le pl bl no ma wi sz l) = flagL le pl bl no ma ++ (widL wi ++ (preL sz ++ [c])) := by
    unfold wordT
    rw [sgn_append, sgn_append, sgn_append, sgn_flag, sgn_wide _ h0 h1, sgn_size _ h2 h3, hc]
    simp only [List.append_assoc]
  have ev : digVal (widL wi) = wi := by
    unfold widL digVal
    split
    · simp only [List.foldl_cons, List.foldl_nil]; omega
    · simp only [List.foldl_nil]; omega
  have ep : (if preL sz = [] then (-1 : Int) else digVal ((preL sz).drop 1)) = precP sz := by
    unfold preL precP digVal
    split
    · rw [if_neg (by simp)]
      simp only [List.drop_succ_cons, List.drop_zero, List.foldl_cons, List.foldl_nil]
      omega
    · rfl
  rw [sgn_append, sgn_field f i hi0 hi1, ew] at h ⊢
  cases f
  · simp only [Bool.false_eq_true, if_false, List.nil_append] at h ⊢
    have z := parse_plain (post := post) H hp (by rw [h]; simp only [List.append_assoc, List.cons_append, List.nil_append])
    refine ⟨z.1, ?_, z.2.2⟩
    rw [z.2.1, show setFlags sd0 (flagL le pl bl no ma) = _ from flag_set (-1) le pl bl no ma]
    simp only [ev, hcl, ep]
  · simp only [if_true] at h ⊢
    have z := parse_field (y := 49 + i) (post := post) H hp (isDig_of (by omega) (by omega)) (by omega) (by rw [h]; simp only [List.append_assoc, List.cons_append, List.nil_append])
    refine ⟨z.1, ?_, z.2.2⟩
    rw [z.2.1, flag_set]
    simp only [ev, hcl, ep]
    congr 1
    omega
theorem nCodes_sd {fi sz : Int} {le pl bl no ma : Bool} {wi : Int} {l : Str} (n : Int) : nCodes ⟨fi, le, pl, bl, no, ma, wi, precP sz, l⟩ n = nCodes ⟨-1, le, pl, bl, no, ma, wi, sz, l⟩ n := by
  unfold precP
  by_cases h : 0 ≤ sz
  · rw [if_pos h]; rfl
  · rw [if_neg h]
    have e1 : nF1 ⟨fi, le, pl, bl, no, ma, wi, -1, l⟩ n = nF1 ⟨-1, le, pl, bl, no, ma, wi, sz, l⟩ n := by
      unfold nF1
      dsimp only
      rw [show ((-1 : Int) - (figS (if n < 0 then -n else n) l).length).toNat = 0 by omega, show (sz - (figS (if n < 0 then -n else n) l).length).toNat = 0 by omega]
    have e2 : nF2 ⟨fi, le, pl, bl, no, ma, wi, -1, l⟩ n = nF2 ⟨-1, le, pl, bl, no, ma, wi, sz, l⟩ n := by
      unfold nF2
      rw [e1]
    have e3 : nHead2 ⟨fi, le, pl, bl, no, ma, wi, -1, l⟩ n = nHead2 ⟨-1, le, pl, bl, no, ma, wi, sz, l⟩ n := rfl
    have e4 : nF3 ⟨fi, le, pl, bl, no, ma, wi, -1, l⟩ n = nF3 ⟨-1, le, pl, bl, no, ma, wi, sz, l⟩ n := by
      unfold nF3
      rw [e2, e3]
      exact ite_congr (propext (and_congr Iff.rfl (and_congr Iff.rfl ⟨fun _ => by show sz < 0; omega, fun _ => (by decide : (-1 : Int) < 0)⟩))) (fun _ => rfl) (fun _ => rfl)
    unfold nCodes
    rw [e3, e4]
theorem cutS_sd (sz : Int) (l : List Int) : cutS (precP sz) l = cutS sz l := by
  unfold precP
  by_cases h : 0 ≤ sz
  · rw [if_pos h]
  · rw [if_neg h]
    unfold cutS
    rw [if_pos (by decide), if_pos (by omega)]
theorem spec_tells {st : Str} {th : Thg} {tale : List Int} (h : PGood (.spec st th tale)) : ∃ (le pl bl no ma : Bool) (wi sz : Int) (l : Str), 0 ≤ wi ∧ wi ≤ 8 ∧ -2 ≤ sz ∧ sz ≤ 3 ∧ Six l ∧ st = wordT le pl bl no ma wi sz l ∧ ∀ fi, Tells ⟨fi, le, pl, bl, no, ma, wi, precP sz, l⟩ th tale := by
  have hp : ∀ sz : Int, sz ≤ 3 → precP sz ≤ 100 := fun sz h => by unfold precP; split <;> omega
  cases h with
  | num le pl bl no ma wi sz l n h1 h2 h3 h4 hl h5 h6 => exact ⟨le, pl, bl, no, ma, wi, sz, l, h1, h2, h3, h4, .inl hl, rfl, fun fi => by rw [← nCodes_sd (fi := fi)]; exact .num h1 (Int.le_trans h2 (by decide)) (hp _ h4) hl (by omega) (by omega)⟩
  | chr le pl bl no ma wi sz n h1 h2 h3 h4 h5 h6 => exact ⟨le, pl, bl, no, ma, wi, sz, _, h1, h2, h3, h4, .inr (.inl rfl), rfl, fun fi => .chr (d := ⟨fi, le, pl, bl, no, ma, wi, precP sz, Str.ofString "c"⟩) h1 (Int.le_trans h2 (by decide)) rfl h5 (by omega)⟩
  | txt le pl bl no ma wi sz l h1 h2 h3 h4 h5 => exact ⟨le, pl, bl, no, ma, wi, sz, _, h1, h2, h3, h4, .inr (.inr rfl), rfl, fun fi => by rw [← cutS_sd]; exact .txt (d := ⟨fi, le, pl, bl, no, ma, wi, precP sz, Str.ofString "s"⟩) h1 (Int.le_trans h2 (by decide)) (hp _ h4) rfl (by omega)⟩
theorem PGood.spec_form {st : Str} {th : Thg} {tale : List Int} (h : PGood (.spec st th tale)) : st.length ≤ 50 ∧ th ≠ .any := by
  obtain ⟨le, pl, bl, no, ma, wi, sz, l, h1, h2, h3, h4, h5, e, _⟩ := spec_tells h
  exact ⟨e ▸ word_len h1 h2 h3 h4 h5, by cases h <;> exact fun e => nomatch e⟩
end
section
theorem str_app_size (a b : Str) : (a ++ b).cps.size = a.length + b.length := Array.size_append
noncomputable def fBody : List Stmt → List Stmt
  | .For _ _ b _ _ :: _ => b
  | _ => []
noncomputable def fTgt (e : Expr) : List Stmt → Expr
  | .For t _ _ _ _ :: _ => t
  | _ => e
theorem field_len : ∀ f : Bool, ∀ i : Int, 0 ≤ i → i ≤ 5 → (fieldT f i).length ≤ 2 := by
  intro f i h0 h1
  have h : i = 0 ∨ i = 1 ∨ i = 2 ∨ i = 3 ∨ i = 4 ∨ i = 5 := by omega
  cases f <;> rcases h with rfl | rfl | rfl | rfl | rfl | rfl <;> decide +kernel
theorem law_turn {w : World} {s : Shared} {g : Heap} {L fa od ca da dk ra a I : Addr} {cd v : Value} {tt : Tok} {loose : List Str} {mean : ExcName → Option Value} {mg mb : Str → Option Value} {p : Program} {PQ : Flow → Shared → Prop} {PE : Value → Shared → Prop} {m₁ : Str → Option Value}
  {rv : Bool} {n k ko kc kd kk k0 k1 : Nat} {oI o1 : Obj} {st : Str} {vo cvs dvs us vs : List Value} {cs due tale ds : List Int} {R : List (Addr × Obj)} {t : Tok} {e₀ : Expr}
  (B : Below callerA g [] g) (X : (heapK w.params).In g) (T : Top p loose mean mg mb g)
  (F : Fr g L s.heap (over m₁ [(Str.ofString "codes", .ref ca), (Str.ofString "due", .ref da), (Str.ofString "seen", .int (k : Int) t), (Str.ofString "order", .ref od)]))
  (N : News g L s.heap ((dk, listOf (List.toArray vs) kk) :: (ra, listOf #[.str st tt, v, .ref a] k0) :: (a, listOf (List.toArray us) k1) :: (od, listOf (List.toArray vo) ko) :: (L + 1, o1) :: (I, oI) :: (ca, listOf (List.toArray cvs) kc) :: (da, listOf (List.toArray dvs) kd) :: R))
  (hv : (∃ z t, v = .int z t) ∨ (∃ y, v = .ref y)) (hst : st.length ≤ 500)
  (hD : Dk vs ds) (hR : ∀ q ∈ R, q.1 ≠ dk) (nr : @Ne Nat ra dk) (na : @Ne Nat a dk) (no : @Ne Nat od dk) (nI : @Ne Nat I dk) (nc : @Ne Nat ca dk) (nd : @Ne Nat da dk) (n1 : @Ne Nat (L + 1) dk) (ho1 : o1.data = .cell (some (.ref dk)))
  (hvo : IntsAre vo (ordOf rv n)) (hkn : k < n) (hn : n ≤ 5) (hcs : IntsAre cvs cs) (hcl : cs.length ≤ 1000) (hdv : IntsAre dvs due) (hdl : due.length ≤ 4000) (hta : IntsAre us tale) (htl : tale.length ≤ 400)
  (hPE : PassesOwn (model PySem.Challenge.rw_np0086_01.row.prog w) (callerA.deeper (envOfC (Str.ofString "law") s600 L fa cd)) (envOfC (Str.ofString "law") s600 L fa cd) PE)
  (hPQ : ∀ ca' da' cvs' dvs' (f : Bool) vs' ds' kk' t' h' tk' m', Fr g L h' (over m' [(Str.ofString "codes", .ref ca'), (Str.ofString "due", .ref da'), (Str.ofString "seen", .int ((k : Int) + 1) t'), (Str.ofString "order", .ref od)]) →
     News g L h' ((dk, listOf (List.toArray vs') kk') :: (od, listOf (List.toArray vo) ko) :: (L + 1, o1) :: (I, oI) :: (ca', listOf (List.toArray cvs') 0) :: (da', listOf (List.toArray dvs') 0) :: R) →
     IntsAre cvs' (cs ++ [37] ++ sgn (fieldT f (posOf rv n k) ++ st)) → (f = false → (ordOf rv n).take 1 = [0]) → IntsAre dvs' (due ++ tale) → Dk vs' ds' → (@Ne Nat ca' dk) → (@Ne Nat da' dk) → (@Ne Nat I ca') → (@Ne Nat I da') →
     PQ .next { s with heap := h', toks := tk' }) :
  wpAny (model PySem.Challenge.rw_np0086_01.row.prog w) (callerA.deeper (envOfC (Str.ofString "law") s600 L fa cd)) (assign (fTgt e₀ (b600.drop 6)) (envOfC (Str.ofString "law") s600 L fa cd) (.ref ra))
    (fun _ s₃ => wpAny (model PySem.Challenge.rw_np0086_01.row.prog w) (callerA.deeper (envOfC (Str.ofString "law") s600 L fa cd)) (execs (fBody (b600.drop 6)) (envOfC (Str.ofString "law") s600 L fa cd)) PQ PE s₃) PE s := by
  set_option simprocs false in dsimp only [b600, qb600, List.drop, fBody, fTgt]
  obtain ⟨h₁, gens, drawn, tk, os⟩ := s
  (revert X; k_fill; intro X)
  dsimp only at N
  have hil := hta.length
  have hcvl := hcs.length
  have hdvl := hdv.length
  have hvol := hvo.length
  have hol := ordOf_len rv n
  obtain ⟨hpo1, hpo2⟩ := pos_bd (rv := rv) hkn hn
  have hU : ∀ q ∈ ((ra, listOf #[.str st tt, v, .ref a] k0) :: (a, listOf (List.toArray us) k1) :: (od, listOf (List.toArray vo) ko) :: (L + 1, o1) :: (I, oI) :: (ca, listOf (List.toArray cvs) kc) :: (da, listOf (List.toArray dvs) kd) :: R), q.1 ≠ dk := neC nr (neC na (neC no (neC n1 (neC nI (neC nc (neC nd hR))))))
  repeat' (first | ((with_reducible show wpAny _ _ (call (Value.ref 564) _) _ _ _); k_dflt (refine lcodes_c (by k_asm) (by k_asm) (by k_asm) (by k_asm) (by k_asm) (by rfl) (by rw [str_app_size]; omega) (by ktr_room) (by ktr_units) ?_); intro r' ws' n' h' tk' F' N' o1' hI'; (have hL' := hI'.length); (rw [sgn_len, str_app_size] at hL'); (have n1' := offN o1'); (try simp only [OffN, and_true] at n1'); (try dsimp only)) | ((with_reducible show wpAny _ _ (subscriptTail _ (PySem.Expr.Slice none (some _) none _) (Value.ref _) (Value.ref _)) _ _ _); k_dflt (refine' kmk_slice_ints (s := ⟨_, _, _, _, _⟩) ?F ?N ?l IsPart.none (IsPart.int _ _) ?i (kmk_upto ?i2 ?h) rfl ?_ ?s ?t ?z; (case F => k_asm); (case N => k_asm); (case l => kmk_list); (case i => l_ints); (case i2 => assumption); (case h => omega); (case s => with_unfolding_all rfl); (case t => kmk_pure); (case z => kmk_size)); intro D' ws' h' F' N' l1 hI' hC' hL'; clear hC'; (try k_lt l1)) | ((with_reducible show wpAny _ _ (subscriptTail _ (PySem.Expr.Slice none (some _) none _) (Value.ref _) (Value.ref _)) _ _ _); k_dflt (refine' kmk_slice_ints (s := ⟨_, _, _, _, _⟩) ?F ?N ?l IsPart.none (IsPart.int _ _) ?i (kmk_upto ?i2 ?h) rfl ?_ ?s ?t ?z; (case F => k_asm); (case N => k_asm); (case l => kmk_list); (case i => l_ints); (case i2 => assumption); (case h => omega); (case s => with_unfolding_all rfl); (case t => kmk_pure); (case z => kmk_size)); intro D' ws' h' F' N' l1 hI' hC' hL'; clear hC'; (try k_lt l1)) | walk_at "K")
  rename Fr g L _ _ => F1
  rename News g L _ _ => N1
  refine wpAny_execs_cons ?_
  walk1
  refine testA (fun Z => ∀ h' tk' m', Fr g L h' (over m' [(Str.ofString "words", .str st tt), (Str.ofString "tale", .ref a), (Str.ofString "codes", .ref ca), (Str.ofString "due", .ref da), (Str.ofString "seen", .int (k : Int) t), (Str.ofString "order", .ref od)]) → News g L h' ((dk, listOf (List.toArray vs) kk) :: (ra, listOf #[.str st tt, v, .ref a] k0) :: (a, listOf (List.toArray us) k1) :: (od, listOf (List.toArray vo) ko) :: (L + 1, o1) :: (I, oI) :: (ca, listOf (List.toArray cvs) kc) :: (da, listOf (List.toArray dvs) kd) :: R) → Z false h' tk') ?_ ?_
  · intro Z hZ
    rcases hv with ⟨z, tz, rfl⟩ | ⟨y, rfl⟩
    all_goals
      repeat' (first | ((with_reducible show wpAny _ _ (call (Value.ref 564) _) _ _ _); k_dflt (refine lcodes_c (by k_asm) (by k_asm) (by k_asm) (by k_asm) (by k_asm) (by rfl) (by rw [str_app_size]; omega) (by ktr_room) (by ktr_units) ?_); intro r' ws' n' h' tk' F' N' o1' hI'; (have hL' := hI'.length); (rw [sgn_len, str_app_size] at hL'); (have n1' := offN o1'); (try simp only [OffN, and_true] at n1'); (try dsimp only)) | ((with_reducible show wpAny _ _ (subscriptTail _ (PySem.Expr.Slice none (some _) none _) (Value.ref _) (Value.ref _)) _ _ _); k_dflt (refine' kmk_slice_ints (s := ⟨_, _, _, _, _⟩) ?F ?N ?l IsPart.none (IsPart.int _ _) ?i (kmk_upto ?i2 ?h) rfl ?_ ?s ?t ?z; (case F => k_asm); (case N => k_asm); (case l => kmk_list); (case i => l_ints); (case i2 => assumption); (case h => omega); (case s => with_unfolding_all rfl); (case t => kmk_pure); (case z => kmk_size)); intro D' ws' h' F' N' l1 hI' hC' hL'; clear hC'; (try k_lt l1)) | ((with_reducible show wpAny _ _ (subscriptTail _ (PySem.Expr.Slice none (some _) none _) (Value.ref _) (Value.ref _)) _ _ _); k_dflt (refine' kmk_slice_ints (s := ⟨_, _, _, _, _⟩) ?F ?N ?l IsPart.none (IsPart.int _ _) ?i (kmk_upto ?i2 ?h) rfl ?_ ?s ?t ?z; (case F => k_asm); (case N => k_asm); (case l => kmk_list); (case i => l_ints); (case i2 => assumption); (case h => omega); (case s => with_unfolding_all rfl); (case t => kmk_pure); (case z => kmk_size)); intro D' ws' h' F' N' l1 hI' hC' hL'; clear hC'; (try k_lt l1)) | walk_at "K")
      exact hZ _ _ _ (frB (by assumption) (by rfl)) (ledA (by assumption) (by lcg_sub))
  clear F1 N1 hv
  intro h2 tk2 m2 F2 NL2
  simp only [Bool.false_eq_true, if_false]
  refine cutA (fun Z => ∀ (f : Bool) (tf : Tok) (vs : List Value) (ds : List Int) (kk : Nat) h' tk' m', Fr g L h' (over m' [(Str.ofString "field", .str (fieldT f (posOf rv n k)) tf), (Str.ofString "words", .str st tt), (Str.ofString "tale", .ref a), (Str.ofString "codes", .ref ca), (Str.ofString "due", .ref da), (Str.ofString "seen", .int (k : Int) t), (Str.ofString "order", .ref od)]) → News g L h' ((dk, listOf (List.toArray vs) kk) :: (ra, listOf #[.str st tt, v, .ref a] k0) :: (a, listOf (List.toArray us) k1) :: (od, listOf (List.toArray vo) ko) :: (L + 1, o1) :: (I, oI) :: (ca, listOf (List.toArray cvs) kc) :: (da, listOf (List.toArray dvs) kd) :: R) → Dk vs ds → (f = false → (ordOf rv n).take 1 = [0]) → Z h' tk') ?_ ?_
  · intro Z hZ
    walk1
    walk1
    refine testA (fun Z => ∀ (f : Bool) (vs : List Value) (ds : List Int) (kk : Nat) h' tk' m', Fr g L h' (over m' [(Str.ofString "words", .str st tt), (Str.ofString "tale", .ref a), (Str.ofString "codes", .ref ca), (Str.ofString "due", .ref da), (Str.ofString "seen", .int (k : Int) t), (Str.ofString "order", .ref od)]) → News g L h' ((dk, listOf (List.toArray vs) kk) :: (ra, listOf #[.str st tt, v, .ref a] k0) :: (a, listOf (List.toArray us) k1) :: (od, listOf (List.toArray vo) ko) :: (L + 1, o1) :: (I, oI) :: (ca, listOf (List.toArray cvs) kc) :: (da, listOf (List.toArray dvs) kd) :: R) → Dk vs ds → (f = false → (ordOf rv n).take 1 = [0]) → Z f h' tk') ?_ ?_
    · intro Z2 hZ2
      repeat' ((fail_if_success (with_reducible show wpAny _ _ (call (Value.ref 559) _) _ _ _)); (first | ((with_reducible show wpAny _ _ (call (Value.ref 564) _) _ _ _); k_dflt (refine lcodes_c (by k_asm) (by k_asm) (by k_asm) (by k_asm) (by k_asm) (by rfl) (by rw [str_app_size]; omega) (by ktr_room) (by ktr_units) ?_); intro r' ws' n' h' tk' F' N' o1' hI'; (have hL' := hI'.length); (rw [sgn_len, str_app_size] at hL'); (have n1' := offN o1'); (try simp only [OffN, and_true] at n1'); (try dsimp only)) | ((with_reducible show wpAny _ _ (subscriptTail _ (PySem.Expr.Slice none (some _) none _) (Value.ref _) (Value.ref _)) _ _ _); k_dflt (refine' kmk_slice_ints (s := ⟨_, _, _, _, _⟩) ?F ?N ?l IsPart.none (IsPart.int _ _) ?i (kmk_upto ?i2 ?h) rfl ?_ ?s ?t ?z; (case F => k_asm); (case N => k_asm); (case l => kmk_list); (case i => l_ints); (case i2 => assumption); (case h => omega); (case s => with_unfolding_all rfl); (case t => kmk_pure); (case z => kmk_size)); intro D' ws' h' F' N' l1 hI' hC' hL'; clear hC'; (try k_lt l1)) | ((with_reducible show wpAny _ _ (subscriptTail _ (PySem.Expr.Slice none (some _) none _) (Value.ref _) (Value.ref _)) _ _ _); k_dflt (refine' kmk_slice_ints (s := ⟨_, _, _, _, _⟩) ?F ?N ?l IsPart.none (IsPart.int _ _) ?i (kmk_upto ?i2 ?h) rfl ?_ ?s ?t ?z; (case F => k_asm); (case N => k_asm); (case l => kmk_list); (case i => l_ints); (case i2 => assumption); (case h => omega); (case s => with_unfolding_all rfl); (case t => kmk_pure); (case z => kmk_size)); intro D' ws' h' F' N' l1 hI' hC' hL'; clear hC'; (try k_lt l1)) | walk_at "K"))
      · rename _ = [0] => h10
        rename News g L _ _ => Nz
        have Ny := fun q hq => Nz q (.tail _ (.tail _ hq))
        rename Fr g L _ _ => Fz
        k_dflt (refine draw_u (by k_asm) Fz (by k_asm) Ny (by k_asm) (by rfl) (.head hU) hD (by decide) (by decide) (by ktr_room) (by ktr_units) ?_)
        clear Nz Ny Fz
        intro vs' ds' k' r' t' h' tk' hD' hr0' hr1' F' N'
        (try dsimp only at N')
        (try dsimp only)
        repeat' (first | ((with_reducible show wpAny _ _ (call (Value.ref 564) _) _ _ _); k_dflt (refine lcodes_c (by k_asm) (by k_asm) (by k_asm) (by k_asm) (by k_asm) (by rfl) (by rw [str_app_size]; omega) (by ktr_room) (by ktr_units) ?_); intro r' ws' n' h' tk' F' N' o1' hI'; (have hL' := hI'.length); (rw [sgn_len, str_app_size] at hL'); (have n1' := offN o1'); (try simp only [OffN, and_true] at n1'); (try dsimp only)) | ((with_reducible show wpAny _ _ (subscriptTail _ (PySem.Expr.Slice none (some _) none _) (Value.ref _) (Value.ref _)) _ _ _); k_dflt (refine' kmk_slice_ints (s := ⟨_, _, _, _, _⟩) ?F ?N ?l IsPart.none (IsPart.int _ _) ?i (kmk_upto ?i2 ?h) rfl ?_ ?s ?t ?z; (case F => k_asm); (case N => k_asm); (case l => kmk_list); (case i => l_ints); (case i2 => assumption); (case h => omega); (case s => with_unfolding_all rfl); (case t => kmk_pure); (case z => kmk_size)); intro D' ws' h' F' N' l1 hI' hC' hL'; clear hC'; (try k_lt l1)) | ((with_reducible show wpAny _ _ (subscriptTail _ (PySem.Expr.Slice none (some _) none _) (Value.ref _) (Value.ref _)) _ _ _); k_dflt (refine' kmk_slice_ints (s := ⟨_, _, _, _, _⟩) ?F ?N ?l IsPart.none (IsPart.int _ _) ?i (kmk_upto ?i2 ?h) rfl ?_ ?s ?t ?z; (case F => k_asm); (case N => k_asm); (case l => kmk_list); (case i => l_ints); (case i2 => assumption); (case h => omega); (case s => with_unfolding_all rfl); (case t => kmk_pure); (case z => kmk_size)); intro D' ws' h' F' N' l1 hI' hC' hL'; clear hC'; (try k_lt l1)) | walk_at "K")
        all_goals exact hZ2 _ _ _ _ _ _ _ (frB (by assumption) (by rfl)) (ledA (by assumption) (by lcg_sub)) hD' (fun _ => h10)
      · rename News g L _ _ => Nz
        rename Fr g L _ _ => Fz
        exact hZ2 _ _ _ _ _ _ _ (frB Fz (by rfl)) (fun q hq => Nz q (.tail _ (.tail _ hq))) hD (fun h => nomatch h)
    · clear F2 NL2 hD
      intro f vs ds kk h3 tk3 m3 F3 NL3 hD hf
      cases f
      · simp only [Bool.false_eq_true, if_false]
        repeat' (first | ((with_reducible show wpAny _ _ (call (Value.ref 564) _) _ _ _); k_dflt (refine lcodes_c (by k_asm) (by k_asm) (by k_asm) (by k_asm) (by k_asm) (by rfl) (by rw [str_app_size]; omega) (by ktr_room) (by ktr_units) ?_); intro r' ws' n' h' tk' F' N' o1' hI'; (have hL' := hI'.length); (rw [sgn_len, str_app_size] at hL'); (have n1' := offN o1'); (try simp only [OffN, and_true] at n1'); (try dsimp only)) | ((with_reducible show wpAny _ _ (subscriptTail _ (PySem.Expr.Slice none (some _) none _) (Value.ref _) (Value.ref _)) _ _ _); k_dflt (refine' kmk_slice_ints (s := ⟨_, _, _, _, _⟩) ?F ?N ?l IsPart.none (IsPart.int _ _) ?i (kmk_upto ?i2 ?h) rfl ?_ ?s ?t ?z; (case F => k_asm); (case N => k_asm); (case l => kmk_list); (case i => l_ints); (case i2 => assumption); (case h => omega); (case s => with_unfolding_all rfl); (case t => kmk_pure); (case z => kmk_size)); intro D' ws' h' F' N' l1 hI' hC' hL'; clear hC'; (try k_lt l1)) | ((with_reducible show wpAny _ _ (subscriptTail _ (PySem.Expr.Slice none (some _) none _) (Value.ref _) (Value.ref _)) _ _ _); k_dflt (refine' kmk_slice_ints (s := ⟨_, _, _, _, _⟩) ?F ?N ?l IsPart.none (IsPart.int _ _) ?i (kmk_upto ?i2 ?h) rfl ?_ ?s ?t ?z; (case F => k_asm); (case N => k_asm); (case l => kmk_list); (case i => l_ints); (case i2 => assumption); (case h => omega); (case s => with_unfolding_all rfl); (case t => kmk_pure); (case z => kmk_size)); intro D' ws' h' F' N' l1 hI' hC' hL'; clear hC'; (try k_lt l1)) | walk_at "K")
        exact hZ false _ _ _ _ _ _ _ (frB (by assumption) (by rfl)) (ledA (by assumption) (fun _ h => h)) hD hf
      · simp only [if_true]
        repeat' (first | ((with_reducible show wpAny _ _ (call (Value.ref 564) _) _ _ _); k_dflt (refine lcodes_c (by k_asm) (by k_asm) (by k_asm) (by k_asm) (by k_asm) (by rfl) (by rw [str_app_size]; omega) (by ktr_room) (by ktr_units) ?_); intro r' ws' n' h' tk' F' N' o1' hI'; (have hL' := hI'.length); (rw [sgn_len, str_app_size] at hL'); (have n1' := offN o1'); (try simp only [OffN, and_true] at n1'); (try dsimp only)) | ((with_reducible show wpAny _ _ (subscriptTail _ (PySem.Expr.Slice none (some _) none _) (Value.ref _) (Value.ref _)) _ _ _); k_dflt (refine' kmk_slice_ints (s := ⟨_, _, _, _, _⟩) ?F ?N ?l IsPart.none (IsPart.int _ _) ?i (kmk_upto ?i2 ?h) rfl ?_ ?s ?t ?z; (case F => k_asm); (case N => k_asm); (case l => kmk_list); (case i => l_ints); (case i2 => assumption); (case h => omega); (case s => with_unfolding_all rfl); (case t => kmk_pure); (case z => kmk_size)); intro D' ws' h' F' N' l1 hI' hC' hL'; clear hC'; (try k_lt l1)) | ((with_reducible show wpAny _ _ (subscriptTail _ (PySem.Expr.Slice none (some _) none _) (Value.ref _) (Value.ref _)) _ _ _); k_dflt (refine' kmk_slice_ints (s := ⟨_, _, _, _, _⟩) ?F ?N ?l IsPart.none (IsPart.int _ _) ?i (kmk_upto ?i2 ?h) rfl ?_ ?s ?t ?z; (case F => k_asm); (case N => k_asm); (case l => kmk_list); (case i => l_ints); (case i2 => assumption); (case h => omega); (case s => with_unfolding_all rfl); (case t => kmk_pure); (case z => kmk_size)); intro D' ws' h' F' N' l1 hI' hC' hL'; clear hC'; (try k_lt l1)) | walk_at "K")
        k_dflt (refine index_list_ints (News.isList (by assumption) (by k_mem)) hvo (ord_lay _ _ (by omega)) (ord_idx rv _ (by omega) _ hkn).1 ?_)
        rw [(ord_idx rv _ (by omega) _ hkn).2]
        (try dsimp only)
        repeat' (first | ((with_reducible show wpAny _ _ (call (Value.ref 564) _) _ _ _); k_dflt (refine lcodes_c (by k_asm) (by k_asm) (by k_asm) (by k_asm) (by k_asm) (by rfl) (by rw [str_app_size]; omega) (by ktr_room) (by ktr_units) ?_); intro r' ws' n' h' tk' F' N' o1' hI'; (have hL' := hI'.length); (rw [sgn_len, str_app_size] at hL'); (have n1' := offN o1'); (try simp only [OffN, and_true] at n1'); (try dsimp only)) | ((with_reducible show wpAny _ _ (subscriptTail _ (PySem.Expr.Slice none (some _) none _) (Value.ref _) (Value.ref _)) _ _ _); k_dflt (refine' kmk_slice_ints (s := ⟨_, _, _, _, _⟩) ?F ?N ?l IsPart.none (IsPart.int _ _) ?i (kmk_upto ?i2 ?h) rfl ?_ ?s ?t ?z; (case F => k_asm); (case N => k_asm); (case l => kmk_list); (case i => l_ints); (case i2 => assumption); (case h => omega); (case s => with_unfolding_all rfl); (case t => kmk_pure); (case z => kmk_size)); intro D' ws' h' F' N' l1 hI' hC' hL'; clear hC'; (try k_lt l1)) | ((with_reducible show wpAny _ _ (subscriptTail _ (PySem.Expr.Slice none (some _) none _) (Value.ref _) (Value.ref _)) _ _ _); k_dflt (refine' kmk_slice_ints (s := ⟨_, _, _, _, _⟩) ?F ?N ?l IsPart.none (IsPart.int _ _) ?i (kmk_upto ?i2 ?h) rfl ?_ ?s ?t ?z; (case F => k_asm); (case N => k_asm); (case l => kmk_list); (case i => l_ints); (case i2 => assumption); (case h => omega); (case s => with_unfolding_all rfl); (case t => kmk_pure); (case z => kmk_size)); intro D' ws' h' F' N' l1 hI' hC' hL'; clear hC'; (try k_lt l1)) | walk_at "K")
        exact hZ true _ _ _ _ _ _ _ (frB (by assumption) (by rfl)) (ledA (by assumption) (fun _ h => h)) hD hf
  clear F2 NL2 hD
  intro f tf vs ds kk h3 tk3 m3 F3 NL3 hD hf
  have hfl := field_len f (posOf rv n k) hpo1 hpo2
  replace hPQ := fun vs' ds' kk' t' h' tk' m' ca' da' cvs' dvs' x1 x2 x3 => hPQ ca' da' cvs' dvs' f vs' ds' kk' t' h' tk' m' x1 x2 x3 hf
  clear hf
  generalize fieldT f (posOf rv n k) = fs at *
  ((refine wpAny_execs_cons ?_); repeat' (first | ((with_reducible show wpAny _ _ (call (Value.ref 564) _) _ _ _); k_dflt (refine lcodes_c (by k_asm) (by k_asm) (by k_asm) (by k_asm) (by k_asm) (by rfl) (by rw [str_app_size]; omega) (by ktr_room) (by ktr_units) ?_); intro r' ws' n' h' tk' F' N' o1' hI'; (have hL' := hI'.length); (rw [sgn_len, str_app_size] at hL'); (have n1' := offN o1'); (try simp only [OffN, and_true] at n1'); (try dsimp only)) | ((with_reducible show wpAny _ _ (subscriptTail _ (PySem.Expr.Slice none (some _) none _) (Value.ref _) (Value.ref _)) _ _ _); k_dflt (refine' kmk_slice_ints (s := ⟨_, _, _, _, _⟩) ?F ?N ?l IsPart.none (IsPart.int _ _) ?i (kmk_upto ?i2 ?h) rfl ?_ ?s ?t ?z; (case F => k_asm); (case N => k_asm); (case l => kmk_list); (case i => l_ints); (case i2 => assumption); (case h => omega); (case s => with_unfolding_all rfl); (case t => kmk_pure); (case z => kmk_size)); intro D' ws' h' F' N' l1 hI' hC' hL'; clear hC'; (try k_lt l1)) | ((with_reducible show wpAny _ _ (subscriptTail _ (PySem.Expr.Slice none (some _) none _) (Value.ref _) (Value.ref _)) _ _ _); k_dflt (refine' kmk_slice_ints (s := ⟨_, _, _, _, _⟩) ?F ?N ?l IsPart.none (IsPart.int _ _) ?i (kmk_upto ?i2 ?h) rfl ?_ ?s ?t ?z; (case F => k_asm); (case N => k_asm); (case l => kmk_list); (case i => l_ints); (case i2 => assumption); (case h => omega); (case s => with_unfolding_all rfl); (case t => kmk_pure); (case z => kmk_size)); intro D' ws' h' F' N' l1 hI' hC' hL'; clear hC'; (try k_lt l1)) | walk_at "K"))
  rename IntsAre _ (cs ++ [37]) => hz1
  have hz1l := hz1.length
  rw [List.length_append, List.length_singleton] at hz1l
  rename News g L _ _ => Ny
  have hzd := Heap.lt_size (Ny (dk, _) (by k_mem)).1
  have hzI := Heap.lt_size (Ny (I, _) (by k_mem)).1
  dsimp only at hzd hzI
  change @LT.lt Nat _ _ _ at hzd hzI
  repeat' (first | ((with_reducible show wpAny _ _ (call (Value.ref 564) _) _ _ _); k_dflt (refine lcodes_c (by k_asm) (by k_asm) (by k_asm) (by k_asm) (by k_asm) (by rfl) (by rw [str_app_size]; omega) (by ktr_room) (by ktr_units) ?_); intro r' ws' n' h' tk' F' N' o1' hI'; (have hL' := hI'.length); (rw [sgn_len, str_app_size] at hL'); (have n1' := offN o1'); (try simp only [OffN, and_true] at n1'); (try dsimp only)) | ((with_reducible show wpAny _ _ (subscriptTail _ (PySem.Expr.Slice none (some _) none _) (Value.ref _) (Value.ref _)) _ _ _); k_dflt (refine' kmk_slice_ints (s := ⟨_, _, _, _, _⟩) ?F ?N ?l IsPart.none (IsPart.int _ _) ?i (kmk_upto ?i2 ?h) rfl ?_ ?s ?t ?z; (case F => k_asm); (case N => k_asm); (case l => kmk_list); (case i => l_ints); (case i2 => assumption); (case h => omega); (case s => with_unfolding_all rfl); (case t => kmk_pure); (case z => kmk_size)); intro D' ws' h' F' N' l1 hI' hC' hL'; clear hC'; (try k_lt l1)) | ((with_reducible show wpAny _ _ (subscriptTail _ (PySem.Expr.Slice none (some _) none _) (Value.ref _) (Value.ref _)) _ _ _); k_dflt (refine' kmk_slice_ints (s := ⟨_, _, _, _, _⟩) ?F ?N ?l IsPart.none (IsPart.int _ _) ?i (kmk_upto ?i2 ?h) rfl ?_ ?s ?t ?z; (case F => k_asm); (case N => k_asm); (case l => kmk_list); (case i => l_ints); (case i2 => assumption); (case h => omega); (case s => with_unfolding_all rfl); (case t => kmk_pure); (case z => kmk_size)); intro D' ws' h' F' N' l1 hI' hC' hL'; clear hC'; (try k_lt l1)) | walk_at "K")
  (try clear F3 NL3)
  (try clear Ny)
  ((refine wpAny_execs_cons ?_); repeat' (first | ((with_reducible show wpAny _ _ (call (Value.ref 564) _) _ _ _); k_dflt (refine lcodes_c (by k_asm) (by k_asm) (by k_asm) (by k_asm) (by k_asm) (by rfl) (by rw [str_app_size]; omega) (by ktr_room) (by ktr_units) ?_); intro r' ws' n' h' tk' F' N' o1' hI'; (have hL' := hI'.length); (rw [sgn_len, str_app_size] at hL'); (have n1' := offN o1'); (try simp only [OffN, and_true] at n1'); (try dsimp only)) | ((with_reducible show wpAny _ _ (subscriptTail _ (PySem.Expr.Slice none (some _) none _) (Value.ref _) (Value.ref _)) _ _ _); k_dflt (refine' kmk_slice_ints (s := ⟨_, _, _, _, _⟩) ?F ?N ?l IsPart.none (IsPart.int _ _) ?i (kmk_upto ?i2 ?h) rfl ?_ ?s ?t ?z; (case F => k_asm); (case N => k_asm); (case l => kmk_list); (case i => l_ints); (case i2 => assumption); (case h => omega); (case s => with_unfolding_all rfl); (case t => kmk_pure); (case z => kmk_size)); intro D' ws' h' F' N' l1 hI' hC' hL'; clear hC'; (try k_lt l1)) | ((with_reducible show wpAny _ _ (subscriptTail _ (PySem.Expr.Slice none (some _) none _) (Value.ref _) (Value.ref _)) _ _ _); k_dflt (refine' kmk_slice_ints (s := ⟨_, _, _, _, _⟩) ?F ?N ?l IsPart.none (IsPart.int _ _) ?i (kmk_upto ?i2 ?h) rfl ?_ ?s ?t ?z; (case F => k_asm); (case N => k_asm); (case l => kmk_list); (case i => l_ints); (case i2 => assumption); (case h => omega); (case s => with_unfolding_all rfl); (case t => kmk_pure); (case z => kmk_size)); intro D' ws' h' F' N' l1 hI' hC' hL'; clear hC'; (try k_lt l1)) | walk_at "K"))
  rename_i D1 w1 hx3 l1 hx2 tkx D2 w2 hx1 hz2 l2 h2 F2 N2
  exact hPQ vs ds kk _ h2 _ _ _ D2 _ w2 (frB F2 (by rfl)) (ledA N2 (by lcg_sub)) (IntsAre.append hz1 (by assumption)) hz2 hD (by show @Ne Nat _ _; omega) (by omega) (by show @Ne Nat _ _; omega) (by omega)
end
section
noncomputable def endT (n : Int) : Str := ({ cps := #[Int.toNat 37] } : Str) ++ Str.ofString (toString n) ++ Str.ofString "$d"
theorem end_size : ∀ i : Int, 1 ≤ i → i ≤ 6 → (endT i).cps.size ≤ 10 := by
  intro i h0 h1
  have h : i = 1 ∨ i = 2 ∨ i = 3 ∨ i = 4 ∨ i = 5 ∨ i = 6 := by omega
  rcases h with rfl | rfl | rfl | rfl | rfl | rfl <;> decide +kernel
noncomputable def permT (rv : Bool) (ths : List Thg) : List Thg := if rv then ths.reverse else ths
theorem ThsAre.at {w : World} {R l : List (Addr × Obj)} {ys : List Value} {ths : List Thg} {g h : Heap} {L : Addr} (hT : ThsAre w R ys ths) (N : News g L h l) (hs : ∀ q ∈ R, q ∈ l) :
    ∀ (i : Nat) (T : Thg), ths[i]? = some T → ∃ v, ys[i]? = some v ∧ ThIs w h v T := fun i T e => by
  obtain ⟨v, hv, hT⟩ := hT.2 i T e
  refine ⟨v, hv, ?_⟩
  cases T with
  | num n => exact hT
  | any => trivial
  | txt l =>
    obtain ⟨y, dy, lt, ky, n, kq, vt, e, i1, i2, i3, q⟩ := hT
    exact ⟨y, dy, lt, ky, n, kq, vt, e, ⟨(N _ (hs _ i1)).1, (N _ (hs _ i2)).1⟩, (N _ (hs _ i3)).1, q⟩
theorem one_thing {w : World} {h : Heap} {y dy lt : Addr} {ky : Nat → Tok} {n kq : Nat} {vt : List Value} {l : List Int} (I : InstH h y 200 dy (textEs w ky lt) n) (g : h.get? lt = some (listOf (List.toArray vt) kq)) (q : IntsAre vt l) :
    ∀ (i : Nat) (T : Thg), [Thg.txt l][i]? = some T → ∃ v, [Value.ref y][i]? = some v ∧ ThIs w h v T := fun i T e => by
  match i, e with
  | 0, e =>
    obtain rfl : Thg.txt l = T := Option.some.inj e
    exact ⟨_, rfl, y, dy, lt, ky, n, kq, vt, rfl, I, g, q⟩
theorem ord_get : ∀ rv : Bool, ∀ n, n < 6 → ∀ i, i < n → (ordOf rv n)[i]? = some (((if rv then n - 1 - i else i : Nat) : Int)) := by
  intro rv n h
  have h' : n = 0 ∨ n = 1 ∨ n = 2 ∨ n = 3 ∨ n = 4 ∨ n = 5 := by omega
  cases rv <;> rcases h' with rfl | rfl | rfl | rfl | rfl | rfl <;> decide +kernel
theorem perm_at {rv : Bool} {ths : List Thg} {i : Nat} (h : ths.length ≤ 5) (hi : i < ths.length) : ∃ (k : Nat) (T : Thg), (ordOf rv ths.length)[i]? = some (k : Int) ∧ k < ths.length ∧ ths[k]? = some T ∧ (permT rv ths)[i]? = some T := by
  refine ⟨_, _, ord_get rv _ (by omega) i hi, ?_, List.getElem?_eq_getElem ?_, ?_⟩
  · split <;> omega
  · split <;> omega
  · unfold permT
    cases rv
    · exact List.getElem?_eq_getElem hi
    · simp only [if_true]
      rw [List.getElem?_reverse hi]
      exact List.getElem?_eq_getElem _
theorem law_end {w : World} {s : Shared} {g : Heap} {L fa od ca da th : Addr} {cd : Value} {loose : List Str} {mean : ExcName → Option Value} {mg mb : Str → Option Value} {p : Program} {PQ : Flow → Shared → Prop} {PE : Value → Shared → Prop} {m₁ : Str → Option Value}
  {rv : Bool} {ko kc kd kt f1 f2 f3 f4 f5 f6 : Nat} {o2 : Obj} {vo cvs dvs zs : List Value} {cs due o3 o4 o5 o6 : List Int} {R : List (Addr × Obj)} {ths : List Thg}
  (B : Below callerA g [] g) (X : (heapK w.params).In g) (T : Top p loose mean mg mb g)
  (F : Fr g L s.heap (over m₁ [(Str.ofString "codes", .ref ca), (Str.ofString "due", .ref da), (Str.ofString "order", .ref od)]))
  (N : News g L s.heap ((od, listOf (List.toArray vo) ko) :: (th, listOf (List.toArray zs) kt) :: (ca, listOf (List.toArray cvs) kc) :: (da, listOf (List.toArray dvs) kd) :: (L + 1 + 1, o2) :: R))
  (ho2 : o2.data = .cell (some (.ref th))) (n1 : @Ne Nat od (L + 1 + 1)) (n2 : @Ne Nat th (L + 1 + 1)) (n3 : @Ne Nat ca (L + 1 + 1)) (n4 : @Ne Nat da (L + 1 + 1)) (hR : ∀ q ∈ R, q.1 ≠ L + 1 + 1)
  (hvo : IntsAre vo (ordOf rv ths.length)) (hn : ths.length ≤ 5) (hT : ThsAre w R zs ths) (hcs : IntsAre cvs cs) (hcl : cs.length ≤ 900) (hdv : IntsAre dvs due) (hdl : due.length ≤ 4000)
  (hr1 : Run cs (permT rv ths) f1 0 0 due true) (hr2 : Run cs (permT rv ths ++ [.any]) f2 0 0 due true)
  (hr3 : Run (cs ++ sgn (endT ((ths.length : Int) + 1))) (permT rv ths) f3 0 0 o3 false) (h3 : o3.length ≤ 5000)
  (hr4 : Run (cs ++ [37]) (permT rv ths) f4 0 0 o4 false) (h4 : o4.length ≤ 5000)
  (hr5 : Run (cs ++ [37, 113]) (permT rv ths) f5 0 0 o5 false) (h5 : o5.length ≤ 5000)
  (hr6 : Run [37, 100] [.txt [49]] f6 0 0 o6 false) (h6 : o6.length ≤ 5000)
  (hPE : PassesOwn (model PySem.Challenge.rw_np0086_01.row.prog w) (callerA.deeper (envOfC (Str.ofString "law") s600 L fa cd)) (envOfC (Str.ofString "law") s600 L fa cd) PE)
  (hPQ : ∀ m' nw h' tk', Fr g L h' m' → News g L h' nw → PQ (.ret (.bool true)) { s with heap := h', toks := tk' }) :
  wpAny (model PySem.Challenge.rw_np0086_01.row.prog w) (callerA.deeper (envOfC (Str.ofString "law") s600 L fa cd)) (execs (b600.drop 7) (envOfC (Str.ofString "law") s600 L fa cd)) PQ PE s := by
  set_option simprocs false in dsimp only [b600, qb600, List.drop]
  obtain ⟨h₁, gens, drawn, tk, os⟩ := s
  have hXB : Unit → (heapK w.params).In g := fun _ => X
  (revert X; k_fill; intro X)
  dsimp only at N
  have hzl := hT.1
  have hvol := hvo.length
  have hol := ordOf_len rv ths.length
  have hcvl := hcs.length
  have hdvl := hdv.length
  have hpl : (permT rv ths).length = ths.length := by unfold permT; split <;> simp
  refine cutA (fun Z => ∀ (tn : Addr) (us : List Value) (kt : Nat) (o2 : Obj) h' tk' m', Fr g L h' (over m' [(Str.ofString "codes", .ref ca), (Str.ofString "due", .ref da)]) → News g L h' ((tn, listOf (List.toArray us) kt) :: (ca, listOf (List.toArray cvs) kc) :: (da, listOf (List.toArray dvs) kd) :: (L + 1 + 1, o2) :: R) → o2.data = .cell (some (.ref tn)) → ThsAre w R us (permT rv ths) → Z h' tk') ?_ ?_
  · intro Z hZ
    refine wpAny_Assign_Name ?_
    refine LCg.ListComp_U F (by with_unfolding_all rfl) (by decide) (by rfl) (by decide) (by rfl) ?_
    repeat' ((fail_if_success (with_reducible show LCg.CompSrc _ _ _ _ _ _ _ _ _ _ _ _ _ _)); (first | ((with_reducible show wpAny _ _ (call (Value.ref 200) _) _ _ _); k_dflt (refine text_c (by k_asm) (by k_asm) (by k_asm) (by k_asm) (by k_asm) (by rfl) (by ktr_room) (by ktr_units) ?_); intro x' dx' kt' h' tk' F' N' o1' o2'; (have n1' := offN o1'); (have n2' := offN o2'); (try simp only [OffN, and_true] at n1' n2'); (try dsimp only)) | ((with_reducible show wpAny _ _ (subscriptTail _ (PySem.Expr.Slice none (some _) none _) (Value.ref _) (Value.ref _)) _ _ _); k_dflt (refine' kmk_slice_ints (s := ⟨_, _, _, _, _⟩) ?F ?N ?l IsPart.none (IsPart.int _ _) ?i (kmk_upto ?i2 ?h) rfl ?_ ?s ?t ?z; (case F => k_asm); (case N => k_asm); (case l => kmk_list); (case i => l_ints); (case i2 => assumption); (case h => omega); (case s => with_unfolding_all rfl); (case t => kmk_pure); (case z => kmk_size)); intro D' ws' h' F' N' l1 hI' hC' hL'; clear hC'; (try k_lt l1)) | ((with_reducible show wpAny _ _ (subscriptTail _ (PySem.Expr.Slice none (some _) none _) (Value.ref _) (Value.ref _)) _ _ _); k_dflt (refine' kmk_slice_ints (s := ⟨_, _, _, _, _⟩) ?F ?N ?l IsPart.none (IsPart.int _ _) ?i (kmk_upto ?i2 ?h) rfl ?_ ?s ?t ?z; (case F => k_asm); (case N => k_asm); (case l => kmk_list); (case i => l_ints); (case i2 => assumption); (case h => omega); (case s => with_unfolding_all rfl); (case t => kmk_pure); (case z => kmk_size)); intro D' ws' h' F' N' l1 hI' hC' hL'; clear hC'; (try k_lt l1)) | walk_at "K"))
    refine LCg.CompSrc.ledger (by rfl) F N (.head _) (by show vo.length ≤ _; rw [PySem.sizeLine_eq]; omega) fun g2 => ?_
    refine compRest_inv (fun i zz nw => ThsAre w R zz ((permT rv ths).take i) ∧ nw = (od, listOf (List.toArray vo) ko) :: (th, listOf (List.toArray zs) kt) :: (ca, listOf (List.toArray cvs) kc) :: (da, listOf (List.toArray dvs) kd) :: (L + 1 + 1, o2) :: R) ths.length ?_ ?_ _ 0 [] _ (by show 0 + vo.length = _; omega) ⟨⟨rfl, fun _ _ h => by simp at h⟩, rfl⟩
    · rintro i zz nw hi ⟨hZ', rfl⟩ v I oI C oC D m₂ h tk E' hv hC hx F N off ne
      obtain ⟨kk, T, q1, q2, q3, q4⟩ := perm_at (rv := rv) hn hi
      obtain ⟨u, hu, hTT⟩ := hT.2 _ _ q3
      have hv' : vo[i]? = some v := by simpa using hv
      obtain ⟨tv, ht⟩ := hvo.get i _ q1
      obtain rfl : v = .int kk tv := Option.some.inj (hv'.symm.trans ht)
      repeat' (first | ((with_reducible show wpAny _ _ (call (Value.ref 200) _) _ _ _); k_dflt (refine text_c (by k_asm) (by k_asm) (by k_asm) (by k_asm) (by k_asm) (by rfl) (by ktr_room) (by ktr_units) ?_); intro x' dx' kt' h' tk' F' N' o1' o2'; (have n1' := offN o1'); (have n2' := offN o2'); (try simp only [OffN, and_true] at n1' n2'); (try dsimp only)) | ((with_reducible show wpAny _ _ (subscriptTail _ (PySem.Expr.Slice none (some _) none _) (Value.ref _) (Value.ref _)) _ _ _); k_dflt (refine' kmk_slice_ints (s := ⟨_, _, _, _, _⟩) ?F ?N ?l IsPart.none (IsPart.int _ _) ?i (kmk_upto ?i2 ?h) rfl ?_ ?s ?t ?z; (case F => k_asm); (case N => k_asm); (case l => kmk_list); (case i => l_ints); (case i2 => assumption); (case h => omega); (case s => with_unfolding_all rfl); (case t => kmk_pure); (case z => kmk_size)); intro D' ws' h' F' N' l1 hI' hC' hL'; clear hC'; (try k_lt l1)) | ((with_reducible show wpAny _ _ (subscriptTail _ (PySem.Expr.Slice none (some _) none _) (Value.ref _) (Value.ref _)) _ _ _); k_dflt (refine' kmk_slice_ints (s := ⟨_, _, _, _, _⟩) ?F ?N ?l IsPart.none (IsPart.int _ _) ?i (kmk_upto ?i2 ?h) rfl ?_ ?s ?t ?z; (case F => k_asm); (case N => k_asm); (case l => kmk_list); (case i => l_ints); (case i2 => assumption); (case h => omega); (case s => with_unfolding_all rfl); (case t => kmk_pure); (case z => kmk_size)); intro D' ws' h' F' N' l1 hI' hC' hL'; clear hC'; (try k_lt l1)) | walk_at "K")
      refine item_litK (vs := zs) (News.isList (n := kt) N (.tail _ (.tail _ (.tail _ (.tail _ (.head _)))))) (by omega) (by omega) (v := u) (by simpa using hu) ?_ (by with_unfolding_all rfl)
      (try dsimp only)
      exact LCg.CompEnd.intro F N _ (fun _ h => h) off (.inr ⟨_, .head _, rfl, _, rfl⟩) ⟨by rw [List.take_add_one, q4]; exact hZ'.snoc hTT, rfl⟩
    · rintro zs news ⟨hT, rfl⟩ D h tk F N oo
      dsimp only
      obtain ⟨kD, hkD⟩ : ∃ k, LCg.lst zs = listOf (List.toArray zs) k := ⟨_, rfl⟩
      rw [hkD] at N
      rw [← hpl, List.take_length] at hT
      have ho := off1_mem oo
      k_dflt (refine storeX_C (c := L + 1 + 1) F N (by with_unfolding_all rfl) (.tail (Ne.symm (ho _ (.tail _ (.tail _ (.tail _ (.tail _ (.head _))))))) (.tail n1 (.tail n2 (.tail n3 (.tail n4 (.head ?_)))))) ho2 (fun h' o' F' N' d' => ?_))
      · exact fun q hq => hR q hq
      exact hZ D zs kD o' _ _ _ (frB F' (by rfl)) (ledA N' (by lcg_sub)) d' hT
  clear F N hT hvo hzl hvol hol ho2 n1 n2
  intro tn us kt o2 h2 tk2 m2 F2 NL2 ho2 hT
  have hul := hT.1
  refine wpAny_execs_cons ?_
  walk1
  refine testA (fun Z => ∀ h' tk' m', Fr g L h' (over m' [(Str.ofString "codes", .ref ca), (Str.ofString "due", .ref da)]) → News g L h' ((da, listOf (List.toArray dvs) kd) :: (tn, listOf (List.toArray us) kt) :: (ca, listOf (List.toArray cvs) kc) :: (L + 1 + 1, o2) :: R) → Z false h' tk') ?_ ?_
  · intro Z hZ
    repeat' ((fail_if_success (with_reducible show wpAny _ _ (call (Value.ref 595) _) _ _ _)); (first | ((with_reducible show wpAny _ _ (call (Value.ref 200) _) _ _ _); k_dflt (refine text_c (by k_asm) (by k_asm) (by k_asm) (by k_asm) (by k_asm) (by rfl) (by ktr_room) (by ktr_units) ?_); intro x' dx' kt' h' tk' F' N' o1' o2'; (have n1' := offN o1'); (have n2' := offN o2'); (try simp only [OffN, and_true] at n1' n2'); (try dsimp only)) | ((with_reducible show wpAny _ _ (subscriptTail _ (PySem.Expr.Slice none (some _) none _) (Value.ref _) (Value.ref _)) _ _ _); k_dflt (refine' kmk_slice_ints (s := ⟨_, _, _, _, _⟩) ?F ?N ?l IsPart.none (IsPart.int _ _) ?i (kmk_upto ?i2 ?h) rfl ?_ ?s ?t ?z; (case F => k_asm); (case N => k_asm); (case l => kmk_list); (case i => l_ints); (case i2 => assumption); (case h => omega); (case s => with_unfolding_all rfl); (case t => kmk_pure); (case z => kmk_size)); intro D' ws' h' F' N' l1 hI' hC' hL'; clear hC'; (try k_lt l1)) | ((with_reducible show wpAny _ _ (subscriptTail _ (PySem.Expr.Slice none (some _) none _) (Value.ref _) (Value.ref _)) _ _ _); k_dflt (refine' kmk_slice_ints (s := ⟨_, _, _, _, _⟩) ?F ?N ?l IsPart.none (IsPart.int _ _) ?i (kmk_upto ?i2 ?h) rfl ?_ ?s ?t ?z; (case F => k_asm); (case N => k_asm); (case l => kmk_list); (case i => l_ints); (case i2 => assumption); (case h => omega); (case s => with_unfolding_all rfl); (case t => kmk_pure); (case z => kmk_size)); intro D' ws' h' F' N' l1 hI' hC' hL'; clear hC'; (try k_lt l1)) | walk_at "K"))
    k_dflt (refine told_c (hXB ()) T (by k_asm) F2 (by k_asm) NL2 (by k_asm) (by rfl) (News.isList NL2 (.tail _ (.head _))) hcs (by omega) (News.isList NL2 (.head _)) (hT.at NL2 (fun q hq => .tail _ (.tail _ (.tail _ (.tail _ hq))))) hT.1 (by omega) hr1 (by omega) (by ktr_room) (by ktr_units) ?_ (fun h => nomatch h))
    intro _ r ws n h' tk' F' N' o1 hI
    clear F2 NL2
    (try dsimp only)
    repeat' ((fail_if_success (with_reducible show wpAny _ _ (call (Value.ref 595) _) _ _ _)); (first | ((with_reducible show wpAny _ _ (call (Value.ref 200) _) _ _ _); k_dflt (refine text_c (by k_asm) (by k_asm) (by k_asm) (by k_asm) (by k_asm) (by rfl) (by ktr_room) (by ktr_units) ?_); intro x' dx' kt' h' tk' F' N' o1' o2'; (have n1' := offN o1'); (have n2' := offN o2'); (try simp only [OffN, and_true] at n1' n2'); (try dsimp only)) | ((with_reducible show wpAny _ _ (subscriptTail _ (PySem.Expr.Slice none (some _) none _) (Value.ref _) (Value.ref _)) _ _ _); k_dflt (refine' kmk_slice_ints (s := ⟨_, _, _, _, _⟩) ?F ?N ?l IsPart.none (IsPart.int _ _) ?i (kmk_upto ?i2 ?h) rfl ?_ ?s ?t ?z; (case F => k_asm); (case N => k_asm); (case l => kmk_list); (case i => l_ints); (case i2 => assumption); (case h => omega); (case s => with_unfolding_all rfl); (case t => kmk_pure); (case z => kmk_size)); intro D' ws' h' F' N' l1 hI' hC' hL'; clear hC'; (try k_lt l1)) | ((with_reducible show wpAny _ _ (subscriptTail _ (PySem.Expr.Slice none (some _) none _) (Value.ref _) (Value.ref _)) _ _ _); k_dflt (refine' kmk_slice_ints (s := ⟨_, _, _, _, _⟩) ?F ?N ?l IsPart.none (IsPart.int _ _) ?i (kmk_upto ?i2 ?h) rfl ?_ ?s ?t ?z; (case F => k_asm); (case N => k_asm); (case l => kmk_list); (case i => l_ints); (case i2 => assumption); (case h => omega); (case s => with_unfolding_all rfl); (case t => kmk_pure); (case z => kmk_size)); intro D' ws' h' F' N' l1 hI' hC' hL'; clear hC'; (try k_lt l1)) | walk_at "K"))
    rename News g L _ _ => Nx
    rename Fr g L _ _ => Fx
    k_dflt (refine told_c (hXB ()) T (by k_asm) Fx (by k_asm) Nx (by k_asm) (by rfl) (News.isList Nx (.tail _ (.tail _ (.tail _ (.tail _ (.head _)))))) hcs (by omega) (News.isList Nx (.head _)) ((hT.snoc (v := .ref 160) (T := .any) trivial).at Nx (fun q hq => .tail _ (.tail _ (.tail _ (.tail _ (.tail _ (.tail _ (.tail _ hq)))))))) (hT.snoc (v := .ref 160) (T := .any) trivial).1 (by rw [List.length_append, List.length_singleton]; omega) hr2 (by omega) (by ktr_room) (by ktr_units) ?_ (fun h => nomatch h))
    intro _ r2 ws2 n2 h2' tk2' F2' N2' o2' hI2
    clear Fx Nx
    (try dsimp only)
    repeat' (first | ((with_reducible show wpAny _ _ (call (Value.ref 200) _) _ _ _); k_dflt (refine text_c (by k_asm) (by k_asm) (by k_asm) (by k_asm) (by k_asm) (by rfl) (by ktr_room) (by ktr_units) ?_); intro x' dx' kt' h' tk' F' N' o1' o2'; (have n1' := offN o1'); (have n2' := offN o2'); (try simp only [OffN, and_true] at n1' n2'); (try dsimp only)) | ((with_reducible show wpAny _ _ (subscriptTail _ (PySem.Expr.Slice none (some _) none _) (Value.ref _) (Value.ref _)) _ _ _); k_dflt (refine' kmk_slice_ints (s := ⟨_, _, _, _, _⟩) ?F ?N ?l IsPart.none (IsPart.int _ _) ?i (kmk_upto ?i2 ?h) rfl ?_ ?s ?t ?z; (case F => k_asm); (case N => k_asm); (case l => kmk_list); (case i => l_ints); (case i2 => assumption); (case h => omega); (case s => with_unfolding_all rfl); (case t => kmk_pure); (case z => kmk_size)); intro D' ws' h' F' N' l1 hI' hC' hL'; clear hC'; (try k_lt l1)) | ((with_reducible show wpAny _ _ (subscriptTail _ (PySem.Expr.Slice none (some _) none _) (Value.ref _) (Value.ref _)) _ _ _); k_dflt (refine' kmk_slice_ints (s := ⟨_, _, _, _, _⟩) ?F ?N ?l IsPart.none (IsPart.int _ _) ?i (kmk_upto ?i2 ?h) rfl ?_ ?s ?t ?z; (case F => k_asm); (case N => k_asm); (case l => kmk_list); (case i => l_ints); (case i2 => assumption); (case h => omega); (case s => with_unfolding_all rfl); (case t => kmk_pure); (case z => kmk_size)); intro D' ws' h' F' N' l1 hI' hC' hL'; clear hC'; (try k_lt l1)) | walk_at "K")
    exact hZ _ _ _ (frB (by assumption) (by rfl)) (ledA (by assumption) (by lcg_sub))
  clear F2 NL2
  intro h3 tk3 m3 F3 NL3
  simp only [Bool.false_eq_true, if_false]
  repeat' (first | ((with_reducible show wpAny _ _ (call (Value.ref 200) _) _ _ _); k_dflt (refine text_c (by k_asm) (by k_asm) (by k_asm) (by k_asm) (by k_asm) (by rfl) (by ktr_room) (by ktr_units) ?_); intro x' dx' kt' h' tk' F' N' o1' o2'; (have n1' := offN o1'); (have n2' := offN o2'); (try simp only [OffN, and_true] at n1' n2'); (try dsimp only)) | ((with_reducible show wpAny _ _ (subscriptTail _ (PySem.Expr.Slice none (some _) none _) (Value.ref _) (Value.ref _)) _ _ _); k_dflt (refine' kmk_slice_ints (s := ⟨_, _, _, _, _⟩) ?F ?N ?l IsPart.none (IsPart.int _ _) ?i (kmk_upto ?i2 ?h) rfl ?_ ?s ?t ?z; (case F => k_asm); (case N => k_asm); (case l => kmk_list); (case i => l_ints); (case i2 => assumption); (case h => omega); (case s => with_unfolding_all rfl); (case t => kmk_pure); (case z => kmk_size)); intro D' ws' h' F' N' l1 hI' hC' hL'; clear hC'; (try k_lt l1)) | ((with_reducible show wpAny _ _ (subscriptTail _ (PySem.Expr.Slice none (some _) none _) (Value.ref _) (Value.ref _)) _ _ _); k_dflt (refine' kmk_slice_ints (s := ⟨_, _, _, _, _⟩) ?F ?N ?l IsPart.none (IsPart.int _ _) ?i (kmk_upto ?i2 ?h) rfl ?_ ?s ?t ?z; (case F => k_asm); (case N => k_asm); (case l => kmk_list); (case i => l_ints); (case i2 => assumption); (case h => omega); (case s => with_unfolding_all rfl); (case t => kmk_pure); (case z => kmk_size)); intro D' ws' h' F' N' l1 hI' hC' hL'; clear hC'; (try k_lt l1)) | walk_at "K")
  refine cutA (fun Z => ∀ (t : Tok) h' tk' m', Fr g L h' (over m' [(Str.ofString "many", .int (ths.length : Int) t), (Str.ofString "codes", .ref ca)]) → News g L h' ((tn, listOf (List.toArray us) kt) :: (ca, listOf (List.toArray cvs) kc) :: (L + 1 + 1, o2) :: R) → Z h' tk') ?_ ?_
  · intro Z hZ
    repeat' (first | ((with_reducible show wpAny _ _ (call (Value.ref 200) _) _ _ _); k_dflt (refine text_c (by k_asm) (by k_asm) (by k_asm) (by k_asm) (by k_asm) (by rfl) (by ktr_room) (by ktr_units) ?_); intro x' dx' kt' h' tk' F' N' o1' o2'; (have n1' := offN o1'); (have n2' := offN o2'); (try simp only [OffN, and_true] at n1' n2'); (try dsimp only)) | ((with_reducible show wpAny _ _ (subscriptTail _ (PySem.Expr.Slice none (some _) none _) (Value.ref _) (Value.ref _)) _ _ _); k_dflt (refine' kmk_slice_ints (s := ⟨_, _, _, _, _⟩) ?F ?N ?l IsPart.none (IsPart.int _ _) ?i (kmk_upto ?i2 ?h) rfl ?_ ?s ?t ?z; (case F => k_asm); (case N => k_asm); (case l => kmk_list); (case i => l_ints); (case i2 => assumption); (case h => omega); (case s => with_unfolding_all rfl); (case t => kmk_pure); (case z => kmk_size)); intro D' ws' h' F' N' l1 hI' hC' hL'; clear hC'; (try k_lt l1)) | ((with_reducible show wpAny _ _ (subscriptTail _ (PySem.Expr.Slice none (some _) none _) (Value.ref _) (Value.ref _)) _ _ _); k_dflt (refine' kmk_slice_ints (s := ⟨_, _, _, _, _⟩) ?F ?N ?l IsPart.none (IsPart.int _ _) ?i (kmk_upto ?i2 ?h) rfl ?_ ?s ?t ?z; (case F => k_asm); (case N => k_asm); (case l => kmk_list); (case i => l_ints); (case i2 => assumption); (case h => omega); (case s => with_unfolding_all rfl); (case t => kmk_pure); (case z => kmk_size)); intro D' ws' h' F' N' l1 hI' hC' hL'; clear hC'; (try k_lt l1)) | walk_at "K")
    k_dflt (refine kun_lenL (k := (ths.length : Int)) (News.isList NL3 (.tail _ (.head _))) (by rw [← hpl, ← hul]; rfl) (by omega) ?_)
    (try dsimp only)
    repeat' (first | ((with_reducible show wpAny _ _ (call (Value.ref 200) _) _ _ _); k_dflt (refine text_c (by k_asm) (by k_asm) (by k_asm) (by k_asm) (by k_asm) (by rfl) (by ktr_room) (by ktr_units) ?_); intro x' dx' kt' h' tk' F' N' o1' o2'; (have n1' := offN o1'); (have n2' := offN o2'); (try simp only [OffN, and_true] at n1' n2'); (try dsimp only)) | ((with_reducible show wpAny _ _ (subscriptTail _ (PySem.Expr.Slice none (some _) none _) (Value.ref _) (Value.ref _)) _ _ _); k_dflt (refine' kmk_slice_ints (s := ⟨_, _, _, _, _⟩) ?F ?N ?l IsPart.none (IsPart.int _ _) ?i (kmk_upto ?i2 ?h) rfl ?_ ?s ?t ?z; (case F => k_asm); (case N => k_asm); (case l => kmk_list); (case i => l_ints); (case i2 => assumption); (case h => omega); (case s => with_unfolding_all rfl); (case t => kmk_pure); (case z => kmk_size)); intro D' ws' h' F' N' l1 hI' hC' hL'; clear hC'; (try k_lt l1)) | ((with_reducible show wpAny _ _ (subscriptTail _ (PySem.Expr.Slice none (some _) none _) (Value.ref _) (Value.ref _)) _ _ _); k_dflt (refine' kmk_slice_ints (s := ⟨_, _, _, _, _⟩) ?F ?N ?l IsPart.none (IsPart.int _ _) ?i (kmk_upto ?i2 ?h) rfl ?_ ?s ?t ?z; (case F => k_asm); (case N => k_asm); (case l => kmk_list); (case i => l_ints); (case i2 => assumption); (case h => omega); (case s => with_unfolding_all rfl); (case t => kmk_pure); (case z => kmk_size)); intro D' ws' h' F' N' l1 hI' hC' hL'; clear hC'; (try k_lt l1)) | walk_at "K")
    exact hZ _ _ _ _ (frB (by assumption) (by rfl)) (ledA (by assumption) (fun q hq => .tail _ hq))
  clear F3 NL3
  intro t h4 tk4 m4 F4 NL4
  refine cutA (fun Z => ∀ (fo : Addr) (t1 t2 : Tok) (k : Nat) h' tk' m', Fr g L h' (over m' [(Str.ofString "found", .ref fo), (Str.ofString "codes", .ref ca)]) → News g L h' ((fo, listOf #[.str (Str.ofString "error") t1, .str (Str.ofString "error") t2] k) :: (tn, listOf (List.toArray us) kt) :: (ca, listOf (List.toArray cvs) kc) :: (L + 1 + 1, o2) :: R) → Z h' tk') ?_ ?_
  · intro Z hZ
    have hes := end_size ((ths.length : Int) + 1) (by omega) (by omega)
    repeat' ((fail_if_success (with_reducible show wpAny _ _ (call (Value.ref 564) _) _ _ _)); (first | ((with_reducible show wpAny _ _ (call (Value.ref 200) _) _ _ _); k_dflt (refine text_c (by k_asm) (by k_asm) (by k_asm) (by k_asm) (by k_asm) (by rfl) (by ktr_room) (by ktr_units) ?_); intro x' dx' kt' h' tk' F' N' o1' o2'; (have n1' := offN o1'); (have n2' := offN o2'); (try simp only [OffN, and_true] at n1' n2'); (try dsimp only)) | ((with_reducible show wpAny _ _ (subscriptTail _ (PySem.Expr.Slice none (some _) none _) (Value.ref _) (Value.ref _)) _ _ _); k_dflt (refine' kmk_slice_ints (s := ⟨_, _, _, _, _⟩) ?F ?N ?l IsPart.none (IsPart.int _ _) ?i (kmk_upto ?i2 ?h) rfl ?_ ?s ?t ?z; (case F => k_asm); (case N => k_asm); (case l => kmk_list); (case i => l_ints); (case i2 => assumption); (case h => omega); (case s => with_unfolding_all rfl); (case t => kmk_pure); (case z => kmk_size)); intro D' ws' h' F' N' l1 hI' hC' hL'; clear hC'; (try k_lt l1)) | ((with_reducible show wpAny _ _ (subscriptTail _ (PySem.Expr.Slice none (some _) none _) (Value.ref _) (Value.ref _)) _ _ _); k_dflt (refine' kmk_slice_ints (s := ⟨_, _, _, _, _⟩) ?F ?N ?l IsPart.none (IsPart.int _ _) ?i (kmk_upto ?i2 ?h) rfl ?_ ?s ?t ?z; (case F => k_asm); (case N => k_asm); (case l => kmk_list); (case i => l_ints); (case i2 => assumption); (case h => omega); (case s => with_unfolding_all rfl); (case t => kmk_pure); (case z => kmk_size)); intro D' ws' h' F' N' l1 hI' hC' hL'; clear hC'; (try k_lt l1)) | walk_at "K"))
    k_dflt (refine lcodes_c (st := endT ((ths.length : Int) + 1)) (by k_asm) F4 (by k_asm) NL4 (by k_asm) (by rfl) (by omega) (by ktr_room) (by ktr_units) ?_)
    intro r' ws' n' h' tk' F' N' o1' hI'
    generalize endT ((ths.length : Int) + 1) = es at *
    have hL' := hI'.length
    rw [sgn_len] at hL'
    have n1' := offN o1'
    (try simp only [OffN, and_true] at n1')
    (try dsimp only)
    repeat' ((fail_if_success (with_reducible show wpAny _ _ (call (Value.ref 595) _) _ _ _)); (first | ((with_reducible show wpAny _ _ (call (Value.ref 200) _) _ _ _); k_dflt (refine text_c (by k_asm) (by k_asm) (by k_asm) (by k_asm) (by k_asm) (by rfl) (by ktr_room) (by ktr_units) ?_); intro x' dx' kt' h' tk' F' N' o1' o2'; (have n1' := offN o1'); (have n2' := offN o2'); (try simp only [OffN, and_true] at n1' n2'); (try dsimp only)) | ((with_reducible show wpAny _ _ (subscriptTail _ (PySem.Expr.Slice none (some _) none _) (Value.ref _) (Value.ref _)) _ _ _); k_dflt (refine' kmk_slice_ints (s := ⟨_, _, _, _, _⟩) ?F ?N ?l IsPart.none (IsPart.int _ _) ?i (kmk_upto ?i2 ?h) rfl ?_ ?s ?t ?z; (case F => k_asm); (case N => k_asm); (case l => kmk_list); (case i => l_ints); (case i2 => assumption); (case h => omega); (case s => with_unfolding_all rfl); (case t => kmk_pure); (case z => kmk_size)); intro D' ws' h' F' N' l1 hI' hC' hL'; clear hC'; (try k_lt l1)) | ((with_reducible show wpAny _ _ (subscriptTail _ (PySem.Expr.Slice none (some _) none _) (Value.ref _) (Value.ref _)) _ _ _); k_dflt (refine' kmk_slice_ints (s := ⟨_, _, _, _, _⟩) ?F ?N ?l IsPart.none (IsPart.int _ _) ?i (kmk_upto ?i2 ?h) rfl ?_ ?s ?t ?z; (case F => k_asm); (case N => k_asm); (case l => kmk_list); (case i => l_ints); (case i2 => assumption); (case h => omega); (case s => with_unfolding_all rfl); (case t => kmk_pure); (case z => kmk_size)); intro D' ws' h' F' N' l1 hI' hC' hL'; clear hC'; (try k_lt l1)) | walk_at "K"))
    rename News g L _ _ => Nx
    rename Fr g L _ _ => Fx
    k_dflt (refine told_c (hXB ()) T (by k_asm) Fx (by k_asm) Nx (by k_asm) (by rfl) (News.isList Nx (.head _)) (hcs.append hI') (by simp only [List.length_append, List.length_cons, List.length_nil, sgn_len]; omega) (News.isList Nx (.tail _ (.tail _ (.head _)))) (hT.at Nx (fun q hq => by simp only [List.mem_cons, hq, or_true])) hT.1 (by omega) hr3 (by omega) (by ktr_room) (by ktr_units) (fun h => nomatch h) ?_)
    rintro - t1 h1' tk1' F1' N1'
    clear Fx Nx
    (try dsimp only)
    repeat' ((fail_if_success (with_reducible show wpAny _ _ (call (Value.ref 595) _) _ _ _)); (first | ((with_reducible show wpAny _ _ (call (Value.ref 200) _) _ _ _); k_dflt (refine text_c (by k_asm) (by k_asm) (by k_asm) (by k_asm) (by k_asm) (by rfl) (by ktr_room) (by ktr_units) ?_); intro x' dx' kt' h' tk' F' N' o1' o2'; (have n1' := offN o1'); (have n2' := offN o2'); (try simp only [OffN, and_true] at n1' n2'); (try dsimp only)) | ((with_reducible show wpAny _ _ (subscriptTail _ (PySem.Expr.Slice none (some _) none _) (Value.ref _) (Value.ref _)) _ _ _); k_dflt (refine' kmk_slice_ints (s := ⟨_, _, _, _, _⟩) ?F ?N ?l IsPart.none (IsPart.int _ _) ?i (kmk_upto ?i2 ?h) rfl ?_ ?s ?t ?z; (case F => k_asm); (case N => k_asm); (case l => kmk_list); (case i => l_ints); (case i2 => assumption); (case h => omega); (case s => with_unfolding_all rfl); (case t => kmk_pure); (case z => kmk_size)); intro D' ws' h' F' N' l1 hI' hC' hL'; clear hC'; (try k_lt l1)) | ((with_reducible show wpAny _ _ (subscriptTail _ (PySem.Expr.Slice none (some _) none _) (Value.ref _) (Value.ref _)) _ _ _); k_dflt (refine' kmk_slice_ints (s := ⟨_, _, _, _, _⟩) ?F ?N ?l IsPart.none (IsPart.int _ _) ?i (kmk_upto ?i2 ?h) rfl ?_ ?s ?t ?z; (case F => k_asm); (case N => k_asm); (case l => kmk_list); (case i => l_ints); (case i2 => assumption); (case h => omega); (case s => with_unfolding_all rfl); (case t => kmk_pure); (case z => kmk_size)); intro D' ws' h' F' N' l1 hI' hC' hL'; clear hC'; (try k_lt l1)) | walk_at "K"))
    rename News g L _ _ => Nx
    rename Fr g L _ _ => Fx
    k_dflt (refine told_c (hXB ()) T (by k_asm) Fx (by k_asm) Nx (by k_asm) (by rfl) (News.isList Nx (.head _)) (ns := cs ++ [37]) (by assumption) (by simp only [List.length_append, List.length_cons, List.length_nil, sgn_len]; omega) (News.isList Nx (by k_mem)) (hT.at Nx (fun q hq => by simp only [List.mem_cons, hq, or_true])) hT.1 (by omega) hr4 (by omega) (by ktr_room) (by ktr_units) (fun h => nomatch h) ?_)
    rintro - t2 h2' tk2' F2' N2'
    clear Fx Nx
    (try dsimp only)
    repeat' (first | ((with_reducible show wpAny _ _ (call (Value.ref 200) _) _ _ _); k_dflt (refine text_c (by k_asm) (by k_asm) (by k_asm) (by k_asm) (by k_asm) (by rfl) (by ktr_room) (by ktr_units) ?_); intro x' dx' kt' h' tk' F' N' o1' o2'; (have n1' := offN o1'); (have n2' := offN o2'); (try simp only [OffN, and_true] at n1' n2'); (try dsimp only)) | ((with_reducible show wpAny _ _ (subscriptTail _ (PySem.Expr.Slice none (some _) none _) (Value.ref _) (Value.ref _)) _ _ _); k_dflt (refine' kmk_slice_ints (s := ⟨_, _, _, _, _⟩) ?F ?N ?l IsPart.none (IsPart.int _ _) ?i (kmk_upto ?i2 ?h) rfl ?_ ?s ?t ?z; (case F => k_asm); (case N => k_asm); (case l => kmk_list); (case i => l_ints); (case i2 => assumption); (case h => omega); (case s => with_unfolding_all rfl); (case t => kmk_pure); (case z => kmk_size)); intro D' ws' h' F' N' l1 hI' hC' hL'; clear hC'; (try k_lt l1)) | ((with_reducible show wpAny _ _ (subscriptTail _ (PySem.Expr.Slice none (some _) none _) (Value.ref _) (Value.ref _)) _ _ _); k_dflt (refine' kmk_slice_ints (s := ⟨_, _, _, _, _⟩) ?F ?N ?l IsPart.none (IsPart.int _ _) ?i (kmk_upto ?i2 ?h) rfl ?_ ?s ?t ?z; (case F => k_asm); (case N => k_asm); (case l => kmk_list); (case i => l_ints); (case i2 => assumption); (case h => omega); (case s => with_unfolding_all rfl); (case t => kmk_pure); (case z => kmk_size)); intro D' ws' h' F' N' l1 hI' hC' hL'; clear hC'; (try k_lt l1)) | walk_at "K")
    exact hZ _ _ _ _ _ _ _ (frB (by assumption) (by rfl)) (ledA (by assumption) (by lcg_sub))
  clear F4 NL4
  intro fo t1 t2 kf h5 tk5 m5 F5 NL5
  refine cutA (fun Z => ∀ (fo : Addr) (t1 t2 t3 t4 : Tok) (k : Nat) h' tk' m', Fr g L h' (over m' [(Str.ofString "found", .ref fo)]) → News g L h' [(fo, listOf #[.str (Str.ofString "error") t1, .str (Str.ofString "error") t2, .str (Str.ofString "error") t3, .str (Str.ofString "error") t4] k)] → Z h' tk') ?_ ?_
  · intro Z hZ
    skip
    repeat' ((fail_if_success (with_reducible show wpAny _ _ (call (Value.ref 595) _) _ _ _)); (first | ((with_reducible show wpAny _ _ (call (Value.ref 200) _) _ _ _); k_dflt (refine text_c (by k_asm) (by k_asm) (by k_asm) (by k_asm) (by k_asm) (by rfl) (by ktr_room) (by ktr_units) ?_); intro x' dx' kt' h' tk' F' N' o1' o2'; (have n1' := offN o1'); (have n2' := offN o2'); (try simp only [OffN, and_true] at n1' n2'); (try dsimp only)) | ((with_reducible show wpAny _ _ (subscriptTail _ (PySem.Expr.Slice none (some _) none _) (Value.ref _) (Value.ref _)) _ _ _); k_dflt (refine' kmk_slice_ints (s := ⟨_, _, _, _, _⟩) ?F ?N ?l IsPart.none (IsPart.int _ _) ?i (kmk_upto ?i2 ?h) rfl ?_ ?s ?t ?z; (case F => k_asm); (case N => k_asm); (case l => kmk_list); (case i => l_ints); (case i2 => assumption); (case h => omega); (case s => with_unfolding_all rfl); (case t => kmk_pure); (case z => kmk_size)); intro D' ws' h' F' N' l1 hI' hC' hL'; clear hC'; (try k_lt l1)) | ((with_reducible show wpAny _ _ (subscriptTail _ (PySem.Expr.Slice none (some _) none _) (Value.ref _) (Value.ref _)) _ _ _); k_dflt (refine' kmk_slice_ints (s := ⟨_, _, _, _, _⟩) ?F ?N ?l IsPart.none (IsPart.int _ _) ?i (kmk_upto ?i2 ?h) rfl ?_ ?s ?t ?z; (case F => k_asm); (case N => k_asm); (case l => kmk_list); (case i => l_ints); (case i2 => assumption); (case h => omega); (case s => with_unfolding_all rfl); (case t => kmk_pure); (case z => kmk_size)); intro D' ws' h' F' N' l1 hI' hC' hL'; clear hC'; (try k_lt l1)) | walk_at "K"))
    rename News g L _ _ => Nx
    rename Fr g L _ _ => Fx
    k_dflt (refine told_c (hXB ()) T (by k_asm) Fx (by k_asm) Nx (by k_asm) (by rfl) (News.isList Nx (.head _)) (ns := cs ++ [37, 113]) (by assumption) (by simp only [List.length_append, List.length_cons, List.length_nil, sgn_len]; omega) (News.isList Nx (by k_mem)) (hT.at Nx (fun q hq => by simp only [List.mem_cons, hq, or_true])) hT.1 (by omega) hr5 (by omega) (by ktr_room) (by ktr_units) (fun h => nomatch h) ?_)
    rintro - t3 h3' tk3' F3' N3'
    clear Fx Nx
    (try dsimp only)
    repeat' ((fail_if_success (with_reducible show wpAny _ _ (call (Value.ref 595) _) _ _ _)); (first | ((with_reducible show wpAny _ _ (call (Value.ref 200) _) _ _ _); k_dflt (refine text_c (by k_asm) (by k_asm) (by k_asm) (by k_asm) (by k_asm) (by rfl) (by ktr_room) (by ktr_units) ?_); intro x' dx' kt' h' tk' F' N' o1' o2'; (have n1' := offN o1'); (have n2' := offN o2'); (try simp only [OffN, and_true] at n1' n2'); (try dsimp only)) | ((with_reducible show wpAny _ _ (subscriptTail _ (PySem.Expr.Slice none (some _) none _) (Value.ref _) (Value.ref _)) _ _ _); k_dflt (refine' kmk_slice_ints (s := ⟨_, _, _, _, _⟩) ?F ?N ?l IsPart.none (IsPart.int _ _) ?i (kmk_upto ?i2 ?h) rfl ?_ ?s ?t ?z; (case F => k_asm); (case N => k_asm); (case l => kmk_list); (case i => l_ints); (case i2 => assumption); (case h => omega); (case s => with_unfolding_all rfl); (case t => kmk_pure); (case z => kmk_size)); intro D' ws' h' F' N' l1 hI' hC' hL'; clear hC'; (try k_lt l1)) | ((with_reducible show wpAny _ _ (subscriptTail _ (PySem.Expr.Slice none (some _) none _) (Value.ref _) (Value.ref _)) _ _ _); k_dflt (refine' kmk_slice_ints (s := ⟨_, _, _, _, _⟩) ?F ?N ?l IsPart.none (IsPart.int _ _) ?i (kmk_upto ?i2 ?h) rfl ?_ ?s ?t ?z; (case F => k_asm); (case N => k_asm); (case l => kmk_list); (case i => l_ints); (case i2 => assumption); (case h => omega); (case s => with_unfolding_all rfl); (case t => kmk_pure); (case z => kmk_size)); intro D' ws' h' F' N' l1 hI' hC' hL'; clear hC'; (try k_lt l1)) | walk_at "K"))
    rename News g L _ _ => Nx
    rename Fr g L _ _ => Fx
    k_dflt (refine told_c (vs := [.int 37 _, .int 100 _]) (tv := [.ref _]) (hXB ()) T (by k_asm) Fx (by k_asm) Nx (by k_asm) (by rfl) (News.isList Nx (.tail _ (.tail _ (.tail _ (.tail _ (.head _)))))) (.cons _ _ (.cons _ _ .nil)) (by decide) (News.isList Nx (.head _)) (one_thing (vt := [.int 49 _]) ⟨(Nx _ (.tail _ (.head _))).1, (Nx _ (.tail _ (.tail _ (.head _)))).1⟩ (Nx _ (.tail _ (.tail _ (.tail _ (.head _))))).1 (.cons _ _ .nil)) rfl (Nat.le_of_ble_eq_true rfl) hr6 (by omega) (by ktr_room) (by ktr_units) (fun h => nomatch h) ?_)
    rintro - t4 h4' tk4' F4' N4'
    clear Fx Nx
    (try dsimp only)
    repeat' (first | ((with_reducible show wpAny _ _ (call (Value.ref 200) _) _ _ _); k_dflt (refine text_c (by k_asm) (by k_asm) (by k_asm) (by k_asm) (by k_asm) (by rfl) (by ktr_room) (by ktr_units) ?_); intro x' dx' kt' h' tk' F' N' o1' o2'; (have n1' := offN o1'); (have n2' := offN o2'); (try simp only [OffN, and_true] at n1' n2'); (try dsimp only)) | ((with_reducible show wpAny _ _ (subscriptTail _ (PySem.Expr.Slice none (some _) none _) (Value.ref _) (Value.ref _)) _ _ _); k_dflt (refine' kmk_slice_ints (s := ⟨_, _, _, _, _⟩) ?F ?N ?l IsPart.none (IsPart.int _ _) ?i (kmk_upto ?i2 ?h) rfl ?_ ?s ?t ?z; (case F => k_asm); (case N => k_asm); (case l => kmk_list); (case i => l_ints); (case i2 => assumption); (case h => omega); (case s => with_unfolding_all rfl); (case t => kmk_pure); (case z => kmk_size)); intro D' ws' h' F' N' l1 hI' hC' hL'; clear hC'; (try k_lt l1)) | ((with_reducible show wpAny _ _ (subscriptTail _ (PySem.Expr.Slice none (some _) none _) (Value.ref _) (Value.ref _)) _ _ _); k_dflt (refine' kmk_slice_ints (s := ⟨_, _, _, _, _⟩) ?F ?N ?l IsPart.none (IsPart.int _ _) ?i (kmk_upto ?i2 ?h) rfl ?_ ?s ?t ?z; (case F => k_asm); (case N => k_asm); (case l => kmk_list); (case i => l_ints); (case i2 => assumption); (case h => omega); (case s => with_unfolding_all rfl); (case t => kmk_pure); (case z => kmk_size)); intro D' ws' h' F' N' l1 hI' hC' hL'; clear hC'; (try k_lt l1)) | walk_at "K")
    exact hZ _ _ _ _ _ _ _ _ _ (frB (by assumption) (by rfl)) (ledA (by assumption) (by lcg_sub))
  clear F5 NL5
  intro fo t1 t2 t3 t4 kf h6 tk6 m6 F6 NL6
  ((refine wpAny_execs_cons ?_); repeat' (first | ((with_reducible show wpAny _ _ (call (Value.ref 200) _) _ _ _); k_dflt (refine text_c (by k_asm) (by k_asm) (by k_asm) (by k_asm) (by k_asm) (by rfl) (by ktr_room) (by ktr_units) ?_); intro x' dx' kt' h' tk' F' N' o1' o2'; (have n1' := offN o1'); (have n2' := offN o2'); (try simp only [OffN, and_true] at n1' n2'); (try dsimp only)) | ((with_reducible show wpAny _ _ (subscriptTail _ (PySem.Expr.Slice none (some _) none _) (Value.ref _) (Value.ref _)) _ _ _); k_dflt (refine' kmk_slice_ints (s := ⟨_, _, _, _, _⟩) ?F ?N ?l IsPart.none (IsPart.int _ _) ?i (kmk_upto ?i2 ?h) rfl ?_ ?s ?t ?z; (case F => k_asm); (case N => k_asm); (case l => kmk_list); (case i => l_ints); (case i2 => assumption); (case h => omega); (case s => with_unfolding_all rfl); (case t => kmk_pure); (case z => kmk_size)); intro D' ws' h' F' N' l1 hI' hC' hL'; clear hC'; (try k_lt l1)) | ((with_reducible show wpAny _ _ (subscriptTail _ (PySem.Expr.Slice none (some _) none _) (Value.ref _) (Value.ref _)) _ _ _); k_dflt (refine' kmk_slice_ints (s := ⟨_, _, _, _, _⟩) ?F ?N ?l IsPart.none (IsPart.int _ _) ?i (kmk_upto ?i2 ?h) rfl ?_ ?s ?t ?z; (case F => k_asm); (case N => k_asm); (case l => kmk_list); (case i => l_ints); (case i2 => assumption); (case h => omega); (case s => with_unfolding_all rfl); (case t => kmk_pure); (case z => kmk_size)); intro D' ws' h' F' N' l1 hI' hC' hL'; clear hC'; (try k_lt l1)) | walk_at "K"))
  exact hPQ _ _ _ _ (by assumption) (by assumption)
end
section
/-! ## The runs of the codes that the law builds -/
theorem runs_go {N : List Int} {ths : List Thg} {f k : Nat} {nx c : Int} {r o : List Int} {ok : Bool} (hd : N.drop k = c :: r) (hc : c ≠ 37) (h : Run N ths f (k + 1) nx o ok) : Run N ths (f + 1) k nx (c :: o) ok := by
  have z := getD_drop hd
  exact .inl ⟨z.2, by rw [z.1]; exact hc, o, by rw [z.1], h⟩
theorem run_flat {N : List Int} {ths : List Thg} {nx c : Int} {post o : List Int} {ok : Bool} (hc : c ≠ 37) : ∀ (j f k : Nat), N.drop k = List.replicate j c ++ post → Run N ths f (k + j) nx o ok → ∃ f', Run N ths f' k nx (List.replicate j c ++ o) ok
  | 0, f, k, _, h => ⟨f, h⟩
  | j + 1, f, k, hd, h => by
    rw [List.replicate_succ, List.cons_append] at hd
    obtain ⟨f', h'⟩ := run_flat hc j f (k + 1) (drop_go (D := [c]) hd) (by rw [show k + 1 + j = k + (j + 1) by omega]; exact h)
    exact ⟨f' + 1, by rw [List.replicate_succ, List.cons_append]; exact runs_go hd hc h'⟩
theorem run_word {N : List Int} {ths : List Thg} {f k : Nat} {nx : Int} {r out : List Int} {ok : Bool} (hd : N.drop k = 37 :: r) (hR : ROk N (k + 1)) (h : Aft ths (Run N ths f (rsK4 N (k + 1) + 1)) (rsSD N (k + 1)) nx out ok) : Run N ths (f + 1) k nx out ok := by
  have z := getD_drop hd
  exact .inr ⟨z.2, z.1, hR, h⟩
theorem wrd_one {c : Int} (dig : isDig c = false) (flg : isFlag c = false) (dot : c ≠ 46) (sum : c ≠ 36) (lo : 32 ≤ c) (hi : c < 127) : Wrd [] [] [] c :=
  ⟨fun _ h => (nomatch h), fun _ h => (nomatch h), .inl rfl, dig, flg, dot, sum, lo, hi, by decide, by decide⟩
theorem run_pct {N : List Int} {ths : List Thg} {f k : Nat} {nx : Int} {post o : List Int} {ok : Bool} (hp : Cl post) (hd : N.drop k = [37, 37] ++ post) (h : Run N ths f (k + 2) nx o ok) : Run N ths (f + 1) k nx (37 :: o) ok := by
  have hd1 : N.drop (k + 1) = [] ++ ([] ++ ([] ++ (37 :: post))) := drop_go (D := [37]) hd
  have z := parse_plain (wrd_one (c := 37) (by decide) (by decide) (by decide) (by decide) (by decide) (by decide)) hp hd1
  refine run_word (r := 37 :: post) hd z.1 (.inl ⟨?_, o, rfl, ?_⟩)
  · rw [z.2.1]
    decide +kernel
  · rw [z.2.2]
    exact h
theorem run_spec {N : List Int} {ths : List Thg} {fl k : Nat} {nx i : Int} {post o tale : List Int} {st : Str} {th : Thg} {f : Bool} {ok : Bool} (hG : PGood (.spec st th tale)) (hi0 : 0 ≤ i) (hi1 : i ≤ 5) (hp : Cl post) (hd : N.drop k = 37 :: (sgn (fieldT f i ++ st) ++ post))
    (hn : f = false → nx = i) (ht : ths[i.toNat]? = some th) (h : Run N ths fl (k + (1 + (sgn (fieldT f i ++ st)).length)) (i + 1) o ok) : Run N ths (fl + 1) k nx (tale ++ o) ok := by
  obtain ⟨le, pl, bl, no, ma, wi, sz, l, h1, h2, h3, h4, h5, rfl, hT⟩ := spec_tells hG
  have hd1 : N.drop (k + 1) = sgn (fieldT f i ++ wordT le pl bl no ma wi sz l) ++ post := drop_go (D := [37]) hd
  have z := spec_read hi0 hi1 h1 h2 h3 h4 h5 hp hd1
  have e : plc ⟨if f then i else -1, le, pl, bl, no, ma, wi, precP sz, l⟩ nx = i := by
    unfold plc
    cases f
    · simp only [Bool.false_eq_true, if_false]
      rw [if_pos (by decide)]
      exact hn rfl
    · simp only [if_true]
      exact if_neg (by omega)
  refine run_word hd z.1 ?_
  rw [z.2.1, z.2.2, Nat.add_assoc]
  refine .inr (.inr (.inr (.inr ⟨th, tale, o, ?_, ?_, hT _, rfl, ?_⟩)))
  · rw [e]; exact hi0
  · rw [e]; exact ht
  · rw [e]; exact h
theorem ord_pos {rv : Bool} {n j : Nat} (hn : n ≤ 5) (hj : j < n) (h : (ordOf rv n).take 1 = [0]) : posOf rv n j = j := by
  cases rv
  · rfl
  · have h' : n = 1 ∨ n = 2 ∨ n = 3 ∨ n = 4 ∨ n = 5 := by omega
    rcases h' with rfl | rfl | rfl | rfl | rfl
    · have : j = 0 := by omega
      subst this
      rfl
    all_goals exact absurd h (by decide +kernel)
theorem flat_cl {ws tale post : List Int} (h : PGood (.flat ws tale)) (hp : Cl post) : Cl (ws ++ post) := by
  cases h with
  | plain c k h1 h2 h3 =>
    cases k with
    | zero => exact hp
    | succ k =>
      rw [List.replicate_succ]
      refine Cl.cons ?_
      unfold isDig
      rw [decide_eq_false (p := c ≤ 57) (by omega), Bool.and_false]
  | pct => exact Cl.cons (by decide)
theorem thgs_snoc (ps : List Prt) (p : Prt) : thgs (ps ++ [p]) = thgs ps ++ thgs [p] := by
  unfold thgs
  rw [List.filterMap_append]
theorem due_snoc (ps : List Prt) (p : Prt) : dueOf (ps ++ [p]) = dueOf ps ++ taleOf p := by
  unfold dueOf
  rw [List.map_append, List.flatten_append]
  simp
theorem built_run {rv : Bool} {n : Nat} {ths : List Thg} (hn : n ≤ 5) {ps : List Prt} {cs : List Int} (hB : Built rv n ps cs) : (∀ p ∈ ps, PGood p) → (thgs ps).length ≤ n → (∀ (j : Nat) (T : Thg), (thgs ps)[j]? = some T → ths[(posOf rv n j).toNat]? = some T) →
    ∃ nx : Int, ((ordOf rv n).take 1 = [0] → nx = (thgs ps).length) ∧ 0 ≤ nx ∧ ∀ post, Cl post → ∀ (f : Nat) (o : List Int) (ok : Bool), Run (cs ++ post) ths f cs.length nx o ok → ∃ f', Run (cs ++ post) ths f' 0 0 (dueOf ps ++ o) ok := by
  induction hB with
  | nil => exact fun _ _ _ => ⟨0, fun _ => rfl, Int.le_refl _, fun post _ f o ok h => ⟨f, h⟩⟩
  | @flat ps cs ws tale hB ih =>
    intro hG hl hH
    have et : thgs (ps ++ [.flat ws tale]) = thgs ps := by rw [thgs_snoc]; exact List.append_nil _
    rw [et] at hl hH ⊢
    have hp := hG _ (List.mem_append_right _ (.head _))
    obtain ⟨nx, h1, h2, h3⟩ := ih (fun p hp => hG p (List.mem_append_left _ hp)) hl hH
    refine ⟨nx, h1, h2, fun post hc f o ok h => ?_⟩
    rw [List.append_assoc] at h ⊢
    have hd : (cs ++ (ws ++ post)).drop cs.length = ws ++ post := List.drop_left
    rw [List.length_append] at h
    obtain ⟨f', h'⟩ : ∃ f', Run (cs ++ (ws ++ post)) ths f' cs.length nx (tale ++ o) ok := by
      cases hp with
      | plain c k h1 h2 h3 =>
        rw [List.length_replicate] at h
        exact run_flat (by omega) k f cs.length hd h
      | pct => exact ⟨f + 1, run_pct hc hd h⟩
    rw [due_snoc, List.append_assoc]
    exact h3 _ (flat_cl hp hc) f' _ ok h'
  | @spec ps cs tale st th fl hB hf ih =>
    intro hG hl hH
    have et : thgs (ps ++ [.spec st th tale]) = thgs ps ++ [th] := by rw [thgs_snoc]; rfl
    rw [et] at hl hH ⊢
    rw [List.length_append, List.length_singleton] at hl
    have hp := hG _ (List.mem_append_right _ (.head _))
    have hb := pos_bd (rv := rv) (n := n) (k := (thgs ps).length) (by omega) hn
    obtain ⟨nx, h1, h2, h3⟩ := ih (fun p hp => hG p (List.mem_append_left _ hp)) (by omega) (fun j T h => hH j T (by rw [List.getElem?_append_left (List.getElem?_eq_some_iff.mp h).1]; exact h))
    refine ⟨posOf rv n (thgs ps).length + 1, fun h => ?_, by omega, fun post hc f o ok h => ?_⟩
    · rw [ord_pos hn (by omega) h, List.length_append, List.length_singleton]
      omega
    · have ht := hH (thgs ps).length th (by rw [List.getElem?_append_right (Nat.le_refl _), Nat.sub_self]; rfl)
      rw [show cs ++ [37] ++ sgn (fieldT fl (posOf rv n (thgs ps).length) ++ st) ++ post = cs ++ (37 :: (sgn (fieldT fl (posOf rv n (thgs ps).length) ++ st) ++ post)) by simp only [List.append_assoc, List.cons_append, List.nil_append]] at h ⊢
      rw [List.length_append, List.length_append, List.length_singleton, Nat.add_assoc] at h
      have hd : (cs ++ (37 :: (sgn (fieldT fl (posOf rv n (thgs ps).length) ++ st) ++ post))).drop cs.length = _ := List.drop_left
      rw [due_snoc, List.append_assoc]
      exact h3 _ (Cl.cons (by decide)) (f + 1) _ ok (run_spec hp hb.1 hb.2 hc hd (fun e => by rw [h1 (hf e), ord_pos hn (by omega) (hf e)]) ht h)
theorem perm_pos {rv : Bool} {ths : List Thg} (h : ths.length ≤ 5) (j : Nat) (T : Thg) (hT : ths[j]? = some T) : (permT rv ths)[(posOf rv ths.length j).toNat]? = some T := by
  have hj := (List.getElem?_eq_some_iff.mp hT).1
  unfold permT posOf
  cases rv
  · simp only [Bool.false_eq_true, if_false, Int.toNat_natCast]; exact hT
  · simp only [if_true]
    rw [List.getElem?_reverse (by omega), ← hT]
    congr 1
    omega
theorem law_runs {rv : Bool} {ps : List Prt} {cs : List Int} (hG : ∀ p ∈ ps, PGood p) (hl : ps.length ≤ 5) (hB : Built rv (thgs ps).length ps cs) :
    (∃ f, Run cs (permT rv (thgs ps)) f 0 0 (dueOf ps) true) ∧ (∃ f, Run cs (permT rv (thgs ps) ++ [.any]) f 0 0 (dueOf ps) true) ∧
    (∃ f o, Run (cs ++ sgn (endT (((thgs ps).length : Int) + 1))) (permT rv (thgs ps)) f 0 0 o false ∧ o.length ≤ 5000) ∧
    (∃ f o, Run (cs ++ [37]) (permT rv (thgs ps)) f 0 0 o false ∧ o.length ≤ 5000) ∧ (∃ f o, Run (cs ++ [37, 113]) (permT rv (thgs ps)) f 0 0 o false ∧ o.length ≤ 5000) := by
  have hn : (thgs ps).length ≤ 5 := Nat.le_trans (List.length_filterMap_le _ _) hl
  have hdl : (dueOf ps ++ []).length ≤ 5000 := by
    rw [List.append_nil]
    have := due_len ps hG
    omega
  have hpl : (permT rv (thgs ps)).length = (thgs ps).length := by unfold permT; split <;> simp
  have hH : ∀ (j : Nat) (T : Thg), (thgs ps)[j]? = some T → (permT rv (thgs ps))[(posOf rv (thgs ps).length j).toNat]? = some T := perm_pos hn
  obtain ⟨nx, h1, h2, h3⟩ := built_run hn hB hG (Nat.le_refl _) hH
  obtain ⟨nx', h1', h2', h3'⟩ := built_run (ths := permT rv (thgs ps) ++ [.any]) hn hB hG (Nat.le_refl _) (fun j T h => by
    have := hH j T h
    rw [List.getElem?_append_left (List.getElem?_eq_some_iff.mp this).1]
    exact this)
  refine ⟨?_, ?_, ?_, ?_, ?_⟩
  · have := h3 [] Cl.nil 0 [] true (.inl ⟨by rw [List.append_nil]; exact Nat.le_refl _, rfl, rfl⟩)
    rw [List.append_nil, List.append_nil] at this
    exact this
  · have := h3' [] Cl.nil 0 [] true (.inl ⟨by rw [List.append_nil]; exact Nat.le_refl _, rfl, rfl⟩)
    rw [List.append_nil, List.append_nil] at this
    exact this
  · have e : sgn (endT (((thgs ps).length : Int) + 1)) = 37 :: ([49 + ((thgs ps).length : Int), 36] ++ [100]) := by
      have h' : (thgs ps).length = 0 ∨ (thgs ps).length = 1 ∨ (thgs ps).length = 2 ∨ (thgs ps).length = 3 ∨ (thgs ps).length = 4 ∨ (thgs ps).length = 5 := by omega
      rcases h' with h | h | h | h | h | h <;> rw [h] <;> decide +kernel
    rw [e]
    have hd : (cs ++ (37 :: ([49 + ((thgs ps).length : Int), 36] ++ [100]))).drop cs.length = _ := List.drop_left
    have z := parse_field (k := cs.length + 1) (y := 49 + ((thgs ps).length : Int)) (post := []) (wrd_one (c := 100) (by decide) (by decide) (by decide) (by decide) (by decide) (by decide)) Cl.nil (isDig_of (by omega) (by omega)) (by omega) (drop_go (D := [37]) hd)
    obtain ⟨f', h'⟩ := h3 (37 :: ([49 + ((thgs ps).length : Int), 36] ++ [100])) (Cl.cons (by decide)) 1 [] false (run_word (f := 0) hd z.1 (.inr (.inr (.inl ⟨by rw [z.2.1]; show Str.mk #[Int.toNat 100] = Str.ofString "d"; decide +kernel, by
      rw [z.2.1, hpl]
      show _ ≤ plc ⟨49 + ((thgs ps).length : Int) - 49, _, _, _, _, _, _, _, _⟩ nx
      unfold plc
      dsimp only
      rw [if_neg (by omega)]
      omega, rfl⟩))))
    exact ⟨f', _, h', hdl⟩
  · have hd : (cs ++ [37]).drop cs.length = [37] := List.drop_left
    obtain ⟨f', h'⟩ := h3 [37] (Cl.cons (by decide)) 0 [] false (.inr ⟨by rw [List.length_append]; rfl, (getD_drop hd).1, rfl⟩)
    exact ⟨f', _, h', hdl⟩
  · have hd : (cs ++ [37, 113]).drop cs.length = [37, 113] := List.drop_left
    have z := parse_plain (k := cs.length + 1) (Fl := []) (Wd := []) (P := []) (post := []) (wrd_one (c := 113) (by decide) (by decide) (by decide) (by decide) (by decide) (by decide)) Cl.nil (drop_go (D := [37]) hd)
    obtain ⟨f', h'⟩ := h3 [37, 113] (Cl.cons (by decide)) 1 [] false (run_word (f := 0) hd z.1 (.inr (.inl ⟨by rw [z.2.1]; decide +kernel, rfl⟩)))
    exact ⟨f', _, h', hdl⟩
theorem law_run6 : ∃ f o, Run [37, 100] [.txt [49]] f 0 0 o false ∧ o.length ≤ 5000 := by
  have hd : ([37, 100] : List Int).drop 0 = [37] ++ [100] := rfl
  have z := parse_plain (k := 0 + 1) (Fl := []) (Wd := []) (P := []) (post := []) (wrd_one (c := 100) (by decide) (by decide) (by decide) (by decide) (by decide) (by decide)) Cl.nil (drop_go (D := [37]) hd)
  have e : plc (rsSD [37, 100] (0 + 1)) 0 = 0 := by rw [z.2.1]; rfl
  exact ⟨1, [], run_word (f := 0) hd z.1 (.inr (.inr (.inr (.inl ⟨by rw [z.2.1]; decide +kernel, by rw [e]; exact Int.le_refl _, ⟨[49], by rw [e]; rfl⟩, rfl⟩)))), by decide⟩
end
section
theorem ne_cell {g h : Heap} {L a c : Addr} {l : List (Addr × Obj)} {xs : Array Value} {k : Nat} {oc : Obj} {v : Option Value} (N : News g L h l) (ha : (a, listOf xs k) ∈ l) (hc : (c, oc) ∈ l) (hd : oc.data = .cell v) : @Ne Nat a c := fun e => by
  have h1 := (N _ ha).1
  have h2 := (N _ hc).1
  dsimp only at h1 h2
  rw [show a = c from e, h2] at h1
  rw [Option.some.inj h1] at hd
  cases hd
theorem law_walk {w : World} {s : Shared} {g : Heap} {L fa sc : Addr} {cd : Value} {oc1 oc2 : Obj} {vs : List Value} {ns : List Int} {loose : List Str} {mean : ExcName → Option Value} {mg mb : Str → Option Value} {p : Program} {PQ : Flow → Shared → Prop} {PE : Value → Shared → Prop}
  (B : Below callerA g [] g) (X : (heapK w.params).In g) (T : Top p loose mean mg mb g)
  (F : Fr g L s.heap (fun y => if y = Str.ofString "script" then some (.ref sc) else none))
  (hc1 : oc1.data = .cell none) (hc2 : oc2.data = .cell none)
  (N : News g L s.heap [(L + 1 + 1, oc1), (L + 1, oc2)])
  (hl : g.IsList sc vs.toArray) (hi : IntsAre vs ns) (hn : ns.length ≤ 63)
  (hPE : PassesOwn (model PySem.Challenge.rw_np0086_01.row.prog w) (callerA.deeper (envOfC (Str.ofString "law") s600 L fa cd)) (envOfC (Str.ofString "law") s600 L fa cd) PE)
  (hPQ : ∀ m' nw h' tk', Fr g L h' m' → News g L h' nw → PQ (.ret (.bool true)) { s with heap := h', toks := tk' }) :
  wpAny (model PySem.Challenge.rw_np0086_01.row.prog w) (callerA.deeper (envOfC (Str.ofString "law") s600 L fa cd)) (execs b600 (envOfC (Str.ofString "law") s600 L fa cd)) PQ PE s := by
  set_option simprocs false in dsimp only [b600, qb600]
  obtain ⟨h₁, gens, drawn, tk, os⟩ := s
  (revert X; k_fill; intro X)
  refine cutA (fun Z => ∀ (dk : Addr) (vs : List Value) (ds : List Int) (k : Nat) (o1 : Obj) h' tk' m', Fr g L h' (over m' [(Str.ofString "script", .ref sc)]) → News g L h' [(dk, listOf (List.toArray vs) k), (L + 1 + 1, oc1), (L + 1, o1)] → o1.data = .cell (some (.ref dk)) → Dk vs ds → (@Ne Nat (L + 1 + 1) dk) → (@Ne Nat (L + 1) dk) → Z h' tk') ?_ ?_
  · intro Z hZ
    repeat' (first | ((with_reducible show wpAny _ _ (call (Value.ref 552) _) _ _ _); k_dflt (refine deck_c (by k_asm) (by k_asm) (by k_asm) (by k_asm) (by k_asm) (by rfl) (by walk_at "ISLIST") (by assumption) (by omega) (by ktr_room) (by ktr_units) ?_); intro r' ws' ds' k' h' tk' F' N' o1' hD'; (have n1' := offN o1'); (try simp only [OffN, and_true] at n1'); (try dsimp only)) | ((with_reducible show wpAny _ _ (call (Value.ref 559) _) _ _ _); k_dflt (refine draw_u (by k_asm) (by k_asm) (by k_asm) (by k_asm) (by k_asm) (by rfl) (by k_updF) (by assumption) (by decide) (by decide) (by ktr_room) (by ktr_units) ?_); intro vs' ds' k' r' t' h' tk' hD' hr0' hr1' F' N'; (try dsimp only at N'); (try dsimp only)) | ((with_reducible show wpAny _ _ (subscriptTail _ (PySem.Expr.Slice none (some _) none _) (Value.ref _) (Value.ref _)) _ _ _); k_dflt (refine' kmk_slice_ints (s := ⟨_, _, _, _, _⟩) ?F ?N ?l IsPart.none (IsPart.int _ _) ?i (kmk_upto ?i2 ?h) rfl ?_ ?s ?t ?z; (case F => k_asm); (case N => k_asm); (case l => kmk_list); (case i => l_ints); (case i2 => assumption); (case h => omega); (case s => with_unfolding_all rfl); (case t => kmk_pure); (case z => kmk_size)); intro D' ws' h' F' N' l1 hI' hC' hL'; clear hC'; (try k_lt l1)) | ((with_reducible show wpAny _ _ (subscriptTail _ (PySem.Expr.Slice none (some _) none _) (Value.ref _) (Value.ref _)) _ _ _); k_dflt (refine' kmk_slice_ints (s := ⟨_, _, _, _, _⟩) ?F ?N ?l IsPart.none (IsPart.int _ _) ?i (kmk_upto ?i2 ?h) rfl ?_ ?s ?t ?z; (case F => k_asm); (case N => k_asm); (case l => kmk_list); (case i => l_ints); (case i2 => assumption); (case h => omega); (case s => with_unfolding_all rfl); (case t => kmk_pure); (case z => kmk_size)); intro D' ws' h' F' N' l1 hI' hC' hL'; clear hC'; (try k_lt l1)) | walk_at "K")
    exact hZ _ _ _ _ _ _ _ _ (frB (by assumption) (by rfl)) (ledA (by assumption) (by lcg_sub)) (by assumption) (by assumption) (by omega) (by omega)
  clear F N hi hl hc2
  intro dk vs ds k o1 h1 tk1 m1 F1 NL1 ho1 hD1 hd2 hd1
  refine cutA (fun Z => ∀ (po : Addr) (ys : List Value) (kp : Nat) (ps : List Prt) (vs : List Value) (ds : List Int) (k : Nat) (R : List (Addr × Obj)) h' tk' m', Fr g L h' (over m' [(Str.ofString "portions", .ref po)]) → News g L h' ((po, listOf (List.toArray ys) kp) :: (dk, listOf (List.toArray vs) k) :: (L + 1 + 1, oc1) :: (L + 1, o1) :: R) → Parts w R ys ps → (∀ p ∈ ps, PGood p) → ps.length ≤ 5 → Dk vs ds → (∀ q ∈ R, q.1 ≠ dk ∧ q.1 ≠ po ∧ q.1 ≠ L + 1 + 1 ∧ q.1 ≠ L + 1) → (@Ne Nat dk po) → (@Ne Nat (L + 1 + 1) po) → (@Ne Nat (L + 1) po) → Z h' tk') ?_ ?_
  · intro Z hZ
    refine LCg.Assign_ListComp_U (F₀ := F1) (by rfl) (by with_unfolding_all rfl) (by with_unfolding_all rfl) (by decide) (by rfl) (by decide) (by rfl) (by rfl) (by rfl) ?_
    repeat' ((fail_if_success (with_reducible show LCg.CompSrc _ _ _ _ _ _ _ _ _ _ _ _ _ _)); (first | ((with_reducible show wpAny _ _ (call (Value.ref 552) _) _ _ _); k_dflt (refine deck_c (by k_asm) (by k_asm) (by k_asm) (by k_asm) (by k_asm) (by rfl) (by walk_at "ISLIST") (by assumption) (by omega) (by ktr_room) (by ktr_units) ?_); intro r' ws' ds' k' h' tk' F' N' o1' hD'; (have n1' := offN o1'); (try simp only [OffN, and_true] at n1'); (try dsimp only)) | ((with_reducible show wpAny _ _ (call (Value.ref 559) _) _ _ _); k_dflt (refine draw_u (by k_asm) (by k_asm) (by k_asm) (by k_asm) (by k_asm) (by rfl) (by k_updF) (by assumption) (by decide) (by decide) (by ktr_room) (by ktr_units) ?_); intro vs' ds' k' r' t' h' tk' hD' hr0' hr1' F' N'; (try dsimp only at N'); (try dsimp only)) | ((with_reducible show wpAny _ _ (subscriptTail _ (PySem.Expr.Slice none (some _) none _) (Value.ref _) (Value.ref _)) _ _ _); k_dflt (refine' kmk_slice_ints (s := ⟨_, _, _, _, _⟩) ?F ?N ?l IsPart.none (IsPart.int _ _) ?i (kmk_upto ?i2 ?h) rfl ?_ ?s ?t ?z; (case F => k_asm); (case N => k_asm); (case l => kmk_list); (case i => l_ints); (case i2 => assumption); (case h => omega); (case s => with_unfolding_all rfl); (case t => kmk_pure); (case z => kmk_size)); intro D' ws' h' F' N' l1 hI' hC' hL'; clear hC'; (try k_lt l1)) | ((with_reducible show wpAny _ _ (subscriptTail _ (PySem.Expr.Slice none (some _) none _) (Value.ref _) (Value.ref _)) _ _ _); k_dflt (refine' kmk_slice_ints (s := ⟨_, _, _, _, _⟩) ?F ?N ?l IsPart.none (IsPart.int _ _) ?i (kmk_upto ?i2 ?h) rfl ?_ ?s ?t ?z; (case F => k_asm); (case N => k_asm); (case l => kmk_list); (case i => l_ints); (case i2 => assumption); (case h => omega); (case s => with_unfolding_all rfl); (case t => kmk_pure); (case z => kmk_size)); intro D' ws' h' F' N' l1 hI' hC' hL'; clear hC'; (try k_lt l1)) | walk_at "K"))
    rename IsRange _ _ _ _ _ _ _ _ => hrg
    rename Fr g L _ _ => F2
    rename News g L _ _ => N2
    rename (_ < (6 : Int)) => hr6
    rename Dk _ _ => hD2
    rename (0 ≤ _) => hr60
    refine LCg.CompSrc.range (by rfl) F2 N2 hrg (range_six hr60 hr6).1 (range_six hr60 hr6).2 (by rw [PySem.sizeLine_eq]; omega) fun g2 => ?_
    refine compRest_inv (JP w dk (L + 1 + 1) (L + 1) oc1 o1) _ ?_ ?_ _ 0 [] _ (Nat.zero_add _) ⟨[], _, _, _, [], ⟨rfl, fun _ _ h => by simp at h⟩, (fun _ h => nomatch h), rfl, hD2, rfl, fun _ h => nomatch h⟩
    · rintro i ys news hi ⟨ps, vs, ds, k, R, hP, hG, hpl, hD, rfl, hoff⟩ v I oI C oC D m₂ h tk E' ⟨t, rfl⟩ hC hx F N off ne
      clear F1 NL1 F2 N2
      obtain ⟨⟨a1, a2, a3⟩, ⟨b1, b2, b3⟩, ⟨c1, c2, c3⟩, off3⟩ := off
      have off3' := off3_mem off3
      repeat' ((fail_if_success (with_reducible show wpAny _ _ (call (Value.ref 588) _) _ _ _)); (first | ((with_reducible show wpAny _ _ (call (Value.ref 552) _) _ _ _); k_dflt (refine deck_c (by k_asm) (by k_asm) (by k_asm) (by k_asm) (by k_asm) (by rfl) (by walk_at "ISLIST") (by assumption) (by omega) (by ktr_room) (by ktr_units) ?_); intro r' ws' ds' k' h' tk' F' N' o1' hD'; (have n1' := offN o1'); (try simp only [OffN, and_true] at n1'); (try dsimp only)) | ((with_reducible show wpAny _ _ (call (Value.ref 559) _) _ _ _); k_dflt (refine draw_u (by k_asm) (by k_asm) (by k_asm) (by k_asm) (by k_asm) (by rfl) (by k_updF) (by assumption) (by decide) (by decide) (by ktr_room) (by ktr_units) ?_); intro vs' ds' k' r' t' h' tk' hD' hr0' hr1' F' N'; (try dsimp only at N'); (try dsimp only)) | ((with_reducible show wpAny _ _ (subscriptTail _ (PySem.Expr.Slice none (some _) none _) (Value.ref _) (Value.ref _)) _ _ _); k_dflt (refine' kmk_slice_ints (s := ⟨_, _, _, _, _⟩) ?F ?N ?l IsPart.none (IsPart.int _ _) ?i (kmk_upto ?i2 ?h) rfl ?_ ?s ?t ?z; (case F => k_asm); (case N => k_asm); (case l => kmk_list); (case i => l_ints); (case i2 => assumption); (case h => omega); (case s => with_unfolding_all rfl); (case t => kmk_pure); (case z => kmk_size)); intro D' ws' h' F' N' l1 hI' hC' hL'; clear hC'; (try k_lt l1)) | ((with_reducible show wpAny _ _ (subscriptTail _ (PySem.Expr.Slice none (some _) none _) (Value.ref _) (Value.ref _)) _ _ _); k_dflt (refine' kmk_slice_ints (s := ⟨_, _, _, _, _⟩) ?F ?N ?l IsPart.none (IsPart.int _ _) ?i (kmk_upto ?i2 ?h) rfl ?_ ?s ?t ?z; (case F => k_asm); (case N => k_asm); (case l => kmk_list); (case i => l_ints); (case i2 => assumption); (case h => omega); (case s => with_unfolding_all rfl); (case t => kmk_pure); (case z => kmk_size)); intro D' ws' h' F' N' l1 hI' hC' hL'; clear hC'; (try k_lt l1)) | walk_at "K"))
      k_dflt (refine lpart_c (rest := (I, oI) :: (C, oC) :: (D, LCg.lst ys) :: (L + 1 + 1, oc1) :: (L + 1, o1) :: R) (by k_asm) (by k_asm) (by k_asm) (by k_asm) (by k_asm) (by rfl) (by k_mem) hD ?_ (by ktr_room) (by ktr_units) ?_)
      · exact allC ⟨.head _, Ne.symm a1⟩ (allC ⟨.tail _ (.head _), Ne.symm a2⟩ (allC ⟨.tail _ (.tail _ (.head _)), Ne.symm a3⟩ (allC ⟨.tail _ (.tail _ (.tail _ (.tail _ (.head _)))), hd2⟩ (allC ⟨.tail _ (.tail _ (.tail _ (.tail _ (.tail _ (.head _))))), hd1⟩ fun q hq => ⟨.tail _ (.tail _ (.tail _ (.tail _ (.tail _ (.tail _ hq))))), (hoff q hq).1⟩))))
      · intro R' ra p vs' ds' k' h' tk' hD' hPI hPG F' N' ho' hoR
        (try dsimp only)
        repeat' (first | ((with_reducible show wpAny _ _ (call (Value.ref 552) _) _ _ _); k_dflt (refine deck_c (by k_asm) (by k_asm) (by k_asm) (by k_asm) (by k_asm) (by rfl) (by walk_at "ISLIST") (by assumption) (by omega) (by ktr_room) (by ktr_units) ?_); intro r' ws' ds' k' h' tk' F' N' o1' hD'; (have n1' := offN o1'); (try simp only [OffN, and_true] at n1'); (try dsimp only)) | ((with_reducible show wpAny _ _ (call (Value.ref 559) _) _ _ _); k_dflt (refine draw_u (by k_asm) (by k_asm) (by k_asm) (by k_asm) (by k_asm) (by rfl) (by k_updF) (by assumption) (by decide) (by decide) (by ktr_room) (by ktr_units) ?_); intro vs' ds' k' r' t' h' tk' hD' hr0' hr1' F' N'; (try dsimp only at N'); (try dsimp only)) | ((with_reducible show wpAny _ _ (subscriptTail _ (PySem.Expr.Slice none (some _) none _) (Value.ref _) (Value.ref _)) _ _ _); k_dflt (refine' kmk_slice_ints (s := ⟨_, _, _, _, _⟩) ?F ?N ?l IsPart.none (IsPart.int _ _) ?i (kmk_upto ?i2 ?h) rfl ?_ ?s ?t ?z; (case F => k_asm); (case N => k_asm); (case l => kmk_list); (case i => l_ints); (case i2 => assumption); (case h => omega); (case s => with_unfolding_all rfl); (case t => kmk_pure); (case z => kmk_size)); intro D' ws' h' F' N' l1 hI' hC' hL'; clear hC'; (try k_lt l1)) | ((with_reducible show wpAny _ _ (subscriptTail _ (PySem.Expr.Slice none (some _) none _) (Value.ref _) (Value.ref _)) _ _ _); k_dflt (refine' kmk_slice_ints (s := ⟨_, _, _, _, _⟩) ?F ?N ?l IsPart.none (IsPart.int _ _) ?i (kmk_upto ?i2 ?h) rfl ?_ ?s ?t ?z; (case F => k_asm); (case N => k_asm); (case l => kmk_list); (case i => l_ints); (case i2 => assumption); (case h => omega); (case s => with_unfolding_all rfl); (case t => kmk_pure); (case z => kmk_size)); intro D' ws' h' F' N' l1 hI' hC' hL'; clear hC'; (try k_lt l1)) | walk_at "K")
        have rI := fun q hq => hoR q hq _ (.head _)
        have rC := fun q hq => hoR q hq _ (.tail _ (.head _))
        have rD := fun q hq => hoR q hq _ (.tail _ (.tail _ (.head _)))
        have r2 := fun q hq => hoR q hq _ (.tail _ (.tail _ (.tail _ (.head _))))
        have r1 := fun q hq => hoR q hq _ (.tail _ (.tail _ (.tail _ (.tail _ (.head _)))))
        refine LCg.CompEnd.intro F' N' ((dk, listOf (List.toArray vs') k') :: (L + 1 + 1, oc1) :: (L + 1, o1) :: (R' ++ R)) ?_ ?_ trivial ⟨ps ++ [p], vs', ds', k', R' ++ R, hP.snoc hPI, ?_, by rw [List.length_append, hpl]; rfl, hD', rfl, ?_⟩
        · intro q hq
          simp only [List.mem_cons, List.mem_append] at hq ⊢
          rcases hq with h | h | h | h | h | h | h | h
          · exact .inr (.inl h)
          · exact .inr (.inr (.inl h))
          · exact .inr (.inr (.inr (.inl h)))
          · exact .inl (.inl h)
          · exact .inr (.inr (.inr (.inr (.inl h))))
          · exact .inr (.inr (.inr (.inr (.inr (.inl h)))))
          · exact .inl (.inr h)
          · exact .inr (.inr (.inr (.inr (.inr (.inr h)))))
        · refine ⟨⟨a1, a2, a3⟩, ⟨b1, b2, b3⟩, ⟨c1, c2, c3⟩, off3_of fun q hq => ?_⟩
          rcases List.mem_append.mp hq with hq | hq
          · exact ⟨rI q hq, rC q hq, rD q hq⟩
          · exact off3' q hq
        · intro q hq
          rcases List.mem_append.mp hq with hq | hq
          · exact hG q hq
          · rw [List.mem_singleton.mp hq]; exact hPG
        · intro q hq
          rcases List.mem_append.mp hq with hq | hq
          · exact ⟨ho' q hq, r2 q hq, r1 q hq⟩
          · exact hoff q hq
    · rintro ys news ⟨ps, vs, ds, k, R, hP, hG, hpl, hD, rfl, hoff⟩ D h tk F N oo
      clear F1 NL1 F2 N2
      dsimp only
      repeat' (first | ((with_reducible show wpAny _ _ (call (Value.ref 552) _) _ _ _); k_dflt (refine deck_c (by k_asm) (by k_asm) (by k_asm) (by k_asm) (by k_asm) (by rfl) (by walk_at "ISLIST") (by assumption) (by omega) (by ktr_room) (by ktr_units) ?_); intro r' ws' ds' k' h' tk' F' N' o1' hD'; (have n1' := offN o1'); (try simp only [OffN, and_true] at n1'); (try dsimp only)) | ((with_reducible show wpAny _ _ (call (Value.ref 559) _) _ _ _); k_dflt (refine draw_u (by k_asm) (by k_asm) (by k_asm) (by k_asm) (by k_asm) (by rfl) (by k_updF) (by assumption) (by decide) (by decide) (by ktr_room) (by ktr_units) ?_); intro vs' ds' k' r' t' h' tk' hD' hr0' hr1' F' N'; (try dsimp only at N'); (try dsimp only)) | ((with_reducible show wpAny _ _ (subscriptTail _ (PySem.Expr.Slice none (some _) none _) (Value.ref _) (Value.ref _)) _ _ _); k_dflt (refine' kmk_slice_ints (s := ⟨_, _, _, _, _⟩) ?F ?N ?l IsPart.none (IsPart.int _ _) ?i (kmk_upto ?i2 ?h) rfl ?_ ?s ?t ?z; (case F => k_asm); (case N => k_asm); (case l => kmk_list); (case i => l_ints); (case i2 => assumption); (case h => omega); (case s => with_unfolding_all rfl); (case t => kmk_pure); (case z => kmk_size)); intro D' ws' h' F' N' l1 hI' hC' hL'; clear hC'; (try k_lt l1)) | ((with_reducible show wpAny _ _ (subscriptTail _ (PySem.Expr.Slice none (some _) none _) (Value.ref _) (Value.ref _)) _ _ _); k_dflt (refine' kmk_slice_ints (s := ⟨_, _, _, _, _⟩) ?F ?N ?l IsPart.none (IsPart.int _ _) ?i (kmk_upto ?i2 ?h) rfl ?_ ?s ?t ?z; (case F => k_asm); (case N => k_asm); (case l => kmk_list); (case i => l_ints); (case i2 => assumption); (case h => omega); (case s => with_unfolding_all rfl); (case t => kmk_pure); (case z => kmk_size)); intro D' ws' h' F' N' l1 hI' hC' hL'; clear hC'; (try k_lt l1)) | walk_at "K")
      obtain ⟨kD, hkD⟩ : ∃ k, LCg.lst ys = listOf (List.toArray ys) k := ⟨_, rfl⟩
      rw [hkD] at N
      have ho := off1_mem oo
      exact hZ D ys kD ps vs ds k R _ _ _ (frB F (by rfl)) N hP hG (by omega) hD (fun q hq => ⟨(hoff q hq).1, ho q (.tail _ (.tail _ (.tail _ hq))), (hoff q hq).2⟩) (ho _ (.head _)) (ho _ (.tail _ (.head _))) (ho _ (.tail _ (.tail _ (.head _))))
  clear F1 NL1 hD1 k ds vs
  intro po ys kp ps vs ds k R h2 tk2 m2 F2 NL2 hP hG hpl hD hR hp3 hp2 hp1
  refine cutA (fun Z => ∀ (th : Addr) (zs : List Value) (kt : Nat) (o2 : Obj) h' tk' m', Fr g L h' (over m' [(Str.ofString "portions", .ref po)]) → News g L h' ((th, listOf (List.toArray zs) kt) :: (po, listOf (List.toArray ys) kp) :: (dk, listOf (List.toArray vs) k) :: (L + 1 + 1, o2) :: (L + 1, o1) :: R) → o2.data = .cell (some (.ref th)) → ThsAre w R zs (thgs ps) → (∀ q ∈ R, q.1 ≠ th) → (@Ne Nat dk th) → (@Ne Nat po th) → Z h' tk') ?_ ?_
  · intro Z hZ
    refine wpAny_Assign_Name ?_
    refine LCt.ListComp_T F2 (by with_unfolding_all rfl) (by decide) (by rfl) (by decide) (by rfl) ?_
    repeat' ((fail_if_success (with_reducible show LCt.CompSrcT _ _ _ _ _ _ _ _ _ _ _ _ _ _ _)); (first | ((with_reducible show wpAny _ _ (call (Value.ref 552) _) _ _ _); k_dflt (refine deck_c (by k_asm) (by k_asm) (by k_asm) (by k_asm) (by k_asm) (by rfl) (by walk_at "ISLIST") (by assumption) (by omega) (by ktr_room) (by ktr_units) ?_); intro r' ws' ds' k' h' tk' F' N' o1' hD'; (have n1' := offN o1'); (try simp only [OffN, and_true] at n1'); (try dsimp only)) | ((with_reducible show wpAny _ _ (call (Value.ref 559) _) _ _ _); k_dflt (refine draw_u (by k_asm) (by k_asm) (by k_asm) (by k_asm) (by k_asm) (by rfl) (by k_updF) (by assumption) (by decide) (by decide) (by ktr_room) (by ktr_units) ?_); intro vs' ds' k' r' t' h' tk' hD' hr0' hr1' F' N'; (try dsimp only at N'); (try dsimp only)) | ((with_reducible show wpAny _ _ (subscriptTail _ (PySem.Expr.Slice none (some _) none _) (Value.ref _) (Value.ref _)) _ _ _); k_dflt (refine' kmk_slice_ints (s := ⟨_, _, _, _, _⟩) ?F ?N ?l IsPart.none (IsPart.int _ _) ?i (kmk_upto ?i2 ?h) rfl ?_ ?s ?t ?z; (case F => k_asm); (case N => k_asm); (case l => kmk_list); (case i => l_ints); (case i2 => assumption); (case h => omega); (case s => with_unfolding_all rfl); (case t => kmk_pure); (case z => kmk_size)); intro D' ws' h' F' N' l1 hI' hC' hL'; clear hC'; (try k_lt l1)) | ((with_reducible show wpAny _ _ (subscriptTail _ (PySem.Expr.Slice none (some _) none _) (Value.ref _) (Value.ref _)) _ _ _); k_dflt (refine' kmk_slice_ints (s := ⟨_, _, _, _, _⟩) ?F ?N ?l IsPart.none (IsPart.int _ _) ?i (kmk_upto ?i2 ?h) rfl ?_ ?s ?t ?z; (case F => k_asm); (case N => k_asm); (case l => kmk_list); (case i => l_ints); (case i2 => assumption); (case h => omega); (case s => with_unfolding_all rfl); (case t => kmk_pure); (case z => kmk_size)); intro D' ws' h' F' N' l1 hI' hC' hL'; clear hC'; (try k_lt l1)) | walk_at "K"))
    refine LCt.CompSrcT.ledger (by rfl) F2 NL2 (.head _) (by show ys.length ≤ _; rw [hP.1, PySem.sizeLine_eq]; omega) fun g2 => ?_
    refine compRestT_inv (fun i zs nw => ThsAre w R zs (thgs (ps.take i)) ∧ nw = (po, listOf (List.toArray ys) kp) :: (dk, listOf (List.toArray vs) k) :: (L + 1 + 1, oc1) :: (L + 1, o1) :: R) ps.length ?_ ?_ _ 0 [] _ (by show 0 + ys.length = _; rw [hP.1]; omega) ⟨⟨rfl, fun _ _ h => by simp [thgs] at h⟩, rfl⟩
    · rintro i zs news hi ⟨hT, rfl⟩ v I oI C oC D m₂ h tk E' hv hC hx F N off ne
      clear F2 NL2
      obtain ⟨p, hp⟩ : ∃ p, ps[i]? = some p := ⟨_, List.getElem?_eq_getElem hi⟩
      obtain ⟨ra, hra, hPI⟩ := hP.2 i p hp
      have hv' : ys[i]? = some v := by simpa using hv
      obtain rfl : v = .ref ra := Option.some.inj (hv'.symm.trans hra)
      have htk := thgs_take hp
      rcases (hG p (List.mem_of_getElem? hp)).form with ⟨ws, tale, rfl⟩ | ⟨st, n, tale, rfl⟩ | ⟨st, l, tale, rfl⟩
      · obtain ⟨k0, a, b, k1, k2, us, us2, i1, i2, i3, i4, i5⟩ := hPI
        replace N := news_in N (.tail _ (.tail _ (.tail _ (.tail _ (.tail _ (.tail _ (.tail _ i1)))))))
        repeat' (first | ((with_reducible show wpAny _ _ (call (Value.ref 552) _) _ _ _); k_dflt (refine deck_c (by k_asm) (by k_asm) (by k_asm) (by k_asm) (by k_asm) (by rfl) (by walk_at "ISLIST") (by assumption) (by omega) (by ktr_room) (by ktr_units) ?_); intro r' ws' ds' k' h' tk' F' N' o1' hD'; (have n1' := offN o1'); (try simp only [OffN, and_true] at n1'); (try dsimp only)) | ((with_reducible show wpAny _ _ (call (Value.ref 559) _) _ _ _); k_dflt (refine draw_u (by k_asm) (by k_asm) (by k_asm) (by k_asm) (by k_asm) (by rfl) (by k_updF) (by assumption) (by decide) (by decide) (by ktr_room) (by ktr_units) ?_); intro vs' ds' k' r' t' h' tk' hD' hr0' hr1' F' N'; (try dsimp only at N'); (try dsimp only)) | ((with_reducible show wpAny _ _ (subscriptTail _ (PySem.Expr.Slice none (some _) none _) (Value.ref _) (Value.ref _)) _ _ _); k_dflt (refine' kmk_slice_ints (s := ⟨_, _, _, _, _⟩) ?F ?N ?l IsPart.none (IsPart.int _ _) ?i (kmk_upto ?i2 ?h) rfl ?_ ?s ?t ?z; (case F => k_asm); (case N => k_asm); (case l => kmk_list); (case i => l_ints); (case i2 => assumption); (case h => omega); (case s => with_unfolding_all rfl); (case t => kmk_pure); (case z => kmk_size)); intro D' ws' h' F' N' l1 hI' hC' hL'; clear hC'; (try k_lt l1)) | ((with_reducible show wpAny _ _ (subscriptTail _ (PySem.Expr.Slice none (some _) none _) (Value.ref _) (Value.ref _)) _ _ _); k_dflt (refine' kmk_slice_ints (s := ⟨_, _, _, _, _⟩) ?F ?N ?l IsPart.none (IsPart.int _ _) ?i (kmk_upto ?i2 ?h) rfl ?_ ?s ?t ?z; (case F => k_asm); (case N => k_asm); (case l => kmk_list); (case i => l_ints); (case i2 => assumption); (case h => omega); (case s => with_unfolding_all rfl); (case t => kmk_pure); (case z => kmk_size)); intro D' ws' h' F' N' l1 hI' hC' hL'; clear hC'; (try k_lt l1)) | walk_at "K")
        exact LCg.CompEnd.intro F N _ (fun _ h => .tail _ h) off (.inr ⟨_, .head _, rfl, _, rfl⟩) ⟨by rw [htk]; simpa [thgs] using hT, rfl⟩
      · obtain ⟨k0, t, v, a, k1, us, i1, ⟨tn, rfl⟩, i3, i4⟩ := hPI
        replace N := news_in N (.tail _ (.tail _ (.tail _ (.tail _ (.tail _ (.tail _ (.tail _ i1)))))))
        repeat' (first | ((with_reducible show wpAny _ _ (call (Value.ref 552) _) _ _ _); k_dflt (refine deck_c (by k_asm) (by k_asm) (by k_asm) (by k_asm) (by k_asm) (by rfl) (by walk_at "ISLIST") (by assumption) (by omega) (by ktr_room) (by ktr_units) ?_); intro r' ws' ds' k' h' tk' F' N' o1' hD'; (have n1' := offN o1'); (try simp only [OffN, and_true] at n1'); (try dsimp only)) | ((with_reducible show wpAny _ _ (call (Value.ref 559) _) _ _ _); k_dflt (refine draw_u (by k_asm) (by k_asm) (by k_asm) (by k_asm) (by k_asm) (by rfl) (by k_updF) (by assumption) (by decide) (by decide) (by ktr_room) (by ktr_units) ?_); intro vs' ds' k' r' t' h' tk' hD' hr0' hr1' F' N'; (try dsimp only at N'); (try dsimp only)) | ((with_reducible show wpAny _ _ (subscriptTail _ (PySem.Expr.Slice none (some _) none _) (Value.ref _) (Value.ref _)) _ _ _); k_dflt (refine' kmk_slice_ints (s := ⟨_, _, _, _, _⟩) ?F ?N ?l IsPart.none (IsPart.int _ _) ?i (kmk_upto ?i2 ?h) rfl ?_ ?s ?t ?z; (case F => k_asm); (case N => k_asm); (case l => kmk_list); (case i => l_ints); (case i2 => assumption); (case h => omega); (case s => with_unfolding_all rfl); (case t => kmk_pure); (case z => kmk_size)); intro D' ws' h' F' N' l1 hI' hC' hL'; clear hC'; (try k_lt l1)) | ((with_reducible show wpAny _ _ (subscriptTail _ (PySem.Expr.Slice none (some _) none _) (Value.ref _) (Value.ref _)) _ _ _); k_dflt (refine' kmk_slice_ints (s := ⟨_, _, _, _, _⟩) ?F ?N ?l IsPart.none (IsPart.int _ _) ?i (kmk_upto ?i2 ?h) rfl ?_ ?s ?t ?z; (case F => k_asm); (case N => k_asm); (case l => kmk_list); (case i => l_ints); (case i2 => assumption); (case h => omega); (case s => with_unfolding_all rfl); (case t => kmk_pure); (case z => kmk_size)); intro D' ws' h' F' N' l1 hI' hC' hL'; clear hC'; (try k_lt l1)) | walk_at "K")
        exact LCg.CompEnd.intro F N _ (fun _ h => .tail _ h) off (.inr ⟨_, .head _, rfl, _, rfl⟩) ⟨by rw [htk]; exact hT.snoc ⟨tn, rfl⟩, rfl⟩
      · obtain ⟨k0, t, v, a, k1, us, i1, ⟨y, dy, lt, ky, n, kq, vt, rfl, j1, j2, j3, j4⟩, i3, i4⟩ := hPI
        replace N := news_in N (.tail _ (.tail _ (.tail _ (.tail _ (.tail _ (.tail _ (.tail _ i1)))))))
        repeat' (first | ((with_reducible show wpAny _ _ (call (Value.ref 552) _) _ _ _); k_dflt (refine deck_c (by k_asm) (by k_asm) (by k_asm) (by k_asm) (by k_asm) (by rfl) (by walk_at "ISLIST") (by assumption) (by omega) (by ktr_room) (by ktr_units) ?_); intro r' ws' ds' k' h' tk' F' N' o1' hD'; (have n1' := offN o1'); (try simp only [OffN, and_true] at n1'); (try dsimp only)) | ((with_reducible show wpAny _ _ (call (Value.ref 559) _) _ _ _); k_dflt (refine draw_u (by k_asm) (by k_asm) (by k_asm) (by k_asm) (by k_asm) (by rfl) (by k_updF) (by assumption) (by decide) (by decide) (by ktr_room) (by ktr_units) ?_); intro vs' ds' k' r' t' h' tk' hD' hr0' hr1' F' N'; (try dsimp only at N'); (try dsimp only)) | ((with_reducible show wpAny _ _ (subscriptTail _ (PySem.Expr.Slice none (some _) none _) (Value.ref _) (Value.ref _)) _ _ _); k_dflt (refine' kmk_slice_ints (s := ⟨_, _, _, _, _⟩) ?F ?N ?l IsPart.none (IsPart.int _ _) ?i (kmk_upto ?i2 ?h) rfl ?_ ?s ?t ?z; (case F => k_asm); (case N => k_asm); (case l => kmk_list); (case i => l_ints); (case i2 => assumption); (case h => omega); (case s => with_unfolding_all rfl); (case t => kmk_pure); (case z => kmk_size)); intro D' ws' h' F' N' l1 hI' hC' hL'; clear hC'; (try k_lt l1)) | ((with_reducible show wpAny _ _ (subscriptTail _ (PySem.Expr.Slice none (some _) none _) (Value.ref _) (Value.ref _)) _ _ _); k_dflt (refine' kmk_slice_ints (s := ⟨_, _, _, _, _⟩) ?F ?N ?l IsPart.none (IsPart.int _ _) ?i (kmk_upto ?i2 ?h) rfl ?_ ?s ?t ?z; (case F => k_asm); (case N => k_asm); (case l => kmk_list); (case i => l_ints); (case i2 => assumption); (case h => omega); (case s => with_unfolding_all rfl); (case t => kmk_pure); (case z => kmk_size)); intro D' ws' h' F' N' l1 hI' hC' hL'; clear hC'; (try k_lt l1)) | walk_at "K")
        exact LCg.CompEnd.intro F N _ (fun _ h => .tail _ h) off (.inr ⟨_, .head _, rfl, _, rfl⟩) ⟨by rw [htk]; exact hT.snoc ⟨y, dy, lt, ky, n, kq, vt, rfl, j1, j2, j3, j4⟩, rfl⟩
    · rintro zs news ⟨hT, rfl⟩ D h tk F N oo
      clear F2 NL2
      dsimp only
      obtain ⟨kD, hkD⟩ : ∃ k, LCg.lst zs = listOf (List.toArray zs) k := ⟨_, rfl⟩
      rw [hkD] at N
      rw [List.take_length] at hT
      have ho := off1_mem oo
      k_dflt (refine storeX_C (c := L + 1 + 1) F N (by with_unfolding_all rfl) (.tail (Ne.symm (ho _ (.tail _ (.tail _ (.head _))))) (.tail (Ne.symm hp2) (.tail (Ne.symm hd2) (.head ?_)))) hc1 (fun h' o' F' N' d' => ?_))
      · intro q hq
        rcases List.mem_cons.mp hq with rfl | hq
        · exact (Nat.ne_of_lt (Nat.lt_succ_self _))
        · exact (hR q hq).2.2.1
      exact hZ D zs kD o' _ _ _ (frB F' (by rfl)) N' d' hT (fun q hq => ho q (.tail _ (.tail _ (.tail _ (.tail _ hq))))) (ho _ (.tail _ (.head _))) (ho _ (.head _))
  intro th zs kt o2 h3 tk3 m3 F3 NL3 ho2 hT hR3 ht3 ht2
  clear F2 NL2
  have hzl : zs.length ≤ 5 := by
    rw [hT.1]
    exact Nat.le_trans (List.length_filterMap_le _ _) hpl
  have hth5 : (thgs ps).length ≤ 5 := Nat.le_trans (List.length_filterMap_le _ _) hpl
  refine cutA (fun Z => ∀ (od : Addr) (vo : List Value) (ko : Nat) h' tk' m', Fr g L h' (over m' [(Str.ofString "order", .ref od), (Str.ofString "portions", .ref po)]) → News g L h' ((dk, listOf (List.toArray vs) k) :: (od, listOf (List.toArray vo) ko) :: (th, listOf (List.toArray zs) kt) :: (po, listOf (List.toArray ys) kp) :: (L + 1 + 1, o2) :: (L + 1, o1) :: R) → IntsAre vo (ordOf false (thgs ps).length) → (@Ne Nat od dk) → Z h' tk') ?_ ?_
  · intro Z hZ
    repeat' (first | ((with_reducible show wpAny _ _ (call (Value.ref 552) _) _ _ _); k_dflt (refine deck_c (by k_asm) (by k_asm) (by k_asm) (by k_asm) (by k_asm) (by rfl) (by walk_at "ISLIST") (by assumption) (by omega) (by ktr_room) (by ktr_units) ?_); intro r' ws' ds' k' h' tk' F' N' o1' hD'; (have n1' := offN o1'); (try simp only [OffN, and_true] at n1'); (try dsimp only)) | ((with_reducible show wpAny _ _ (call (Value.ref 559) _) _ _ _); k_dflt (refine draw_u (by k_asm) (by k_asm) (by k_asm) (by k_asm) (by k_asm) (by rfl) (by k_updF) (by assumption) (by decide) (by decide) (by ktr_room) (by ktr_units) ?_); intro vs' ds' k' r' t' h' tk' hD' hr0' hr1' F' N'; (try dsimp only at N'); (try dsimp only)) | ((with_reducible show wpAny _ _ (subscriptTail _ (PySem.Expr.Slice none (some _) none _) (Value.ref _) (Value.ref _)) _ _ _); k_dflt (refine' kmk_slice_ints (s := ⟨_, _, _, _, _⟩) ?F ?N ?l IsPart.none (IsPart.int _ _) ?i (kmk_upto ?i2 ?h) rfl ?_ ?s ?t ?z; (case F => k_asm); (case N => k_asm); (case l => kmk_list); (case i => l_ints); (case i2 => assumption); (case h => omega); (case s => with_unfolding_all rfl); (case t => kmk_pure); (case z => kmk_size)); intro D' ws' h' F' N' l1 hI' hC' hL'; clear hC'; (try k_lt l1)) | ((with_reducible show wpAny _ _ (subscriptTail _ (PySem.Expr.Slice none (some _) none _) (Value.ref _) (Value.ref _)) _ _ _); k_dflt (refine' kmk_slice_ints (s := ⟨_, _, _, _, _⟩) ?F ?N ?l IsPart.none (IsPart.int _ _) ?i (kmk_upto ?i2 ?h) rfl ?_ ?s ?t ?z; (case F => k_asm); (case N => k_asm); (case l => kmk_list); (case i => l_ints); (case i2 => assumption); (case h => omega); (case s => with_unfolding_all rfl); (case t => kmk_pure); (case z => kmk_size)); intro D' ws' h' F' N' l1 hI' hC' hL'; clear hC'; (try k_lt l1)) | walk_at "K")
    k_dflt (refine kun_lenL (k := ((thgs ps).length : Int)) (News.isList NL3 (.head _)) (by rw [← hT.1]; rfl) (by omega) ?_)
    (try dsimp only)
    repeat' (first | ((with_reducible show wpAny _ _ (call (Value.ref 552) _) _ _ _); k_dflt (refine deck_c (by k_asm) (by k_asm) (by k_asm) (by k_asm) (by k_asm) (by rfl) (by walk_at "ISLIST") (by assumption) (by omega) (by ktr_room) (by ktr_units) ?_); intro r' ws' ds' k' h' tk' F' N' o1' hD'; (have n1' := offN o1'); (try simp only [OffN, and_true] at n1'); (try dsimp only)) | ((with_reducible show wpAny _ _ (call (Value.ref 559) _) _ _ _); k_dflt (refine draw_u (by k_asm) (by k_asm) (by k_asm) (by k_asm) (by k_asm) (by rfl) (by k_updF) (by assumption) (by decide) (by decide) (by ktr_room) (by ktr_units) ?_); intro vs' ds' k' r' t' h' tk' hD' hr0' hr1' F' N'; (try dsimp only at N'); (try dsimp only)) | ((with_reducible show wpAny _ _ (subscriptTail _ (PySem.Expr.Slice none (some _) none _) (Value.ref _) (Value.ref _)) _ _ _); k_dflt (refine' kmk_slice_ints (s := ⟨_, _, _, _, _⟩) ?F ?N ?l IsPart.none (IsPart.int _ _) ?i (kmk_upto ?i2 ?h) rfl ?_ ?s ?t ?z; (case F => k_asm); (case N => k_asm); (case l => kmk_list); (case i => l_ints); (case i2 => assumption); (case h => omega); (case s => with_unfolding_all rfl); (case t => kmk_pure); (case z => kmk_size)); intro D' ws' h' F' N' l1 hI' hC' hL'; clear hC'; (try k_lt l1)) | ((with_reducible show wpAny _ _ (subscriptTail _ (PySem.Expr.Slice none (some _) none _) (Value.ref _) (Value.ref _)) _ _ _); k_dflt (refine' kmk_slice_ints (s := ⟨_, _, _, _, _⟩) ?F ?N ?l IsPart.none (IsPart.int _ _) ?i (kmk_upto ?i2 ?h) rfl ?_ ?s ?t ?z; (case F => k_asm); (case N => k_asm); (case l => kmk_list); (case i => l_ints); (case i2 => assumption); (case h => omega); (case s => with_unfolding_all rfl); (case t => kmk_pure); (case z => kmk_size)); intro D' ws' h' F' N' l1 hI' hC' hL'; clear hC'; (try k_lt l1)) | walk_at "K")
    exact hZ _ _ _ _ _ _ (frB (by assumption) (by rfl)) (ledA (by assumption) (by lcg_sub)) (by show IntsAre _ (rangeKs 0 _); rename IntsAre _ (rangeKs _ _) => hz; simpa using hz) (by omega)
  intro od vo ko h4 tk4 m4 F4 NL4 hvo hod
  clear F3 NL3
  have hU : ∀ q ∈ ((od, listOf (List.toArray vo) ko) :: (th, listOf (List.toArray zs) kt) :: (po, listOf (List.toArray ys) kp) :: (L + 1 + 1, o2) :: (L + 1, o1) :: R), q.1 ≠ dk := neC hod (neC (Ne.symm ht3) (neC (Ne.symm hp3) (neC hd2 (neC hd1 fun q hq => (hR q hq).1))))
  have hvl : vo.length = (thgs ps).length := by
    rw [hvo.length]
    show (rangeKs 0 _).length = _
    rw [rangeKs_length]
  have hvl5 : vo.length ≤ 5 := by omega
  refine cutA (fun Z => ∀ (rv : Bool) (od : Addr) (vo : List Value) (ko : Nat) (vs : List Value) (ds : List Int) (k : Nat) h' tk' m', Fr g L h' (over m' [(Str.ofString "order", .ref od), (Str.ofString "portions", .ref po)]) → News g L h' ((dk, listOf (List.toArray vs) k) :: (od, listOf (List.toArray vo) ko) :: (th, listOf (List.toArray zs) kt) :: (po, listOf (List.toArray ys) kp) :: (L + 1 + 1, o2) :: (L + 1, o1) :: R) → IntsAre vo (ordOf rv (thgs ps).length) → (@Ne Nat od dk) → Dk vs ds → Z h' tk') ?_ ?_
  · intro Z hZ
    repeat' ((fail_if_success (with_reducible show wpAny _ _ (call (Value.ref 559) _) _ _ _)); (first | ((with_reducible show wpAny _ _ (call (Value.ref 552) _) _ _ _); k_dflt (refine deck_c (by k_asm) (by k_asm) (by k_asm) (by k_asm) (by k_asm) (by rfl) (by walk_at "ISLIST") (by assumption) (by omega) (by ktr_room) (by ktr_units) ?_); intro r' ws' ds' k' h' tk' F' N' o1' hD'; (have n1' := offN o1'); (try simp only [OffN, and_true] at n1'); (try dsimp only)) | ((with_reducible show wpAny _ _ (call (Value.ref 559) _) _ _ _); k_dflt (refine draw_u (by k_asm) (by k_asm) (by k_asm) (by k_asm) (by k_asm) (by rfl) (by k_updF) (by assumption) (by decide) (by decide) (by ktr_room) (by ktr_units) ?_); intro vs' ds' k' r' t' h' tk' hD' hr0' hr1' F' N'; (try dsimp only at N'); (try dsimp only)) | ((with_reducible show wpAny _ _ (subscriptTail _ (PySem.Expr.Slice none (some _) none _) (Value.ref _) (Value.ref _)) _ _ _); k_dflt (refine' kmk_slice_ints (s := ⟨_, _, _, _, _⟩) ?F ?N ?l IsPart.none (IsPart.int _ _) ?i (kmk_upto ?i2 ?h) rfl ?_ ?s ?t ?z; (case F => k_asm); (case N => k_asm); (case l => kmk_list); (case i => l_ints); (case i2 => assumption); (case h => omega); (case s => with_unfolding_all rfl); (case t => kmk_pure); (case z => kmk_size)); intro D' ws' h' F' N' l1 hI' hC' hL'; clear hC'; (try k_lt l1)) | ((with_reducible show wpAny _ _ (subscriptTail _ (PySem.Expr.Slice none (some _) none _) (Value.ref _) (Value.ref _)) _ _ _); k_dflt (refine' kmk_slice_ints (s := ⟨_, _, _, _, _⟩) ?F ?N ?l IsPart.none (IsPart.int _ _) ?i (kmk_upto ?i2 ?h) rfl ?_ ?s ?t ?z; (case F => k_asm); (case N => k_asm); (case l => kmk_list); (case i => l_ints); (case i2 => assumption); (case h => omega); (case s => with_unfolding_all rfl); (case t => kmk_pure); (case z => kmk_size)); intro D' ws' h' F' N' l1 hI' hC' hL'; clear hC'; (try k_lt l1)) | walk_at "K"))
    k_dflt (refine draw_u (by k_asm) (by k_asm) (by k_asm) (by k_asm) (by k_asm) (by rfl) (.head hU) hD (by decide) (by decide) (by ktr_room) (by ktr_units) ?_)
    intro vs' ds' k' r' t' h' tk' hD' hr0' hr1' F' N'
    (try dsimp only at N')
    (try dsimp only)
    repeat' (first | ((with_reducible show wpAny _ _ (call (Value.ref 552) _) _ _ _); k_dflt (refine deck_c (by k_asm) (by k_asm) (by k_asm) (by k_asm) (by k_asm) (by rfl) (by walk_at "ISLIST") (by assumption) (by omega) (by ktr_room) (by ktr_units) ?_); intro r' ws' ds' k' h' tk' F' N' o1' hD'; (have n1' := offN o1'); (try simp only [OffN, and_true] at n1'); (try dsimp only)) | ((with_reducible show wpAny _ _ (call (Value.ref 559) _) _ _ _); k_dflt (refine draw_u (by k_asm) (by k_asm) (by k_asm) (by k_asm) (by k_asm) (by rfl) (by k_updF) (by assumption) (by decide) (by decide) (by ktr_room) (by ktr_units) ?_); intro vs' ds' k' r' t' h' tk' hD' hr0' hr1' F' N'; (try dsimp only at N'); (try dsimp only)) | ((with_reducible show wpAny _ _ (subscriptTail _ (PySem.Expr.Slice none (some _) none _) (Value.ref _) (Value.ref _)) _ _ _); k_dflt (refine' kmk_slice_ints (s := ⟨_, _, _, _, _⟩) ?F ?N ?l IsPart.none (IsPart.int _ _) ?i (kmk_upto ?i2 ?h) rfl ?_ ?s ?t ?z; (case F => k_asm); (case N => k_asm); (case l => kmk_list); (case i => l_ints); (case i2 => assumption); (case h => omega); (case s => with_unfolding_all rfl); (case t => kmk_pure); (case z => kmk_size)); intro D' ws' h' F' N' l1 hI' hC' hL'; clear hC'; (try k_lt l1)) | ((with_reducible show wpAny _ _ (subscriptTail _ (PySem.Expr.Slice none (some _) none _) (Value.ref _) (Value.ref _)) _ _ _); k_dflt (refine' kmk_slice_ints (s := ⟨_, _, _, _, _⟩) ?F ?N ?l IsPart.none (IsPart.int _ _) ?i (kmk_upto ?i2 ?h) rfl ?_ ?s ?t ?z; (case F => k_asm); (case N => k_asm); (case l => kmk_list); (case i => l_ints); (case i2 => assumption); (case h => omega); (case s => with_unfolding_all rfl); (case t => kmk_pure); (case z => kmk_size)); intro D' ws' h' F' N' l1 hI' hC' hL'; clear hC'; (try k_lt l1)) | walk_at "K")
    · ((refine wpAny_execs_cons ?_); repeat' (first | ((with_reducible show wpAny _ _ (call (Value.ref 552) _) _ _ _); k_dflt (refine deck_c (by k_asm) (by k_asm) (by k_asm) (by k_asm) (by k_asm) (by rfl) (by walk_at "ISLIST") (by assumption) (by omega) (by ktr_room) (by ktr_units) ?_); intro r' ws' ds' k' h' tk' F' N' o1' hD'; (have n1' := offN o1'); (try simp only [OffN, and_true] at n1'); (try dsimp only)) | ((with_reducible show wpAny _ _ (call (Value.ref 559) _) _ _ _); k_dflt (refine draw_u (by k_asm) (by k_asm) (by k_asm) (by k_asm) (by k_asm) (by rfl) (by k_updF) (by assumption) (by decide) (by decide) (by ktr_room) (by ktr_units) ?_); intro vs' ds' k' r' t' h' tk' hD' hr0' hr1' F' N'; (try dsimp only at N'); (try dsimp only)) | ((with_reducible show wpAny _ _ (subscriptTail _ (PySem.Expr.Slice none (some _) none _) (Value.ref _) (Value.ref _)) _ _ _); k_dflt (refine' kmk_slice_ints (s := ⟨_, _, _, _, _⟩) ?F ?N ?l IsPart.none (IsPart.int _ _) ?i (kmk_upto ?i2 ?h) rfl ?_ ?s ?t ?z; (case F => k_asm); (case N => k_asm); (case l => kmk_list); (case i => l_ints); (case i2 => assumption); (case h => omega); (case s => with_unfolding_all rfl); (case t => kmk_pure); (case z => kmk_size)); intro D' ws' h' F' N' l1 hI' hC' hL'; clear hC'; (try k_lt l1)) | ((with_reducible show wpAny _ _ (subscriptTail _ (PySem.Expr.Slice none (some _) none _) (Value.ref _) (Value.ref _)) _ _ _); k_dflt (refine' kmk_slice_ints (s := ⟨_, _, _, _, _⟩) ?F ?N ?l IsPart.none (IsPart.int _ _) ?i (kmk_upto ?i2 ?h) rfl ?_ ?s ?t ?z; (case F => k_asm); (case N => k_asm); (case l => kmk_list); (case i => l_ints); (case i2 => assumption); (case h => omega); (case s => with_unfolding_all rfl); (case t => kmk_pure); (case z => kmk_size)); intro D' ws' h' F' N' l1 hI' hC' hL'; clear hC'; (try k_lt l1)) | walk_at "K"))
      rename IntsAre _ (List.reverse _) => hz
      exact hZ true _ _ _ _ _ _ _ _ _ (frB (by assumption) (by rfl)) (ledA (by assumption) (by lcg_sub)) hz (by omega) (by assumption)
    · exact hZ false _ _ _ _ _ _ _ _ _ (frB (by assumption) (by rfl)) (ledA (by assumption) (fun _ h => h)) hvo hod (by assumption)
  intro rv od vo ko vs ds k h5 tk5 m5 F5 NL5 hvo hod hD
  clear F4 NL4 hU hvl hvl5
  ((refine wpAny_execs_cons ?_); repeat' (first | ((with_reducible show wpAny _ _ (call (Value.ref 552) _) _ _ _); k_dflt (refine deck_c (by k_asm) (by k_asm) (by k_asm) (by k_asm) (by k_asm) (by rfl) (by walk_at "ISLIST") (by assumption) (by omega) (by ktr_room) (by ktr_units) ?_); intro r' ws' ds' k' h' tk' F' N' o1' hD'; (have n1' := offN o1'); (try simp only [OffN, and_true] at n1'); (try dsimp only)) | ((with_reducible show wpAny _ _ (call (Value.ref 559) _) _ _ _); k_dflt (refine draw_u (by k_asm) (by k_asm) (by k_asm) (by k_asm) (by k_asm) (by rfl) (by k_updF) (by assumption) (by decide) (by decide) (by ktr_room) (by ktr_units) ?_); intro vs' ds' k' r' t' h' tk' hD' hr0' hr1' F' N'; (try dsimp only at N'); (try dsimp only)) | ((with_reducible show wpAny _ _ (subscriptTail _ (PySem.Expr.Slice none (some _) none _) (Value.ref _) (Value.ref _)) _ _ _); k_dflt (refine' kmk_slice_ints (s := ⟨_, _, _, _, _⟩) ?F ?N ?l IsPart.none (IsPart.int _ _) ?i (kmk_upto ?i2 ?h) rfl ?_ ?s ?t ?z; (case F => k_asm); (case N => k_asm); (case l => kmk_list); (case i => l_ints); (case i2 => assumption); (case h => omega); (case s => with_unfolding_all rfl); (case t => kmk_pure); (case z => kmk_size)); intro D' ws' h' F' N' l1 hI' hC' hL'; clear hC'; (try k_lt l1)) | ((with_reducible show wpAny _ _ (subscriptTail _ (PySem.Expr.Slice none (some _) none _) (Value.ref _) (Value.ref _)) _ _ _); k_dflt (refine' kmk_slice_ints (s := ⟨_, _, _, _, _⟩) ?F ?N ?l IsPart.none (IsPart.int _ _) ?i (kmk_upto ?i2 ?h) rfl ?_ ?s ?t ?z; (case F => k_asm); (case N => k_asm); (case l => kmk_list); (case i => l_ints); (case i2 => assumption); (case h => omega); (case s => with_unfolding_all rfl); (case t => kmk_pure); (case z => kmk_size)); intro D' ws' h' F' N' l1 hI' hC' hL'; clear hC'; (try k_lt l1)) | walk_at "K"))
  rename Fr g L _ _ => F6
  rename News g L _ _ => N6
  refine forListA (ax := po) (its := List.toArray ys) (ka := kp) (fun i Z => ∀ (ca da : Addr) (cvs dvs : List Value) (kc kd : Nat) (cs : List Int) (vs : List Value) (ds : List Int) (k : Nat) (t : Tok) m',
      IntsAre cvs cs → Built rv (thgs ps).length (ps.take i) cs → cs.length ≤ 100 * i → IntsAre dvs (dueOf (ps.take i)) → Dk vs ds → (@Ne Nat ca dk) → (@Ne Nat da dk) →
      Z (over m' [(Str.ofString "codes", .ref ca), (Str.ofString "due", .ref da), (Str.ofString "seen", .int ((thgs (ps.take i)).length : Int) t), (Str.ofString "order", .ref od)])
        ((dk, listOf (List.toArray vs) k) :: (ca, listOf (List.toArray cvs) kc) :: (da, listOf (List.toArray dvs) kd) :: (od, listOf (List.toArray vo) ko) :: (th, listOf (List.toArray zs) kt) :: (po, listOf (List.toArray ys) kp) :: (L + 1 + 1, o2) :: (L + 1, o1) :: R))
      (fun _ _ c9 ca da cvs dvs kc kd cs vs ds k t m' x1 x2 x3 x4 x5 x6 x7 => c9 _ _ fun _ q9 => q9 ca da cvs dvs kc kd cs vs ds k t m' x1 x2 x3 x4 x5 x6 x7) F6 (by rfl) ?_ ?_ ?_ ?_ hPE
  · intros
    exact .tail _ (.tail _ (.tail _ (.tail _ (.tail _ (.head _)))))
  · intro Z hZ
    (first | ((with_reducible show wpAny _ _ (call (Value.ref 552) _) _ _ _); k_dflt (refine deck_c (by k_asm) (by k_asm) (by k_asm) (by k_asm) (by k_asm) (by rfl) (by walk_at "ISLIST") (by assumption) (by omega) (by ktr_room) (by ktr_units) ?_); intro r' ws' ds' k' h' tk' F' N' o1' hD'; (have n1' := offN o1'); (try simp only [OffN, and_true] at n1'); (try dsimp only)) | ((with_reducible show wpAny _ _ (call (Value.ref 559) _) _ _ _); k_dflt (refine draw_u (by k_asm) (by k_asm) (by k_asm) (by k_asm) (by k_asm) (by rfl) (by k_updF) (by assumption) (by decide) (by decide) (by ktr_room) (by ktr_units) ?_); intro vs' ds' k' r' t' h' tk' hD' hr0' hr1' F' N'; (try dsimp only at N'); (try dsimp only)) | ((with_reducible show wpAny _ _ (subscriptTail _ (PySem.Expr.Slice none (some _) none _) (Value.ref _) (Value.ref _)) _ _ _); k_dflt (refine' kmk_slice_ints (s := ⟨_, _, _, _, _⟩) ?F ?N ?l IsPart.none (IsPart.int _ _) ?i (kmk_upto ?i2 ?h) rfl ?_ ?s ?t ?z; (case F => k_asm); (case N => k_asm); (case l => kmk_list); (case i => l_ints); (case i2 => assumption); (case h => omega); (case s => with_unfolding_all rfl); (case t => kmk_pure); (case z => kmk_size)); intro D' ws' h' F' N' l1 hI' hC' hL'; clear hC'; (try k_lt l1)) | ((with_reducible show wpAny _ _ (subscriptTail _ (PySem.Expr.Slice none (some _) none _) (Value.ref _) (Value.ref _)) _ _ _); k_dflt (refine' kmk_slice_ints (s := ⟨_, _, _, _, _⟩) ?F ?N ?l IsPart.none (IsPart.int _ _) ?i (kmk_upto ?i2 ?h) rfl ?_ ?s ?t ?z; (case F => k_asm); (case N => k_asm); (case l => kmk_list); (case i => l_ints); (case i2 => assumption); (case h => omega); (case s => with_unfolding_all rfl); (case t => kmk_pure); (case z => kmk_size)); intro D' ws' h' F' N' l1 hI' hC' hL'; clear hC'; (try k_lt l1)) | walk_at "K")
    refine ⟨rfl, hZ _ _ [] [] _ _ [] vs ds _ _ _ .nil .nil (Nat.zero_le _) .nil hD ?_ ?_ _ _ (frB F6 (by rfl)) (ledA N6 (by lcg_sub))⟩ <;> omega
  · intro i v h tk I oI ZE hv hZE ca da cvs dvs kc kd cs vs ds k t m₁ hcs hB hcl hdv hD hcd hdd off F N
    clear F6 N6
    have hi : i < ps.length := by
      have := (Array.getElem?_eq_some_iff.mp hv).1
      rw [← hP.1]
      exact this
    obtain ⟨p, hp⟩ : ∃ p, ps[i]? = some p := ⟨_, List.getElem?_eq_getElem hi⟩
    obtain ⟨ra, hra, hPI⟩ := hP.2 i p hp
    have hv' : ys[i]? = some v := by simpa using hv
    obtain rfl : v = .ref ra := Option.some.inj (hv'.symm.trans hra)
    have htk := thgs_take hp
    have hdl := hdv.length
    rcases p with ⟨ws, tale⟩ | ⟨st, tg, tale⟩
    · obtain ⟨k0, a, b, k1, k2, us, us2, i1, i2, i3, i4, i5⟩ := hPI
      have hRm := fun q (hq : q ∈ R) => List.Mem.tail (I, oI) (.tail (dk, listOf (List.toArray vs) k) (.tail (ca, listOf (List.toArray cvs) kc) (.tail (da, listOf (List.toArray dvs) kd) (.tail (od, listOf (List.toArray vo) ko) (.tail (th, listOf (List.toArray zs) kt) (.tail (po, listOf (List.toArray ys) kp) (.tail (L + 1 + 1, o2) (.tail (L + 1, o1) hq))))))))
      have N' := newsP N (hRm _ i1) (newsP N (hRm _ i2) (newsP N (hRm _ i4) N))
      clear N hRm
      have hwl := (hG _ (List.mem_of_getElem? hp)).flat_len
      have hdw := due_len (ps.take i) (fun p hp => hG p (List.mem_of_mem_take hp))
      rw [List.length_take] at hdw
      have hil := i3.length
      have hil2 := i5.length
      have hcvl := hcs.length
      repeat' (first | ((with_reducible show wpAny _ _ (call (Value.ref 552) _) _ _ _); k_dflt (refine deck_c (by k_asm) (by k_asm) (by k_asm) (by k_asm) (by k_asm) (by rfl) (by walk_at "ISLIST") (by assumption) (by omega) (by ktr_room) (by ktr_units) ?_); intro r' ws' ds' k' h' tk' F' N' o1' hD'; (have n1' := offN o1'); (try simp only [OffN, and_true] at n1'); (try dsimp only)) | ((with_reducible show wpAny _ _ (call (Value.ref 559) _) _ _ _); k_dflt (refine draw_u (by k_asm) (by k_asm) (by k_asm) (by k_asm) (by k_asm) (by rfl) (by k_updF) (by assumption) (by decide) (by decide) (by ktr_room) (by ktr_units) ?_); intro vs' ds' k' r' t' h' tk' hD' hr0' hr1' F' N'; (try dsimp only at N'); (try dsimp only)) | ((with_reducible show wpAny _ _ (subscriptTail _ (PySem.Expr.Slice none (some _) none _) (Value.ref _) (Value.ref _)) _ _ _); k_dflt (refine' kmk_slice_ints (s := ⟨_, _, _, _, _⟩) ?F ?N ?l IsPart.none (IsPart.int _ _) ?i (kmk_upto ?i2 ?h) rfl ?_ ?s ?t ?z; (case F => k_asm); (case N => k_asm); (case l => kmk_list); (case i => l_ints); (case i2 => assumption); (case h => omega); (case s => with_unfolding_all rfl); (case t => kmk_pure); (case z => kmk_size)); intro D' ws' h' F' N' l1 hI' hC' hL'; clear hC'; (try k_lt l1)) | ((with_reducible show wpAny _ _ (subscriptTail _ (PySem.Expr.Slice none (some _) none _) (Value.ref _) (Value.ref _)) _ _ _); k_dflt (refine' kmk_slice_ints (s := ⟨_, _, _, _, _⟩) ?F ?N ?l IsPart.none (IsPart.int _ _) ?i (kmk_upto ?i2 ?h) rfl ?_ ?s ?t ?z; (case F => k_asm); (case N => k_asm); (case l => kmk_list); (case i => l_ints); (case i2 => assumption); (case h => omega); (case s => with_unfolding_all rfl); (case t => kmk_pure); (case z => kmk_size)); intro D' ws' h' F' N' l1 hI' hC' hL'; clear hC'; (try k_lt l1)) | walk_at "K")
      ((refine wpAny_execs_cons ?_); repeat' (first | ((with_reducible show wpAny _ _ (call (Value.ref 552) _) _ _ _); k_dflt (refine deck_c (by k_asm) (by k_asm) (by k_asm) (by k_asm) (by k_asm) (by rfl) (by walk_at "ISLIST") (by assumption) (by omega) (by ktr_room) (by ktr_units) ?_); intro r' ws' ds' k' h' tk' F' N' o1' hD'; (have n1' := offN o1'); (try simp only [OffN, and_true] at n1'); (try dsimp only)) | ((with_reducible show wpAny _ _ (call (Value.ref 559) _) _ _ _); k_dflt (refine draw_u (by k_asm) (by k_asm) (by k_asm) (by k_asm) (by k_asm) (by rfl) (by k_updF) (by assumption) (by decide) (by decide) (by ktr_room) (by ktr_units) ?_); intro vs' ds' k' r' t' h' tk' hD' hr0' hr1' F' N'; (try dsimp only at N'); (try dsimp only)) | ((with_reducible show wpAny _ _ (subscriptTail _ (PySem.Expr.Slice none (some _) none _) (Value.ref _) (Value.ref _)) _ _ _); k_dflt (refine' kmk_slice_ints (s := ⟨_, _, _, _, _⟩) ?F ?N ?l IsPart.none (IsPart.int _ _) ?i (kmk_upto ?i2 ?h) rfl ?_ ?s ?t ?z; (case F => k_asm); (case N => k_asm); (case l => kmk_list); (case i => l_ints); (case i2 => assumption); (case h => omega); (case s => with_unfolding_all rfl); (case t => kmk_pure); (case z => kmk_size)); intro D' ws' h' F' N' l1 hI' hC' hL'; clear hC'; (try k_lt l1)) | ((with_reducible show wpAny _ _ (subscriptTail _ (PySem.Expr.Slice none (some _) none _) (Value.ref _) (Value.ref _)) _ _ _); k_dflt (refine' kmk_slice_ints (s := ⟨_, _, _, _, _⟩) ?F ?N ?l IsPart.none (IsPart.int _ _) ?i (kmk_upto ?i2 ?h) rfl ?_ ?s ?t ?z; (case F => k_asm); (case N => k_asm); (case l => kmk_list); (case i => l_ints); (case i2 => assumption); (case h => omega); (case s => with_unfolding_all rfl); (case t => kmk_pure); (case z => kmk_size)); intro D' ws' h' F' N' l1 hI' hC' hL'; clear hC'; (try k_lt l1)) | walk_at "K"))
      ((refine wpAny_execs_cons ?_); repeat' (first | ((with_reducible show wpAny _ _ (call (Value.ref 552) _) _ _ _); k_dflt (refine deck_c (by k_asm) (by k_asm) (by k_asm) (by k_asm) (by k_asm) (by rfl) (by walk_at "ISLIST") (by assumption) (by omega) (by ktr_room) (by ktr_units) ?_); intro r' ws' ds' k' h' tk' F' N' o1' hD'; (have n1' := offN o1'); (try simp only [OffN, and_true] at n1'); (try dsimp only)) | ((with_reducible show wpAny _ _ (call (Value.ref 559) _) _ _ _); k_dflt (refine draw_u (by k_asm) (by k_asm) (by k_asm) (by k_asm) (by k_asm) (by rfl) (by k_updF) (by assumption) (by decide) (by decide) (by ktr_room) (by ktr_units) ?_); intro vs' ds' k' r' t' h' tk' hD' hr0' hr1' F' N'; (try dsimp only at N'); (try dsimp only)) | ((with_reducible show wpAny _ _ (subscriptTail _ (PySem.Expr.Slice none (some _) none _) (Value.ref _) (Value.ref _)) _ _ _); k_dflt (refine' kmk_slice_ints (s := ⟨_, _, _, _, _⟩) ?F ?N ?l IsPart.none (IsPart.int _ _) ?i (kmk_upto ?i2 ?h) rfl ?_ ?s ?t ?z; (case F => k_asm); (case N => k_asm); (case l => kmk_list); (case i => l_ints); (case i2 => assumption); (case h => omega); (case s => with_unfolding_all rfl); (case t => kmk_pure); (case z => kmk_size)); intro D' ws' h' F' N' l1 hI' hC' hL'; clear hC'; (try k_lt l1)) | ((with_reducible show wpAny _ _ (subscriptTail _ (PySem.Expr.Slice none (some _) none _) (Value.ref _) (Value.ref _)) _ _ _); k_dflt (refine' kmk_slice_ints (s := ⟨_, _, _, _, _⟩) ?F ?N ?l IsPart.none (IsPart.int _ _) ?i (kmk_upto ?i2 ?h) rfl ?_ ?s ?t ?z; (case F => k_asm); (case N => k_asm); (case l => kmk_list); (case i => l_ints); (case i2 => assumption); (case h => omega); (case s => with_unfolding_all rfl); (case t => kmk_pure); (case z => kmk_size)); intro D' ws' h' F' N' l1 hI' hC' hL'; clear hC'; (try k_lt l1)) | walk_at "K"))
      rename IntsAre _ (cs ++ ws) => hz1
      have hz1l := hz1.length
      rw [List.length_append] at hz1l
      ((refine wpAny_execs_cons ?_); repeat' (first | ((with_reducible show wpAny _ _ (call (Value.ref 552) _) _ _ _); k_dflt (refine deck_c (by k_asm) (by k_asm) (by k_asm) (by k_asm) (by k_asm) (by rfl) (by walk_at "ISLIST") (by assumption) (by omega) (by ktr_room) (by ktr_units) ?_); intro r' ws' ds' k' h' tk' F' N' o1' hD'; (have n1' := offN o1'); (try simp only [OffN, and_true] at n1'); (try dsimp only)) | ((with_reducible show wpAny _ _ (call (Value.ref 559) _) _ _ _); k_dflt (refine draw_u (by k_asm) (by k_asm) (by k_asm) (by k_asm) (by k_asm) (by rfl) (by k_updF) (by assumption) (by decide) (by decide) (by ktr_room) (by ktr_units) ?_); intro vs' ds' k' r' t' h' tk' hD' hr0' hr1' F' N'; (try dsimp only at N'); (try dsimp only)) | ((with_reducible show wpAny _ _ (subscriptTail _ (PySem.Expr.Slice none (some _) none _) (Value.ref _) (Value.ref _)) _ _ _); k_dflt (refine' kmk_slice_ints (s := ⟨_, _, _, _, _⟩) ?F ?N ?l IsPart.none (IsPart.int _ _) ?i (kmk_upto ?i2 ?h) rfl ?_ ?s ?t ?z; (case F => k_asm); (case N => k_asm); (case l => kmk_list); (case i => l_ints); (case i2 => assumption); (case h => omega); (case s => with_unfolding_all rfl); (case t => kmk_pure); (case z => kmk_size)); intro D' ws' h' F' N' l1 hI' hC' hL'; clear hC'; (try k_lt l1)) | ((with_reducible show wpAny _ _ (subscriptTail _ (PySem.Expr.Slice none (some _) none _) (Value.ref _) (Value.ref _)) _ _ _); k_dflt (refine' kmk_slice_ints (s := ⟨_, _, _, _, _⟩) ?F ?N ?l IsPart.none (IsPart.int _ _) ?i (kmk_upto ?i2 ?h) rfl ?_ ?s ?t ?z; (case F => k_asm); (case N => k_asm); (case l => kmk_list); (case i => l_ints); (case i2 => assumption); (case h => omega); (case s => with_unfolding_all rfl); (case t => kmk_pure); (case z => kmk_size)); intro D' ws' h' F' N' l1 hI' hC' hL'; clear hC'; (try k_lt l1)) | walk_at "K"))
      rename_i D1 w1 hx3 l1 hx2 tkx D2 w2 hx1 hz2 l2 h2 F2 N2
      have hse : thgs (ps.take (i + 1)) = thgs (ps.take i) := by rw [htk]; simp [thgs]
      have hta : ps.take (i + 1) = ps.take i ++ [.flat ws tale] := by rw [List.take_add_one, hp]; rfl
      exact hZE D1 D2 w1 w2 0 0 _ vs ds k t _ hz1 (by rw [hta]; exact .flat hB) (by rw [List.length_append]; omega) (by rw [due_take hp]; exact hz2) hD (by omega) (by omega) _ _ (frB F2 (by rw [hse]; rfl)) (ledA N2 (by lcg_sub)) ⟨off.1, Nat.ne_of_gt (by omega), Nat.ne_of_gt (by omega), off.2.2.2⟩
    · obtain ⟨k0, tt, v, a, k1, us, i1, hth, i3, i4⟩ := hPI
      have hRm := fun q (hq : q ∈ R) => List.Mem.tail (I, oI) (.tail (dk, listOf (List.toArray vs) k) (.tail (ca, listOf (List.toArray cvs) kc) (.tail (da, listOf (List.toArray dvs) kd) (.tail (od, listOf (List.toArray vo) ko) (.tail (th, listOf (List.toArray zs) kt) (.tail (po, listOf (List.toArray ys) kp) (.tail (L + 1 + 1, o2) (.tail (L + 1, o1) hq))))))))
      have N2 := newsP N (hRm _ i1) (newsP N (hRm _ i3) N)
      have hPG := hG _ (List.mem_of_getElem? hp)
      have hsf := hPG.spec_form
      have hkn : (thgs (ps.take i)).length < (thgs ps).length := by
        have a : (thgs (ps.take (i + 1))).length = (thgs (ps.take i)).length + 1 := by rw [htk, List.length_append]; rfl
        have b : (thgs (ps.take (i + 1))).length ≤ (thgs ps).length := ((List.take_sublist _ _).filterMap _).length_le
        omega
      have hdw := due_len (ps.take i) (fun p hp => hG p (List.mem_of_mem_take hp))
      rw [List.length_take] at hdw
      refine law_turn (e₀ := .Constant .none 0 ⟨0, 0, 0, 0⟩) (t := t) (tt := tt) (k0 := k0) (k1 := k1) (st := st) (v := v) (a := a) (us := us) (od := od) (ko := ko) (kk := k) (kc := kc) (kd := kd) (R := (th, listOf (List.toArray zs) kt) :: (po, listOf (List.toArray ys) kp) :: (L + 1 + 1, o2) :: R) (rv := rv) (n := (thgs ps).length) (k := (thgs (ps.take i)).length) (cs := cs) (due := dueOf (ps.take i)) (tale := tale) (ds := ds) (oI := oI) (I := I) B X T F (ledA N2 (by lcg_sub)) (hth.form hsf.2) (Nat.le_trans hsf.1 (by decide)) hD (neC (Ne.symm ht3) (neC (Ne.symm hp3) (neC hd2 fun q hq => (hR q hq).1))) (hR _ i1).1 (hR _ i3).1 hod (Ne.symm off.1) hcd hdd hd1 ho1 hvo hkn hth5 hcs (by omega) hdv (by omega) i4 hPG.tale_len hPE ?_
      · intro ca' da' cvs' dvs' f vs' ds' kk' t' h' tk' m' F' N' x1 x2 x3 x4 x5 x6 x7 x8
        have hse : (thgs (ps.take (i + 1))).length = (thgs (ps.take i)).length + 1 := by rw [htk, List.length_append]; rfl
        have hta : ps.take (i + 1) = ps.take i ++ [.spec st tg tale] := by rw [List.take_add_one, hp]; rfl
        have hfl := field_len f _ (pos_bd (rv := rv) hkn hth5).1 (pos_bd (rv := rv) hkn hth5).2
        have hsl := hsf.1
        have hzz : (sgn (fieldT f (posOf rv (thgs ps).length (thgs (ps.take i)).length) ++ st)).length ≤ 60 := by
          rw [sgn_len, str_app_size]
          omega
        exact hZE ca' da' cvs' dvs' 0 0 _ vs' ds' kk' t' m' x1 (by rw [hta]; exact .spec f hB x2) (by rw [List.length_append, List.length_append, List.length_singleton]; omega) (by rw [due_take hp]; exact x3) x4 x5 x6 _ _ (by rw [hse]; exact F') (ledA N' (by lcg_sub)) ⟨off.1, Ne.symm x7, Ne.symm x8, off.2.2.2⟩
  · intro ca da cvs dvs kc kd cs vs ds k t m7 hcs hB hcl hdv hD hcd hdd h7 tk7 F7 N7
    have es : ys.toArray.size = ps.length := hP.1
    rw [es, List.take_length] at hB hdv
    rw [es] at hcl
    obtain ⟨⟨f1, r1⟩, ⟨f2, r2⟩, ⟨f3, o3, r3, b3⟩, ⟨f4, o4, r4, b4⟩, ⟨f5, o5, r5, b5⟩⟩ := law_runs hG hpl hB
    obtain ⟨f6, o6, r6, b6⟩ := law_run6
    have hdw := due_len ps hG
    refine law_end (od := od) (ko := ko) (th := th) (zs := zs) (kt := kt) (ca := ca) (kc := kc) (da := da) (kd := kd) (o2 := o2) (R := R) (ths := thgs ps) (rv := rv) (cs := cs) (due := dueOf ps) B X T (frA F7 ⟨rfl, rfl, rfl, trivial⟩) (ledA N7 (by lcg_sub)) ho2 (ne_cell N7 (by k_mem) (.tail _ (.tail _ (.tail _ (.tail _ (.tail _ (.tail _ (.head _))))))) ho2) (ne_cell N7 (by k_mem) (.tail _ (.tail _ (.tail _ (.tail _ (.tail _ (.tail _ (.head _))))))) ho2) (ne_cell N7 (by k_mem) (.tail _ (.tail _ (.tail _ (.tail _ (.tail _ (.tail _ (.head _))))))) ho2) (ne_cell N7 (by k_mem) (.tail _ (.tail _ (.tail _ (.tail _ (.tail _ (.tail _ (.head _))))))) ho2) (fun q hq => (hR q hq).2.2.1) hvo hth5 hT hcs (by omega) hdv (by omega) r1 r2 r3 b3 r4 b4 r5 b5 r6 b6 hPE hPQ
end
section
theorem names_ok : namesOk viewQ (looseW viewQ looseQ) (namesW viewQ looseQ) = true := by
  rw [PySem.W.Fast.te17448422675489707002, PySem.W.Fast.te821141287760084731]
  kernel_rfl
theorem imports_no : importsNone viewQ = true := by
  rw [PySem.W.Fast.te2458874890965802552]
  kernel_rfl
local macro_rules | `(tactic| k_qdec) => `(tactic| with_reducible first | exact names_ok | exact imports_no)
theorem holds : PySem.Challenge.rw_np0086_01.Holds := by
  refine hd ?_
  k_go0
  rename Below callerA _ [] _ => K0
  rename (heapK _).In _ => KX
  rename Top viewQ _ _ _ _ _ => T
  rename Fr _ _ _ _ => F
  rename News _ _ _ _ => N0
  rename IntsAre _ _ => hI
  rename Heap.IsList _ _ _ => hL
  rename ¬ _ < (_ : Int) => hcond
  rename Shared.gens _ = #[] => hg
  refine law_walk (s := ⟨_, _, _, _, _⟩) K0 KX T ?_ ?_ ?_ N0 hL hI ?_ PassesOwn.leaving ?_
  · with_unfolding_all exact F
  · with_unfolding_all assumption
  · with_unfolding_all assumption
  · omega
  · intro m' nw h' tk' F' N'
    refine ⟨.inl ⟨.bool true, .bool true, [], rfl, fun _ => rfl, .bool true, ?_, ?_⟩, F'.keep, rfl, hg⟩
    · wrow_post
    · exact fun _ => ⟨List.nodup_nil, fun _ h => nomatch h⟩
end
end Mine
set_option maxRecDepth 100000 in
set_option maxHeartbeats 8000000 in
theorem PySem.Challenge.cw_np0086_01_holds : PySem.Challenge.rw_np0086_01.Holds :=
  Mine.holds
