/-
Part 6 of 8 of the texts for one claim: Xh.
-/
import Derived.Test.YtbpjicbpcfkpfaaCg5
set_option linter.unusedVariables false
set_option linter.unusedSimpArgs false
namespace Go.Proofs.Ytbpjicbpcfkpfaa.Ai
open Go Go.RowKit
noncomputable section
variable {τ:Type} (t:Nat) (nx ex:Nat→LS_→Option τ) (l:LS_) (k κ:Nat→LS_→Option τ)
def F16.ps:List PV2:=[]
def F16.sh:List PA:=[(PA.mk (PV3.v pB) [])]
def F16.O:Orc P:=⟨[T28.E,T18.E,T23.E],[],[],40⟩
def F16 {τ:Type} (l:LS_) (k:Nat→LS_→Option τ):Option τ :=
 T28 [.I 2,.I 3,.LL [[1,1,1]],.L [0,1,1],.L [],.I 1]
 (fun j A=>(sw (T28 [.I 2,.I 3,.LL [[1,1,1]],.L [0,1,1],.L [0,1],.I 0]
 (fun j B=>(sw (T28 [.I 2,.I 2,.LL [[1,1]],.L [0,1],.L [],.I 9]
 (fun j C=>(sw (T18 [.I 2,.I 3,.LL [[1,1,1]],.L [0,1],.L [],.I 1]
 (fun j D=>(sw (T23 [.I (gI A 0),.I (gI A 1),.L [],.LL [],.I 1,.I 1,.L [1,1,1],.LL []]
 (fun j E=>(sw (br (gB E 0)
 (T23 [.I (gI B 0),.I (gI B 1),.L [],.LL [],.I 1,.I 0,.L [1,1,1],.LL []]
 (fun j F=>(sw (br (gB F 0)
 (T23 [.I (gI C 0),.I (gI C 1),.L [],.LL [],.I 2,.I 1,.L [0,0],.LL [[0,0],[1,1]]]
 (fun j G=>(sw (br (gB G 0)
 (T28 [.I 2,.I 3,.LL [[1,1,1]],.L [0,1,1],.L [],.I 0]
 (fun j H=>(sw (br ((gI H 0)==4)
 (k 0 [.B ((gI D 1)==1)])
 (k 0 [.B false]))
 (sw (br ((gI H 0)==4)
 (k 0 [.B ((gI D 1)==1)])
 (k 0 [.B false]))
 (fun _=>none))) j))
 (k 0 [.B false]))
 (fun _=>none)) j))
 (k 0 [.B false]))
 (fun _=>none)) j))
 (k 0 [.B false]))
 (fun _=>none)) j))
 (fun _=>none)) j))
 (sw (T18 [.I 2,.I 3,.LL [[1,1,1]],.L [0,1],.L [],.I 1]
 (fun j D=>(sw (T23 [.I (gI A 0),.I (gI A 1),.L [],.LL [],.I 1,.I 1,.L [1,1,1],.LL []]
 (fun j E=>(sw (br (gB E 0)
 (T23 [.I (gI B 0),.I (gI B 1),.L [],.LL [],.I 1,.I 0,.L [1,1,1],.LL []]
 (fun j F=>(sw (br (gB F 0)
 (ck (((eqM (gN C 2) (List.length (gL C 3)))&&((eqM (gN C 4) (List.length (gLL C 5)))&&true))&&true)
 (T23 [.I (gI C 0),.I (gI C 1),.L (gL C 3),.LL (gLL C 5),.I 2,.I 1,.L [0,0],.LL [[0,0],[1,1]]]
 (fun j G=>(sw (br (gB G 0)
 (T28 [.I 2,.I 3,.LL [[1,1,1]],.L [0,1,1],.L [],.I 0]
 (fun j H=>(sw (br ((gI H 0)==4)
 (k 0 [.B ((gI D 1)==1)])
 (k 0 [.B false]))
 (sw (br ((gI H 0)==4)
 (k 0 [.B ((gI D 1)==1)])
 (k 0 [.B false]))
 (fun _=>none))) j))
 (k 0 [.B false]))
 (fun _=>none)) j)))
 (k 0 [.B false]))
 (fun _=>none)) j))
 (k 0 [.B false]))
 (fun _=>none)) j))
 (fun _=>none)) j))
 (fun _=>none))) j))
 (sw (T28 [.I 2,.I 2,.LL [[1,1]],.L [0,1],.L [],.I 9]
 (fun j C=>(sw (T18 [.I 2,.I 3,.LL [[1,1,1]],.L [0,1],.L [],.I 1]
 (fun j D=>(sw (T23 [.I (gI A 0),.I (gI A 1),.L [],.LL [],.I 1,.I 1,.L [1,1,1],.LL []]
 (fun j E=>(sw (br (gB E 0)
 (ck (((eqM (gN B 2) (List.length (gL B 3)))&&((eqM (gN B 4) (List.length (gLL B 5)))&&true))&&true)
 (T23 [.I (gI B 0),.I (gI B 1),.L (gL B 3),.LL (gLL B 5),.I 1,.I 0,.L [1,1,1],.LL []]
 (fun j F=>(sw (br (gB F 0)
 (T23 [.I (gI C 0),.I (gI C 1),.L [],.LL [],.I 2,.I 1,.L [0,0],.LL [[0,0],[1,1]]]
 (fun j G=>(sw (br (gB G 0)
 (T28 [.I 2,.I 3,.LL [[1,1,1]],.L [0,1,1],.L [],.I 0]
 (fun j H=>(sw (br ((gI H 0)==4)
 (k 0 [.B ((gI D 1)==1)])
 (k 0 [.B false]))
 (sw (br ((gI H 0)==4)
 (k 0 [.B ((gI D 1)==1)])
 (k 0 [.B false]))
 (fun _=>none))) j))
 (k 0 [.B false]))
 (fun _=>none)) j))
 (k 0 [.B false]))
 (fun _=>none)) j)))
 (k 0 [.B false]))
 (fun _=>none)) j))
 (fun _=>none)) j))
 (sw (T18 [.I 2,.I 3,.LL [[1,1,1]],.L [0,1],.L [],.I 1]
 (fun j D=>(sw (T23 [.I (gI A 0),.I (gI A 1),.L [],.LL [],.I 1,.I 1,.L [1,1,1],.LL []]
 (fun j E=>(sw (br (gB E 0)
 (ck (((eqM (gN B 2) (List.length (gL B 3)))&&((eqM (gN B 4) (List.length (gLL B 5)))&&true))&&true)
 (T23 [.I (gI B 0),.I (gI B 1),.L (gL B 3),.LL (gLL B 5),.I 1,.I 0,.L [1,1,1],.LL []]
 (fun j F=>(sw (br (gB F 0)
 (ck (((eqM (gN C 2) (List.length (gL C 3)))&&((eqM (gN C 4) (List.length (gLL C 5)))&&true))&&true)
 (T23 [.I (gI C 0),.I (gI C 1),.L (gL C 3),.LL (gLL C 5),.I 2,.I 1,.L [0,0],.LL [[0,0],[1,1]]]
 (fun j G=>(sw (br (gB G 0)
 (T28 [.I 2,.I 3,.LL [[1,1,1]],.L [0,1,1],.L [],.I 0]
 (fun j H=>(sw (br ((gI H 0)==4)
 (k 0 [.B ((gI D 1)==1)])
 (k 0 [.B false]))
 (sw (br ((gI H 0)==4)
 (k 0 [.B ((gI D 1)==1)])
 (k 0 [.B false]))
 (fun _=>none))) j))
 (k 0 [.B false]))
 (fun _=>none)) j)))
 (k 0 [.B false]))
 (fun _=>none)) j)))
 (k 0 [.B false]))
 (fun _=>none)) j))
 (fun _=>none)) j))
 (fun _=>none))) j))
 (fun _=>none))) j))
 (sw (T28 [.I 2,.I 3,.LL [[1,1,1]],.L [0,1,1],.L [0,1],.I 0]
 (fun j B=>(sw (T28 [.I 2,.I 2,.LL [[1,1]],.L [0,1],.L [],.I 9]
 (fun j C=>(sw (T18 [.I 2,.I 3,.LL [[1,1,1]],.L [0,1],.L [],.I 1]
 (fun j D=>(sw (ck (((eqM (gN A 2) (List.length (gL A 3)))&&((eqM (gN A 4) (List.length (gLL A 5)))&&true))&&true)
 (T23 [.I (gI A 0),.I (gI A 1),.L (gL A 3),.LL (gLL A 5),.I 1,.I 1,.L [1,1,1],.LL []]
 (fun j E=>(sw (br (gB E 0)
 (T23 [.I (gI B 0),.I (gI B 1),.L [],.LL [],.I 1,.I 0,.L [1,1,1],.LL []]
 (fun j F=>(sw (br (gB F 0)
 (T23 [.I (gI C 0),.I (gI C 1),.L [],.LL [],.I 2,.I 1,.L [0,0],.LL [[0,0],[1,1]]]
 (fun j G=>(sw (br (gB G 0)
 (T28 [.I 2,.I 3,.LL [[1,1,1]],.L [0,1,1],.L [],.I 0]
 (fun j H=>(sw (br ((gI H 0)==4)
 (k 0 [.B ((gI D 1)==1)])
 (k 0 [.B false]))
 (sw (br ((gI H 0)==4)
 (k 0 [.B ((gI D 1)==1)])
 (k 0 [.B false]))
 (fun _=>none))) j))
 (k 0 [.B false]))
 (fun _=>none)) j))
 (k 0 [.B false]))
 (fun _=>none)) j))
 (k 0 [.B false]))
 (fun _=>none)) j)))
 (fun _=>none)) j))
 (sw (T18 [.I 2,.I 3,.LL [[1,1,1]],.L [0,1],.L [],.I 1]
 (fun j D=>(sw (ck (((eqM (gN A 2) (List.length (gL A 3)))&&((eqM (gN A 4) (List.length (gLL A 5)))&&true))&&true)
 (T23 [.I (gI A 0),.I (gI A 1),.L (gL A 3),.LL (gLL A 5),.I 1,.I 1,.L [1,1,1],.LL []]
 (fun j E=>(sw (br (gB E 0)
 (T23 [.I (gI B 0),.I (gI B 1),.L [],.LL [],.I 1,.I 0,.L [1,1,1],.LL []]
 (fun j F=>(sw (br (gB F 0)
 (ck (((eqM (gN C 2) (List.length (gL C 3)))&&((eqM (gN C 4) (List.length (gLL C 5)))&&true))&&true)
 (T23 [.I (gI C 0),.I (gI C 1),.L (gL C 3),.LL (gLL C 5),.I 2,.I 1,.L [0,0],.LL [[0,0],[1,1]]]
 (fun j G=>(sw (br (gB G 0)
 (T28 [.I 2,.I 3,.LL [[1,1,1]],.L [0,1,1],.L [],.I 0]
 (fun j H=>(sw (br ((gI H 0)==4)
 (k 0 [.B ((gI D 1)==1)])
 (k 0 [.B false]))
 (sw (br ((gI H 0)==4)
 (k 0 [.B ((gI D 1)==1)])
 (k 0 [.B false]))
 (fun _=>none))) j))
 (k 0 [.B false]))
 (fun _=>none)) j)))
 (k 0 [.B false]))
 (fun _=>none)) j))
 (k 0 [.B false]))
 (fun _=>none)) j)))
 (fun _=>none)) j))
 (fun _=>none))) j))
 (sw (T28 [.I 2,.I 2,.LL [[1,1]],.L [0,1],.L [],.I 9]
 (fun j C=>(sw (T18 [.I 2,.I 3,.LL [[1,1,1]],.L [0,1],.L [],.I 1]
 (fun j D=>(sw (ck (((eqM (gN A 2) (List.length (gL A 3)))&&((eqM (gN A 4) (List.length (gLL A 5)))&&true))&&true)
 (T23 [.I (gI A 0),.I (gI A 1),.L (gL A 3),.LL (gLL A 5),.I 1,.I 1,.L [1,1,1],.LL []]
 (fun j E=>(sw (br (gB E 0)
 (ck (((eqM (gN B 2) (List.length (gL B 3)))&&((eqM (gN B 4) (List.length (gLL B 5)))&&true))&&true)
 (T23 [.I (gI B 0),.I (gI B 1),.L (gL B 3),.LL (gLL B 5),.I 1,.I 0,.L [1,1,1],.LL []]
 (fun j F=>(sw (br (gB F 0)
 (T23 [.I (gI C 0),.I (gI C 1),.L [],.LL [],.I 2,.I 1,.L [0,0],.LL [[0,0],[1,1]]]
 (fun j G=>(sw (br (gB G 0)
 (T28 [.I 2,.I 3,.LL [[1,1,1]],.L [0,1,1],.L [],.I 0]
 (fun j H=>(sw (br ((gI H 0)==4)
 (k 0 [.B ((gI D 1)==1)])
 (k 0 [.B false]))
 (sw (br ((gI H 0)==4)
 (k 0 [.B ((gI D 1)==1)])
 (k 0 [.B false]))
 (fun _=>none))) j))
 (k 0 [.B false]))
 (fun _=>none)) j))
 (k 0 [.B false]))
 (fun _=>none)) j)))
 (k 0 [.B false]))
 (fun _=>none)) j)))
 (fun _=>none)) j))
 (sw (T18 [.I 2,.I 3,.LL [[1,1,1]],.L [0,1],.L [],.I 1]
 (fun j D=>(sw (ck (((eqM (gN A 2) (List.length (gL A 3)))&&((eqM (gN A 4) (List.length (gLL A 5)))&&true))&&true)
 (T23 [.I (gI A 0),.I (gI A 1),.L (gL A 3),.LL (gLL A 5),.I 1,.I 1,.L [1,1,1],.LL []]
 (fun j E=>(sw (br (gB E 0)
 (ck (((eqM (gN B 2) (List.length (gL B 3)))&&((eqM (gN B 4) (List.length (gLL B 5)))&&true))&&true)
 (T23 [.I (gI B 0),.I (gI B 1),.L (gL B 3),.LL (gLL B 5),.I 1,.I 0,.L [1,1,1],.LL []]
 (fun j F=>(sw (br (gB F 0)
 (ck (((eqM (gN C 2) (List.length (gL C 3)))&&((eqM (gN C 4) (List.length (gLL C 5)))&&true))&&true)
 (T23 [.I (gI C 0),.I (gI C 1),.L (gL C 3),.LL (gLL C 5),.I 2,.I 1,.L [0,0],.LL [[0,0],[1,1]]]
 (fun j G=>(sw (br (gB G 0)
 (T28 [.I 2,.I 3,.LL [[1,1,1]],.L [0,1,1],.L [],.I 0]
 (fun j H=>(sw (br ((gI H 0)==4)
 (k 0 [.B ((gI D 1)==1)])
 (k 0 [.B false]))
 (sw (br ((gI H 0)==4)
 (k 0 [.B ((gI D 1)==1)])
 (k 0 [.B false]))
 (fun _=>none))) j))
 (k 0 [.B false]))
 (fun _=>none)) j)))
 (k 0 [.B false]))
 (fun _=>none)) j)))
 (k 0 [.B false]))
 (fun _=>none)) j)))
 (fun _=>none)) j))
 (fun _=>none))) j))
 (fun _=>none))) j))
 (fun _=>none))) j)
theorem F16.eq:FEq F16.O 16 F16.ps F16.sh F16:=by intro τ l κ;kernel_rfl
def F16.E:Ent P:=mkF F16.eq
end
end Go.Proofs.Ytbpjicbpcfkpfaa.Ai
