/-
Part 5 of 7 of the texts for one claim: Xg P22.
-/
import Derived.Test.YtbpjicbpcfkpfaaCa4
set_option linter.unusedVariables false
set_option linter.unusedSimpArgs false
namespace Go.Proofs.Ytbpjicbpcfkpfaa.Ai
open Go Go.RowKit
noncomputable section
variable {τ:Type} (t:Nat) (nx ex:Nat→LS_→Option τ) (l:LS_) (k κ:Nat→LS_→Option τ)
def F28.ps:List PV2:=[(PV2.agg [iI,iI,aM]),(PV2.agg [aI,aI]),pI]
def F28.sh:List PA:=[(PA.mk (PV3.v (PV2.agg [iI,iI,PV1.nilS,PV1.nilS])) []),(PA.mk (PV3.v (PV2.agg [iI,iI,(PV1.sl (PC0.i .i64)),(PV1.sl (PC0.m .i64))])) [])]
def F28.O:Orc P:=⟨[T20.E],[],[],40⟩
def F28:Option τ :=
 ck (((eqM (List.length (gLL l 2)) (List.length (gLL l 2)))&&true)&&(((eqM (List.length (gL l 3)) (List.length (gL l 3)))&&((eqM (List.length (gL l 4)) (List.length (gL l 4)))&&true))&&true))
 (T20 [.I (gI l 0),.I (gI l 1),.LL (gLL l 2),.L (gL l 3),.L (gL l 4),.I (gI l 5)]
 (fun j A=>(sw (br ((gI A 4) != 0)
 (k 0 [.I 0,.I 0])
 (k 1 [.I (gI A 0),.I (gI A 1),.N (List.length (gL A 2)),.L (gL A 2),.N (List.length (gLL A 3)),.LL (gLL A 3)]))
 (fun _=>none)) j))
theorem F28.eq:FEq F28.O 28 F28.ps F28.sh F28:=by intro τ l κ;kernel_rfl
def F28.E:Ent P:=mkF F28.eq
def T28 {τ:Type} (l:LS_) (k:Nat→LS_→Option τ):Option τ:=F28 l k
def T28.E:Ent P:=F28.E
def T23 {τ:Type} (l:LS_) (k:Nat→LS_→Option τ):Option τ:=F23 l k
def T23.E:Ent P:=F23.E
end
end Go.Proofs.Ytbpjicbpcfkpfaa.Ai
namespace Go.Proofs.Ytbpjicbpcfkpfaa.Ai
open Go Ma
noncomputable section
end
end Go.Proofs.Ytbpjicbpcfkpfaa.Ai
