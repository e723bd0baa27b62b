/-
Part 8 of 8 of the texts for one claim: Xl14 P39.
-/
import Derived.Test.YtbpjicbpcfkpfaaCg7
set_option linter.unusedVariables false
set_option linter.unusedSimpArgs false
namespace Go.Proofs.Ytbpjicbpcfkpfaa.Ai
open Go Go.RowKit
noncomputable section
variable {τ:Type} (t:Nat) (nx ex:Nat→LS_→Option τ) (l:LS_) (k κ:Nat→LS_→Option τ)
def F14.ps:List PV2:=[pRaw13,(PV2.agg [(PV1.arr (PC0.i IntKind.u8)),(PV1.arr (PC0.i IntKind.u8))]),(pK IntKind.u8)]
def F14.sh:List PA:=[(PA.mk (PV3.v pB) [])]
def F14.O:Orc P:=⟨[T34.E,T35.E,T29.E,T41.E,T54.E,T62.E,T30.E,T27.E,T47.E,T63.E],[],[],40⟩
def F14.p6:PS:=(PS.mk [(PV2.agg [(PV1.int IntKind.u8),(PV1.int IntKind.u8),(PV1.int IntKind.u8),(PV1.sl (PC0.i IntKind.u8))]),(PV2.agg [(PV1.sl (PC0.i IntKind.u8)),(PV1.sl (PC0.i IntKind.u8))]),(pK IntKind.u8),(pp 0),(pp 1),n_,pB,pB,(pp 2),(pp 3),qM,n_,n_,n_,n_,n_,n_,n_,n_,n_,n_,n_,n_,pB,pB,pB,(PV2.agg [(PV1.int IntKind.u8),(PV1.int IntKind.u8),(PV1.int IntKind.u8),(PV1.sl (PC0.i IntKind.u8))]),(PV2.agg [iI,iI,(PV1.sl (PC0.m .i64))]),(pp 2),pI,(PV2.agg [iI,iI,(PV1.sl (PC0.i .i64))]),(PV2.agg [iI,iI,(PV1.sl (PC0.m .i64))]),qM,qM,pI,pB,n_,n_,n_,n_,n_,n_,n_,n_,n_,n_,n_,n_,n_,n_,n_,n_,n_,n_,n_,n_,n_,n_,n_,n_,n_,n_,n_,n_,n_,n_,n_,n_,n_,n_,n_,n_,n_,n_,n_,n_,n_,n_,n_,n_,n_,n_,n_,n_,n_,n_,n_,n_,n_,n_,n_,n_,n_,n_,n_,n_,n_,n_,n_,n_,n_,n_,n_,n_,n_,n_,n_,n_,n_,n_,n_,n_,n_,n_,n_,n_,n_,n_,n_,n_,n_,n_,n_,n_,n_,n_,n_,n_,n_,n_,n_,n_,n_,n_,n_,n_,n_,n_,n_,n_,n_,n_,n_,n_,n_,n_,n_,n_,n_,n_,n_,n_,n_,n_,n_,n_,n_] [(oG [(pK IntKind.u8),(pK IntKind.u8),(pK IntKind.u8),(PV2.v (PV1.sl (PC0.i IntKind.u8)))]),(oG [(PV2.v (PV1.sl (PC0.i IntKind.u8))),(PV2.v (PV1.sl (PC0.i IntKind.u8)))]),(oG [pI,pI,qM]),(oG [pI,pI,qR])])
def F14.p7:PS:=(PS.mk [(PV2.agg [(PV1.int IntKind.u8),(PV1.int IntKind.u8),(PV1.int IntKind.u8),(PV1.sl (PC0.i IntKind.u8))]),(PV2.agg [(PV1.sl (PC0.i IntKind.u8)),(PV1.sl (PC0.i IntKind.u8))]),(pK IntKind.u8),(pp 0),(pp 1),n_,pB,pB,(pp 2),(pp 3),qM,qR,qR,n_,n_,n_,n_,n_,n_,n_,n_,n_,n_,pB,pB,pB,(PV2.agg [(PV1.int IntKind.u8),(PV1.int IntKind.u8),(PV1.int IntKind.u8),(PV1.sl (PC0.i IntKind.u8))]),(PV2.agg [iI,iI,(PV1.sl (PC0.m .i64))]),(pp 2),pI,(PV2.agg [iI,iI,(PV1.sl (PC0.i .i64))]),(PV2.agg [iI,iI,(PV1.sl (PC0.m .i64))]),qM,qM,pI,pB,(pp 2),pI,(PV2.v (PV1.ptr 2 (some 0) (some 1))),pI,(pp 1),(PV2.v (PV1.sl (PC0.i IntKind.u8))),qR,(pp 2),pI,(PV2.v (PV1.ptr 2 (some 0) (some 1))),pI,(PV2.v (PV1.ptr 1 (some 0) (some 1))),(PV2.v (PV1.sl (PC0.i IntKind.u8))),qR,n_,n_,n_,n_,n_,n_,n_,n_,n_,n_,n_,n_,n_,n_,n_,n_,n_,n_,n_,n_,n_,n_,n_,n_,n_,n_,n_,n_,n_,n_,n_,n_,n_,n_,n_,n_,n_,n_,n_,n_,n_,n_,n_,n_,n_,n_,n_,n_,n_,n_,n_,n_,n_,n_,n_,n_,n_,n_,n_,n_,n_,n_,n_,n_,n_,n_,n_,n_,n_,n_,n_,n_,n_,n_,n_,n_,n_,n_,n_,n_,n_,n_,n_,n_,n_,n_,n_,n_,n_,n_,n_,n_,n_,n_,n_,n_,n_,n_,n_,n_,n_,n_,n_,n_,n_,n_,n_] [(oG [(pK IntKind.u8),(pK IntKind.u8),(pK IntKind.u8),(PV2.v (PV1.sl (PC0.i IntKind.u8)))]),(oG [(PV2.v (PV1.sl (PC0.i IntKind.u8))),(PV2.v (PV1.sl (PC0.i IntKind.u8)))]),(oG [pI,pI,qM]),(oG [pI,pI,qR])])
def F14.p8:PS:=(PS.mk [(PV2.agg [(PV1.int IntKind.u8),(PV1.int IntKind.u8),(PV1.int IntKind.u8),(PV1.sl (PC0.i IntKind.u8))]),(PV2.agg [(PV1.sl (PC0.i IntKind.u8)),(PV1.sl (PC0.i IntKind.u8))]),(pK IntKind.u8),(pp 0),(pp 1),n_,pB,pB,(pp 2),(pp 3),qM,qR,qR,qR,pB,n_,n_,n_,n_,n_,n_,n_,n_,pB,pB,pB,(PV2.agg [(PV1.int IntKind.u8),(PV1.int IntKind.u8),(PV1.int IntKind.u8),(PV1.sl (PC0.i IntKind.u8))]),(PV2.agg [iI,iI,(PV1.sl (PC0.m .i64))]),(pp 2),pI,(PV2.agg [iI,iI,(PV1.sl (PC0.i .i64))]),(PV2.agg [iI,iI,(PV1.sl (PC0.m .i64))]),qM,qM,pI,pB,(pp 2),pI,(PV2.v (PV1.ptr 2 (some 0) (some 1))),pI,(pp 1),(PV2.v (PV1.sl (PC0.i IntKind.u8))),qR,(pp 2),pI,(PV2.v (PV1.ptr 2 (some 0) (some 1))),pI,(PV2.v (PV1.ptr 1 (some 0) (some 1))),(PV2.v (PV1.sl (PC0.i IntKind.u8))),qR,(PV2.tup [(PV1.sl (PC0.i .i64)),PV1.bool]),(PV2.agg [iI,iI,(PV1.sl (PC0.m .i64))]),qR,(PV2.tup [(PV1.sl (PC0.i .i64)),PV1.bool]),qR,pB,n_,n_,n_,n_,n_,n_,n_,n_,n_,n_,n_,n_,n_,n_,n_,n_,n_,n_,n_,n_,n_,n_,n_,n_,n_,n_,n_,n_,n_,n_,n_,n_,n_,n_,n_,n_,n_,n_,n_,n_,n_,n_,n_,n_,n_,n_,n_,n_,n_,n_,n_,n_,n_,n_,n_,n_,n_,n_,n_,n_,n_,n_,n_,n_,n_,n_,n_,n_,n_,n_,n_,n_,n_,n_,n_,n_,n_,n_,n_,n_,n_,n_,n_,n_,n_,n_,n_,n_,n_,n_,n_,n_,n_,n_,n_,n_,n_,n_,n_,n_,n_] [(oG [(pK IntKind.u8),(pK IntKind.u8),(pK IntKind.u8),(PV2.v (PV1.sl (PC0.i IntKind.u8)))]),(oG [(PV2.v (PV1.sl (PC0.i IntKind.u8))),(PV2.v (PV1.sl (PC0.i IntKind.u8)))]),(oG [pI,pI,qM]),(oG [pI,pI,qR])])
def F14.p9:PS:=(PS.mk [(PV2.agg [(PV1.int IntKind.u8),(PV1.int IntKind.u8),(PV1.int IntKind.u8),(PV1.sl (PC0.i IntKind.u8))]),(PV2.agg [(PV1.sl (PC0.i IntKind.u8)),(PV1.sl (PC0.i IntKind.u8))]),(pK IntKind.u8),(pp 0),(pp 1),n_,pB,pB,(pp 2),(pp 3),qM,qR,qR,qR,pB,qR,pB,n_,n_,n_,n_,n_,n_,pB,pB,pB,(PV2.agg [(PV1.int IntKind.u8),(PV1.int IntKind.u8),(PV1.int IntKind.u8),(PV1.sl (PC0.i IntKind.u8))]),(PV2.agg [iI,iI,(PV1.sl (PC0.m .i64))]),(pp 2),pI,(PV2.agg [iI,iI,(PV1.sl (PC0.i .i64))]),(PV2.agg [iI,iI,(PV1.sl (PC0.m .i64))]),qM,qM,pI,pB,(pp 2),pI,(PV2.v (PV1.ptr 2 (some 0) (some 1))),pI,(pp 1),(PV2.v (PV1.sl (PC0.i IntKind.u8))),qR,(pp 2),pI,(PV2.v (PV1.ptr 2 (some 0) (some 1))),pI,(PV2.v (PV1.ptr 1 (some 0) (some 1))),(PV2.v (PV1.sl (PC0.i IntKind.u8))),qR,(PV2.tup [(PV1.sl (PC0.i .i64)),PV1.bool]),(PV2.agg [iI,iI,(PV1.sl (PC0.m .i64))]),qR,(PV2.tup [(PV1.sl (PC0.i .i64)),PV1.bool]),qR,pB,(PV2.tup [(PV1.sl (PC0.i .i64)),PV1.bool]),(PV2.agg [iI,iI,(PV1.sl (PC0.m .i64))]),qR,(PV2.tup [(PV1.sl (PC0.i .i64)),PV1.bool]),qR,pB,n_,n_,n_,n_,n_,n_,n_,n_,n_,n_,n_,n_,n_,n_,n_,n_,n_,n_,n_,n_,n_,n_,n_,n_,n_,n_,n_,n_,n_,n_,n_,n_,n_,n_,n_,n_,n_,n_,n_,n_,n_,n_,n_,n_,n_,n_,n_,n_,n_,n_,n_,n_,n_,n_,n_,n_,n_,n_,n_,n_,n_,n_,n_,n_,n_,n_,n_,n_,n_,n_,n_,n_,n_,n_,n_,n_,n_,n_,n_,n_,n_,n_,n_,n_,n_,n_,n_,n_,n_,n_,n_,n_,n_,n_,n_] [(oG [(pK IntKind.u8),(pK IntKind.u8),(pK IntKind.u8),(PV2.v (PV1.sl (PC0.i IntKind.u8)))]),(oG [(PV2.v (PV1.sl (PC0.i IntKind.u8))),(PV2.v (PV1.sl (PC0.i IntKind.u8)))]),(oG [pI,pI,qM]),(oG [pI,pI,qR])])
def F14.p10:PS:=(PS.mk [(PV2.agg [(PV1.int IntKind.u8),(PV1.int IntKind.u8),(PV1.int IntKind.u8),(PV1.sl (PC0.i IntKind.u8))]),(PV2.agg [(PV1.sl (PC0.i IntKind.u8)),(PV1.sl (PC0.i IntKind.u8))]),(pK IntKind.u8),(pp 0),(pp 1),n_,pB,pB,(pp 2),(pp 3),qM,qR,qR,qR,pB,qR,pB,qR,pB,n_,n_,n_,n_,pB,pB,pB,(PV2.agg [(PV1.int IntKind.u8),(PV1.int IntKind.u8),(PV1.int IntKind.u8),(PV1.sl (PC0.i IntKind.u8))]),(PV2.agg [iI,iI,(PV1.sl (PC0.m .i64))]),(pp 2),pI,(PV2.agg [iI,iI,(PV1.sl (PC0.i .i64))]),(PV2.agg [iI,iI,(PV1.sl (PC0.m .i64))]),qM,qM,pI,pB,(pp 2),pI,(PV2.v (PV1.ptr 2 (some 0) (some 1))),pI,(pp 1),(PV2.v (PV1.sl (PC0.i IntKind.u8))),qR,(pp 2),pI,(PV2.v (PV1.ptr 2 (some 0) (some 1))),pI,(PV2.v (PV1.ptr 1 (some 0) (some 1))),(PV2.v (PV1.sl (PC0.i IntKind.u8))),qR,(PV2.tup [(PV1.sl (PC0.i .i64)),PV1.bool]),(PV2.agg [iI,iI,(PV1.sl (PC0.m .i64))]),qR,(PV2.tup [(PV1.sl (PC0.i .i64)),PV1.bool]),qR,pB,(PV2.tup [(PV1.sl (PC0.i .i64)),PV1.bool]),(PV2.agg [iI,iI,(PV1.sl (PC0.m .i64))]),qR,(PV2.tup [(PV1.sl (PC0.i .i64)),PV1.bool]),qR,pB,(PV2.tup [(PV1.sl (PC0.i .i64)),PV1.bool]),(PV2.agg [iI,iI,(PV1.sl (PC0.m .i64))]),(PV2.agg [iI,iI,(PV1.sl (PC0.i .i64))]),qR,qR,qR,(PV2.tup [(PV1.sl (PC0.i .i64)),PV1.bool]),qR,pB,n_,n_,n_,n_,n_,n_,n_,n_,n_,n_,n_,n_,n_,n_,n_,n_,n_,n_,n_,n_,n_,n_,n_,n_,n_,n_,n_,n_,n_,n_,n_,n_,n_,n_,n_,n_,n_,n_,n_,n_,n_,n_,n_,n_,n_,n_,n_,n_,n_,n_,n_,n_,n_,n_,n_,n_,n_,n_,n_,n_,n_,n_,n_,n_,n_,n_,n_,n_,n_,n_,n_,n_,n_,n_,n_,n_,n_,n_,n_,n_,n_,n_,n_,n_,n_,n_] [(oG [(pK IntKind.u8),(pK IntKind.u8),(pK IntKind.u8),(PV2.v (PV1.sl (PC0.i IntKind.u8)))]),(oG [(PV2.v (PV1.sl (PC0.i IntKind.u8))),(PV2.v (PV1.sl (PC0.i IntKind.u8)))]),(oG [pI,pI,qM]),(oG [pI,pI,qR])])
def F14.p11:PS:=(PS.mk [(PV2.agg [(PV1.int IntKind.u8),(PV1.int IntKind.u8),(PV1.int IntKind.u8),(PV1.sl (PC0.i IntKind.u8))]),(PV2.agg [(PV1.sl (PC0.i IntKind.u8)),(PV1.sl (PC0.i IntKind.u8))]),(pK IntKind.u8),(pp 0),(pp 1),n_,pB,pB,(pp 2),(pp 3),qM,qR,qR,qR,pB,qR,pB,qR,pB,qR,pB,n_,n_,pB,pB,pB,(PV2.agg [(PV1.int IntKind.u8),(PV1.int IntKind.u8),(PV1.int IntKind.u8),(PV1.sl (PC0.i IntKind.u8))]),(PV2.agg [iI,iI,(PV1.sl (PC0.m .i64))]),(pp 2),pI,(PV2.agg [iI,iI,(PV1.sl (PC0.i .i64))]),(PV2.agg [iI,iI,(PV1.sl (PC0.m .i64))]),qM,qM,pI,pB,(pp 2),pI,(PV2.v (PV1.ptr 2 (some 0) (some 1))),pI,(pp 1),(PV2.v (PV1.sl (PC0.i IntKind.u8))),qR,(pp 2),pI,(PV2.v (PV1.ptr 2 (some 0) (some 1))),pI,(PV2.v (PV1.ptr 1 (some 0) (some 1))),(PV2.v (PV1.sl (PC0.i IntKind.u8))),qR,(PV2.tup [(PV1.sl (PC0.i .i64)),PV1.bool]),(PV2.agg [iI,iI,(PV1.sl (PC0.m .i64))]),qR,(PV2.tup [(PV1.sl (PC0.i .i64)),PV1.bool]),qR,pB,(PV2.tup [(PV1.sl (PC0.i .i64)),PV1.bool]),(PV2.agg [iI,iI,(PV1.sl (PC0.m .i64))]),qR,(PV2.tup [(PV1.sl (PC0.i .i64)),PV1.bool]),qR,pB,(PV2.tup [(PV1.sl (PC0.i .i64)),PV1.bool]),(PV2.agg [iI,iI,(PV1.sl (PC0.m .i64))]),(PV2.agg [iI,iI,(PV1.sl (PC0.i .i64))]),qR,qR,qR,(PV2.tup [(PV1.sl (PC0.i .i64)),PV1.bool]),qR,pB,(PV2.tup [(PV1.sl (PC0.i .i64)),PV1.bool]),(PV2.agg [iI,iI,(PV1.sl (PC0.m .i64))]),(PV2.agg [iI,iI,(PV1.sl (PC0.i .i64))]),qR,qM,(pK IntKind.u8),pI,qM,pI,pI,(PV2.v (PV1.fptr (PC0.m .i64) none)),qR,qR,(PV2.tup [(PV1.sl (PC0.i .i64)),PV1.bool]),qR,pB,n_,n_,n_,n_,n_,n_,n_,n_,n_,n_,n_,n_,n_,n_,n_,n_,n_,n_,n_,n_,n_,n_,n_,n_,n_,n_,n_,n_,n_,n_,n_,n_,n_,n_,n_,n_,n_,n_,n_,n_,n_,n_,n_,n_,n_,n_,n_,n_,n_,n_,n_,n_,n_,n_,n_,n_,n_,n_,n_,n_,n_,n_,n_,n_,n_,n_,n_,n_,n_,n_] [(oG [(pK IntKind.u8),(pK IntKind.u8),(pK IntKind.u8),(PV2.v (PV1.sl (PC0.i IntKind.u8)))]),(oG [(PV2.v (PV1.sl (PC0.i IntKind.u8))),(PV2.v (PV1.sl (PC0.i IntKind.u8)))]),(oG [pI,pI,qM]),(oG [pI,pI,qR])])
def F14_c0 {τ:Type} (l:LS_) (k:Nat→LS_→Option τ) (n:LS_→Option τ):Option τ :=
 T34 []
 (fun j A=>(sw (br (!(gB A 0))
 (k 0 [.B false])
 (ck (((eqM (List.length (gL l 3)) (List.length (gL l 3)))&&true)&&true)
 (T35 [.I (gI l 0),.I (gI l 1),.I (gI l 2),.L (gL l 3)]
 (fun j B=>(sw (T29 [.I (gI B 0)]
 (fun j C=>(sw (ck (((eqM (List.length (gLL B 2)) (List.length (gLL B 2)))&&true)&&true)
 (T41 [.I (gI B 0),.I (gI B 1),.LL (gLL B 2)]
 (fun j D=>(sw (br ((((List.length (gLL D 0)):Nat):Int)==0)
 (k 0 [.B false])
 (n [.I (gI l 0),.I (gI l 1),.I (gI l 2),.N (List.length (gL l 3)),.L (gL l 3),.N (List.length (gL l 4)),.L (gL l 4),.N (List.length (gL l 5)),.L (gL l 5),.I (gI l 6),.B false,.B (gB A 0),.N (List.length (gLL D 0)),.LL (gLL D 0),.B (gB A 0),.B (gB A 0),.B false,.I (gI l 0),.I (gI l 1),.I (gI l 2),.N (List.length (gL l 3)),.L (gL l 3),.I (gI B 0),.I (gI B 1),.N (List.length (gLL B 2)),.LL (gLL B 2),.I (gI B 0),.I (gI C 0),.I (gI C 1),.N (List.length (gL C 2)),.L (gL C 2),.I (gI B 0),.I (gI B 1),.N (List.length (gLL B 2)),.LL (gLL B 2),.N (List.length (gLL D 0)),.LL (gLL D 0),.N (List.length (gLL D 0)),.LL (gLL D 0),.I (((List.length (gLL D 0)):Nat):Int),.B false,.I (gI l 0),.I (gI l 1),.I (gI l 2),.N (List.length (gL l 3)),.L (gL l 3),.N (List.length (gL l 4)),.L (gL l 4),.N (List.length (gL l 5)),.L (gL l 5),.I (gI B 0),.I (gI B 1),.N (List.length (gLL B 2)),.LL (gLL B 2),.I (gI C 0),.I (gI C 1),.N (List.length (gL C 2)),.L (gL C 2)]))
 (fun _=>none)) j)))
 (fun _=>none)) j))
 (fun _=>none)) j))))
 (fun _=>none)) j)
theorem F14.q0:FEqK F14.O 14 F14.ps F14.sh 6 F14.p6 F14_c0:=by intro τ l κ B;kernel_rfl
def F14_c6 {τ:Type} (l:LS_) (k:Nat→LS_→Option τ) (n:LS_→Option τ):Option τ :=
 ck ((eqM (gN l 46) (List.length (gL l 47)))&&true)
 (T54 [.I (gI l 50),.I (gI l 51),.L (gL l 47)]
 (fun j A=>(sw (ck ((eqM (gN l 48) (List.length (gL l 49)))&&true)
 (T54 [.I (gI l 50),.I (gI l 51),.L (gL l 49)]
 (fun j B=>(sw (n [.I (gI l 0),.I (gI l 1),.I (gI l 2),.N (gN l 3),.L (gL l 4),.N (gN l 5),.L (gL l 6),.N (gN l 7),.L (gL l 8),.I (gI l 9),.B (gB l 10),.B (gB l 11),.N (gN l 12),.LL (gLL l 13),.N (List.length (gL A 0)),.L (gL A 0),.N (List.length (gL B 0)),.L (gL B 0),.B (gB l 14),.B (gB l 15),.B (gB l 16),.I (gI l 17),.I (gI l 18),.I (gI l 19),.N (gN l 20),.L (gL l 21),.I (gI l 22),.I (gI l 23),.N (gN l 24),.LL (gLL l 25),.I (gI l 26),.I (gI l 27),.I (gI l 28),.N (gN l 29),.L (gL l 30),.I (gI l 31),.I (gI l 32),.N (gN l 33),.LL (gLL l 34),.N (gN l 35),.LL (gLL l 36),.N (gN l 37),.LL (gLL l 38),.I (gI l 39),.B (gB l 40),.I (gI l 50),.I (gI l 51),.N (gN l 46),.L (gL l 47),.N (List.length (gL A 0)),.L (gL A 0),.I (gI l 50),.I (gI l 51),.N (gN l 48),.L (gL l 49),.N (List.length (gL B 0)),.L (gL B 0),.I (gI l 41),.I (gI l 42),.I (gI l 43),.N (gN l 44),.L (gL l 45),.N (gN l 46),.L (gL l 47),.N (gN l 48),.L (gL l 49),.I (gI l 50),.I (gI l 51),.N (gN l 52),.LL (gLL l 53),.I (gI l 54),.I (gI l 55),.N (gN l 56),.L (gL l 57)])
 (fun _=>none)) j)))
 (fun _=>none)) j))
theorem F14.q6:MEqK F14.O 14 F14.sh 6 F14.p6 1 F14.p7 F14_c6:=by intro τ l κ B;kernel_rfl
def F14_c7 {τ:Type} (l:LS_) (k:Nat→LS_→Option τ) (n:LS_→Option τ):Option τ :=
 ck (((eqM (gN l 68) (List.length (gLL l 69)))&&true)&&((eqM (gN l 14) (List.length (gL l 15)))&&true))
 (T62 [.I (gI l 66),.I (gI l 67),.LL (gLL l 69),.L (gL l 15)]
 (fun j A=>(sw (n [.I (gI l 0),.I (gI l 1),.I (gI l 2),.N (gN l 3),.L (gL l 4),.N (gN l 5),.L (gL l 6),.N (gN l 7),.L (gL l 8),.I (gI l 9),.B (gB l 10),.B (gB l 11),.N (gN l 12),.LL (gLL l 13),.N (gN l 14),.L (gL l 15),.N (gN l 16),.L (gL l 17),.N (List.length (gL A 0)),.L (gL A 0),.B (gB A 1),.B (gB l 18),.B (gB l 19),.B (gB l 20),.I (gI l 21),.I (gI l 22),.I (gI l 23),.N (gN l 24),.L (gL l 25),.I (gI l 26),.I (gI l 27),.N (gN l 28),.LL (gLL l 29),.I (gI l 30),.I (gI l 31),.I (gI l 32),.N (gN l 33),.L (gL l 34),.I (gI l 35),.I (gI l 36),.N (gN l 37),.LL (gLL l 38),.N (gN l 39),.LL (gLL l 40),.N (gN l 41),.LL (gLL l 42),.I (gI l 43),.B (gB l 44),.I (gI l 45),.I (gI l 46),.N (gN l 47),.L (gL l 48),.N (gN l 49),.L (gL l 50),.I (gI l 51),.I (gI l 52),.N (gN l 53),.L (gL l 54),.N (gN l 55),.L (gL l 56),.N (List.length (gL A 0)),.L (gL A 0),.B (gB A 1),.I (gI l 66),.I (gI l 67),.N (gN l 68),.LL (gLL l 69),.N (gN l 14),.L (gL l 15),.N (List.length (gL A 0)),.L (gL A 0),.B (gB A 1),.N (List.length (gL A 0)),.L (gL A 0),.B (gB A 1),.I (gI l 57),.I (gI l 58),.I (gI l 59),.N (gN l 60),.L (gL l 61),.N (gN l 62),.L (gL l 63),.N (gN l 64),.L (gL l 65),.I (gI l 66),.I (gI l 67),.N (gN l 68),.LL (gLL l 69),.I (gI l 70),.I (gI l 71),.N (gN l 72),.L (gL l 73)])
 (fun _=>none)) j))
theorem F14.q7:MEqK F14.O 14 F14.sh 7 F14.p7 1 F14.p8 F14_c7:=by intro τ l κ B;kernel_rfl
def F14_c8 {τ:Type} (l:LS_) (k:Nat→LS_→Option τ) (n:LS_→Option τ):Option τ :=
 ck (((eqM (gN l 86) (List.length (gLL l 87)))&&true)&&((eqM (gN l 16) (List.length (gL l 17)))&&true))
 (T62 [.I (gI l 84),.I (gI l 85),.LL (gLL l 87),.L (gL l 17)]
 (fun j A=>(sw (n [.I (gI l 0),.I (gI l 1),.I (gI l 2),.N (gN l 3),.L (gL l 4),.N (gN l 5),.L (gL l 6),.N (gN l 7),.L (gL l 8),.I (gI l 9),.B (gB l 10),.B (gB l 11),.N (gN l 12),.LL (gLL l 13),.N (gN l 14),.L (gL l 15),.N (gN l 16),.L (gL l 17),.N (gN l 18),.L (gL l 19),.B (gB l 20),.N (List.length (gL A 0)),.L (gL A 0),.B (gB A 1),.B (gB l 21),.B (gB l 22),.B (gB l 23),.I (gI l 24),.I (gI l 25),.I (gI l 26),.N (gN l 27),.L (gL l 28),.I (gI l 29),.I (gI l 30),.N (gN l 31),.LL (gLL l 32),.I (gI l 33),.I (gI l 34),.I (gI l 35),.N (gN l 36),.L (gL l 37),.I (gI l 38),.I (gI l 39),.N (gN l 40),.LL (gLL l 41),.N (gN l 42),.LL (gLL l 43),.N (gN l 44),.LL (gLL l 45),.I (gI l 46),.B (gB l 47),.I (gI l 48),.I (gI l 49),.N (gN l 50),.L (gL l 51),.N (gN l 52),.L (gL l 53),.I (gI l 54),.I (gI l 55),.N (gN l 56),.L (gL l 57),.N (gN l 58),.L (gL l 59),.N (gN l 60),.L (gL l 61),.B (gB l 62),.I (gI l 63),.I (gI l 64),.N (gN l 65),.LL (gLL l 66),.N (gN l 67),.L (gL l 68),.N (gN l 69),.L (gL l 70),.B (gB l 71),.N (gN l 72),.L (gL l 73),.B (gB l 74),.N (List.length (gL A 0)),.L (gL A 0),.B (gB A 1),.I (gI l 84),.I (gI l 85),.N (gN l 86),.LL (gLL l 87),.N (gN l 16),.L (gL l 17),.N (List.length (gL A 0)),.L (gL A 0),.B (gB A 1),.N (List.length (gL A 0)),.L (gL A 0),.B (gB A 1),.I (gI l 75),.I (gI l 76),.I (gI l 77),.N (gN l 78),.L (gL l 79),.N (gN l 80),.L (gL l 81),.N (gN l 82),.L (gL l 83),.I (gI l 84),.I (gI l 85),.N (gN l 86),.LL (gLL l 87),.I (gI l 88),.I (gI l 89),.N (gN l 90),.L (gL l 91)])
 (fun _=>none)) j))
theorem F14.q8:MEqK F14.O 14 F14.sh 8 F14.p8 1 F14.p9 F14_c8:=by intro τ l κ B;kernel_rfl
def F14_c9 {τ:Type} (l:LS_) (k:Nat→LS_→Option τ) (n:LS_→Option τ):Option τ :=
 ck (((eqM (gN l 108) (List.length (gL l 109)))&&true)&&((eqM (gN l 14) (List.length (gL l 15)))&&((eqM (gN l 16) (List.length (gL l 17)))&&true)))
 (T30 [.I (gI l 106),.I (gI l 107),.L (gL l 109),.L (gL l 15),.L (gL l 17)]
 (fun j A=>(sw (ck (((eqM (gN l 104) (List.length (gLL l 105)))&&true)&&((eqM (List.length (gL A 0)) (List.length (gL A 0)))&&true))
 (T62 [.I (gI l 102),.I (gI l 103),.LL (gLL l 105),.L (gL A 0)]
 (fun j B=>(sw (n [.I (gI l 0),.I (gI l 1),.I (gI l 2),.N (gN l 3),.L (gL l 4),.N (gN l 5),.L (gL l 6),.N (gN l 7),.L (gL l 8),.I (gI l 9),.B (gB l 10),.B (gB l 11),.N (gN l 12),.LL (gLL l 13),.N (gN l 14),.L (gL l 15),.N (gN l 16),.L (gL l 17),.N (gN l 18),.L (gL l 19),.B (gB l 20),.N (gN l 21),.L (gL l 22),.B (gB l 23),.N (List.length (gL B 0)),.L (gL B 0),.B (gB B 1),.B (gB l 24),.B (gB l 25),.B (gB l 26),.I (gI l 27),.I (gI l 28),.I (gI l 29),.N (gN l 30),.L (gL l 31),.I (gI l 32),.I (gI l 33),.N (gN l 34),.LL (gLL l 35),.I (gI l 36),.I (gI l 37),.I (gI l 38),.N (gN l 39),.L (gL l 40),.I (gI l 41),.I (gI l 42),.N (gN l 43),.LL (gLL l 44),.N (gN l 45),.LL (gLL l 46),.N (gN l 47),.LL (gLL l 48),.I (gI l 49),.B (gB l 50),.I (gI l 51),.I (gI l 52),.N (gN l 53),.L (gL l 54),.N (gN l 55),.L (gL l 56),.I (gI l 57),.I (gI l 58),.N (gN l 59),.L (gL l 60),.N (gN l 61),.L (gL l 62),.N (gN l 63),.L (gL l 64),.B (gB l 65),.I (gI l 66),.I (gI l 67),.N (gN l 68),.LL (gLL l 69),.N (gN l 70),.L (gL l 71),.N (gN l 72),.L (gL l 73),.B (gB l 74),.N (gN l 75),.L (gL l 76),.B (gB l 77),.N (gN l 78),.L (gL l 79),.B (gB l 80),.I (gI l 81),.I (gI l 82),.N (gN l 83),.LL (gLL l 84),.N (gN l 85),.L (gL l 86),.N (gN l 87),.L (gL l 88),.B (gB l 89),.N (gN l 90),.L (gL l 91),.B (gB l 92),.N (List.length (gL B 0)),.L (gL B 0),.B (gB B 1),.I (gI l 102),.I (gI l 103),.N (gN l 104),.LL (gLL l 105),.I (gI l 106),.I (gI l 107),.N (gN l 108),.L (gL l 109),.N (gN l 14),.L (gL l 15),.N (gN l 16),.L (gL l 17),.N (List.length (gL A 0)),.L (gL A 0),.N (List.length (gL B 0)),.L (gL B 0),.B (gB B 1),.N (List.length (gL B 0)),.L (gL B 0),.B (gB B 1),.I (gI l 93),.I (gI l 94),.I (gI l 95),.N (gN l 96),.L (gL l 97),.N (gN l 98),.L (gL l 99),.N (gN l 100),.L (gL l 101),.I (gI l 102),.I (gI l 103),.N (gN l 104),.LL (gLL l 105),.I (gI l 106),.I (gI l 107),.N (gN l 108),.L (gL l 109)])
 (fun _=>none)) j)))
 (fun _=>none)) j))
theorem F14.q9:MEqK F14.O 14 F14.sh 9 F14.p9 1 F14.p10 F14_c9:=by intro τ l κ B;kernel_rfl
def F14_c10 {τ:Type} (l:LS_) (k:Nat→LS_→Option τ) (n:LS_→Option τ):Option τ :=
 ck (!((((gN l 12):Nat):Int)==0))
 (ck (((leI 0 (Int.tmod (wr .i64 (gI l 9)) (((gN l 12):Nat):Int)))&&(ltI (Int.tmod (wr .i64 (gI l 9)) (((gN l 12):Nat):Int)) (((gN l 12):Nat):Int)))&&true)
 (ck (ltN ((Int.toNat (Int.tmod (wr .i64 (gI l 9)) (((gN l 12):Nat):Int)))*1) (List.length (gLL l 13)))
 (ck (((eqM (gN l 134) (List.length (gL l 135)))&&true)&&((eqM (gN l 14) (List.length (gL l 15)))&&((eqM (List.length (List.getD (gLL l 13) ((Int.toNat (Int.tmod (wr .i64 (gI l 9)) (((gN l 12):Nat):Int)))*1) [])) (List.length (List.getD (gLL l 13) ((Int.toNat (Int.tmod (wr .i64 (gI l 9)) (((gN l 12):Nat):Int)))*1) [])))&&true)))
 (T30 [.I (gI l 132),.I (gI l 133),.L (gL l 135),.L (gL l 15),.L (List.getD (gLL l 13) ((Int.toNat (Int.tmod (wr .i64 (gI l 9)) (((gN l 12):Nat):Int)))*1) [])]
 (fun j A=>(sw (ck (((eqM (gN l 130) (List.length (gLL l 131)))&&true)&&((eqM (List.length (gL A 0)) (List.length (gL A 0)))&&true))
 (T62 [.I (gI l 128),.I (gI l 129),.LL (gLL l 131),.L (gL A 0)]
 (fun j B=>(sw (n [.I (gI l 0),.I (gI l 1),.I (gI l 2),.N (gN l 3),.L (gL l 4),.N (gN l 5),.L (gL l 6),.N (gN l 7),.L (gL l 8),.I (gI l 9),.B (gB l 10),.B (gB l 11),.N (gN l 12),.LL (gLL l 13),.N (gN l 14),.L (gL l 15),.N (gN l 16),.L (gL l 17),.N (gN l 18),.L (gL l 19),.B (gB l 20),.N (gN l 21),.L (gL l 22),.B (gB l 23),.N (gN l 24),.L (gL l 25),.B (gB l 26),.N (List.length (gL B 0)),.L (gL B 0),.B (gB B 1),.B (gB l 27),.B (gB l 28),.B (gB l 29),.I (gI l 30),.I (gI l 31),.I (gI l 32),.N (gN l 33),.L (gL l 34),.I (gI l 35),.I (gI l 36),.N (gN l 37),.LL (gLL l 38),.I (gI l 39),.I (gI l 40),.I (gI l 41),.N (gN l 42),.L (gL l 43),.I (gI l 44),.I (gI l 45),.N (gN l 46),.LL (gLL l 47),.N (gN l 48),.LL (gLL l 49),.N (gN l 50),.LL (gLL l 51),.I (gI l 52),.B (gB l 53),.I (gI l 54),.I (gI l 55),.N (gN l 56),.L (gL l 57),.N (gN l 58),.L (gL l 59),.I (gI l 60),.I (gI l 61),.N (gN l 62),.L (gL l 63),.N (gN l 64),.L (gL l 65),.N (gN l 66),.L (gL l 67),.B (gB l 68),.I (gI l 69),.I (gI l 70),.N (gN l 71),.LL (gLL l 72),.N (gN l 73),.L (gL l 74),.N (gN l 75),.L (gL l 76),.B (gB l 77),.N (gN l 78),.L (gL l 79),.B (gB l 80),.N (gN l 81),.L (gL l 82),.B (gB l 83),.I (gI l 84),.I (gI l 85),.N (gN l 86),.LL (gLL l 87),.N (gN l 88),.L (gL l 89),.N (gN l 90),.L (gL l 91),.B (gB l 92),.N (gN l 93),.L (gL l 94),.B (gB l 95),.N (gN l 96),.L (gL l 97),.B (gB l 98),.I (gI l 99),.I (gI l 100),.N (gN l 101),.LL (gLL l 102),.I (gI l 103),.I (gI l 104),.N (gN l 105),.L (gL l 106),.N (gN l 107),.L (gL l 108),.N (gN l 109),.L (gL l 110),.N (gN l 111),.L (gL l 112),.N (gN l 113),.L (gL l 114),.B (gB l 115),.N (gN l 116),.L (gL l 117),.B (gB l 118),.N (List.length (gL B 0)),.L (gL B 0),.B (gB B 1),.I (gI l 128),.I (gI l 129),.N (gN l 130),.LL (gLL l 131),.I (gI l 132),.I (gI l 133),.N (gN l 134),.L (gL l 135),.N (gN l 14),.L (gL l 15),.N (gN l 12),.LL (gLL l 13),.I (gI l 9),.I (wr .i64 (gI l 9)),.N (gN l 12),.LL (gLL l 13),.I (gN l 12),.I (Int.tmod (wr .i64 (gI l 9)) (((gN l 12):Nat):Int)),.LL (gLL l 13),.N ((Int.toNat (Int.tmod (wr .i64 (gI l 9)) (((gN l 12):Nat):Int)))*1),.N (List.length (List.getD (gLL l 13) ((Int.toNat (Int.tmod (wr .i64 (gI l 9)) (((gN l 12):Nat):Int)))*1) [])),.L (List.getD (gLL l 13) ((Int.toNat (Int.tmod (wr .i64 (gI l 9)) (((gN l 12):Nat):Int)))*1) []),.N (List.length (gL A 0)),.L (gL A 0),.N (List.length (gL B 0)),.L (gL B 0),.B (gB B 1),.N (List.length (gL B 0)),.L (gL B 0),.B (gB B 1),.I (gI l 119),.I (gI l 120),.I (gI l 121),.N (gN l 122),.L (gL l 123),.N (gN l 124),.L (gL l 125),.N (gN l 126),.L (gL l 127),.I (gI l 128),.I (gI l 129),.N (gN l 130),.LL (gLL l 131),.I (gI l 132),.I (gI l 133),.N (gN l 134),.L (gL l 135)])
 (fun _=>none)) j)))
 (fun _=>none)) j)))))
theorem F14.q10:MEqK F14.O 14 F14.sh 10 F14.p10 1 F14.p11 F14_c10:=by intro τ l κ B;kernel_rfl
def F14_c11 {τ:Type} (l:LS_) (k:Nat→LS_→Option τ):Option τ :=
 br (!(gB l 20))
 (k 0 [.B false])
 (br (!(gB l 23))
 (k 0 [.B false])
 (br (!(gB l 26))
 (k 0 [.B false])
 (br (!(gB l 29))
 (k 0 [.B false])
 (br ((((gN l 18):Nat):Int) != (wr .i64 ((gI l 165)-(((gN l 166):Nat):Int))))
 (k 0 [.B false])
 (br ((((gN l 21):Nat):Int) != (((gN l 18):Nat):Int))
 (k 0 [.B false])
 (ck (((eqM (gN l 170) (List.length (gL l 171)))&&true)&&((eqM (gN l 18) (List.length (gL l 19)))&&((eqM (gN l 21) (List.length (gL l 22)))&&true)))
 (T30 [.I (gI l 168),.I (gI l 169),.L (gL l 171),.L (gL l 19),.L (gL l 22)]
 (fun j A=>(sw (ck ((eqM (gN l 24) (List.length (gL l 25)))&&((eqM (List.length (gL A 0)) (List.length (gL A 0)))&&true))
 (T27 [.L (gL l 25),.L (gL A 0)]
 (fun j B=>(sw (br (!(gB B 0))
 (k 0 [.B false])
 (ck ((eqM (gN l 27) (List.length (gL l 28)))&&((eqM (gN l 18) (List.length (gL l 19)))&&true))
 (T27 [.L (gL l 28),.L (gL l 19)]
 (fun j C=>(sw (br (!(gB C 0))
 (k 0 [.B false])
 (ck (((eqM (gN l 166) (List.length (gLL l 167)))&&true)&&((eqM (gN l 14) (List.length (gL l 15)))&&true))
 (T47 [.I (gI l 164),.I (gI l 165),.LL (gLL l 167),.L (gL l 15)]
 (fun j D=>(sw (ck ((eqM (gN l 18) (List.length (gL l 19)))&&true)
 (T63 [.L (gL l 19)]
 (fun j E=>(sw (br (((gI D 1)==0)==((gI E 0)==0))
 (br ((gI D 1)==0)
 (k 0 [.B (gB l 11)])
 (br ((gI D 1)==6)
 (k 0 [.B (gB l 11)])
 (k 0 [.B false])))
 (k 0 [.B false]))
 (fun _=>none)) j)))
 (fun _=>none)) j))))
 (fun _=>none)) j))))
 (fun _=>none)) j)))
 (fun _=>none)) j))))))))
theorem F14.q11:REqK F14.O 14 F14.sh 11 F14.p11 F14_c11:=by intro τ l κ;kernel_rfl
def F14_d10 {τ:Type} (l:LS_) (k:Nat→LS_→Option τ):Option τ:=F14_c10 l k fun m=>F14_c11 m k
theorem F14.r10:REqK F14.O 14 F14.sh 10 F14.p10 F14_d10:=MEqK.join (n:=10) (m:=1) (p:=F14.p10) (p2:=F14.p11) (F:=F14_c10) (G:=F14_c11) F14.q10 F14.q11
def F14_d9 {τ:Type} (l:LS_) (k:Nat→LS_→Option τ):Option τ:=F14_c9 l k fun m=>F14_d10 m k
theorem F14.r9:REqK F14.O 14 F14.sh 9 F14.p9 F14_d9:=MEqK.join (n:=9) (m:=1) (p:=F14.p9) (p2:=F14.p10) (F:=F14_c9) (G:=F14_d10) F14.q9 F14.r10
def F14_d8 {τ:Type} (l:LS_) (k:Nat→LS_→Option τ):Option τ:=F14_c8 l k fun m=>F14_d9 m k
theorem F14.r8:REqK F14.O 14 F14.sh 8 F14.p8 F14_d8:=MEqK.join (n:=8) (m:=1) (p:=F14.p8) (p2:=F14.p9) (F:=F14_c8) (G:=F14_d9) F14.q8 F14.r9
def F14_d7 {τ:Type} (l:LS_) (k:Nat→LS_→Option τ):Option τ:=F14_c7 l k fun m=>F14_d8 m k
theorem F14.r7:REqK F14.O 14 F14.sh 7 F14.p7 F14_d7:=MEqK.join (n:=7) (m:=1) (p:=F14.p7) (p2:=F14.p8) (F:=F14_c7) (G:=F14_d8) F14.q7 F14.r8
def F14_d6 {τ:Type} (l:LS_) (k:Nat→LS_→Option τ):Option τ:=F14_c6 l k fun m=>F14_d7 m k
theorem F14.r6:REqK F14.O 14 F14.sh 6 F14.p6 F14_d6:=MEqK.join (n:=6) (m:=1) (p:=F14.p6) (p2:=F14.p7) (F:=F14_c6) (G:=F14_d7) F14.q6 F14.r7
def F14:Option τ:=F14_c0 l k fun m=>F14_d6 m k
theorem F14.eq:FEq F14.O 14 F14.ps F14.sh F14:=FEqK.join (n:=6) (p:=F14.p6) (F:=F14_c0) (G:=F14_d6) F14.q0 F14.r6
def F14.E:Ent P:=mkF F14.eq
end
end Go.Proofs.Ytbpjicbpcfkpfaa.Ai
namespace Go.Proofs.Ytbpjicbpcfkpfaa.Ai
open Go Ma
noncomputable section
set_option maxRecDepth 100000 in
theorem F14_true {ls:LS_} (h:okLs [.int .u8,.int .u8,.int .u8,.arr (.i .u8),.arr (.i .u8),.arr (.i .u8),.int .u8] ls) {τ:Type} (k:Nat→LS_→Option τ):F14 ls k=k 0 [.B true]:=by
 have hfu:=fuel_le
 obtain ⟨Q,N,K,L,l1,rfl,hQ,hN,hK,hL,h1⟩:=raw13 h
 obtain ⟨x1,l2,rfl,a1,h2⟩:=okLs_cons h1
 obtain ⟨za,rfl,ba⟩:=ok_bytes a1
 obtain ⟨x2,l3,rfl,a2,h3⟩:=okLs_cons h2
 obtain ⟨zb,rfl,bb⟩:=ok_bytes a2
 obtain ⟨x3,l4,rfl,a3,h4⟩:=okLs_cons h3
 obtain ⟨I,rfl,b3⟩:=ok_int a3
 have hI:=wf_u8 b3
 obtain rfl:=okLs_nil h4
 obtain ⟨q,n,G,hc,hT⟩:=T35_spec hQ hN hK hL
 have C:=hc.lc
 obtain ⟨D,dl,ds⟩:=C.dual
 have n1:=C.n1
 have n0:=C.n0
 have gl:=C.len
 have hqq:=qs_lt hc.fq
 have F:=fld q hc.fq
 have hcnt:=hc.count
 have hl:=words_len (n:=n) hc.fq G (List.replicate n 0)
 have hW:=words_wd F G _ hc.rows.wd (Wd.zeros (q:=q) (n:=n) (by omega))
 have hpos:0<(words q (fadd q) (fmul q) G (List.replicate n 0)).length:=by rw [hl];exact Nat.pow_pos (by omega)
 have ix:=tmod_in (a:=I) (b:=((words q (fadd q) (fmul q) G (List.replicate n 0)).length:Int)) hI.1 (by omega)
 obtain ⟨i,hi,hin⟩:∃ i:Nat,Int.tmod I ((words q (fadd q) (fmul q) G (List.replicate n 0)).length:Int)=i∧i<(words q (fadd q) (fmul q) G (List.replicate n 0)).length:=⟨(Int.tmod I ((words q (fadd q) (fmul q) G (List.replicate n 0)).length:Int)).toNat,by omega,by omega⟩
 have hx:Sp q n (fadd q) (fmul q) G ((words q (fadd q) (fmul q) G (List.replicate n 0)).getD i []):=by
  rw [List.getD_eq_getElem?_getD,List.getElem?_eq_getElem hin]
  exact List.getElem_mem _
 obtain ⟨a,wa,hTa⟩:=T54_spec (n:=n) hc.fq (by omega) ba
 obtain ⟨b,wb,hTb⟩:=T54_spec (n:=n) hc.fq (by omega) bb
 unfold F14 F14_c0 T34
 simp only [g_,sw_zero]
 rw [br_no (b:=!true) rfl,ck_of (by simp),hT]
 simp only [g_,sw_zero]
 rw [T29_spec hc.fq]
 simp only [g_,sw_zero]
 rw [ck_of (by simp),T41_spec hc]
 simp only [sw_zero,gLL_zero]
 have wx:=hW _ hx
 generalize (words q (fadd q) (fmul q) G (List.replicate n 0))=W at *
 generalize hxd:W.getD i []=x at hx wx
 have wab:=wa.vadd F wb
 have wax:=wa.vadd F wx
 have sa:=synd_wd C wa
 have sb:=synd_wd C wb
 have sx:=(synd_zero C wx).2 hx
 have sl:=synd_len (q:=q) (n:=n) (G:=G) a
 have sbl:=synd_len (q:=q) (n:=n) (G:=G) b
 have e1:=synd_add C wa wb
 have e2:=synd_add C wa wx
 rw [sx,vadd_zeros F sa] at e2
 rw [br_no (by simp;intro e;rw [e] at hpos;simp at hpos)]
 unfold F14_d6 F14_c6
 simp only [g_,sw_zero]
 rw [ck_of (by simp),hTa]
 simp only [sw_zero,gL_zero]
 rw [ck_of (by simp),hTb]
 simp only [sw_zero,gL_zero]
 unfold F14_d7 F14_c7
 simp only [g_,sw_zero]
 rw [ck_of (by simp),T62_ok C wa]
 simp only [sw_zero,gL_zero,gB_succ,gB_zero]
 unfold F14_d8 F14_c8
 simp only [g_,sw_zero]
 rw [ck_of (by simp),T62_ok C wb]
 simp only [sw_zero,gL_zero,gB_succ,gB_zero]
 unfold F14_d9 F14_c9
 simp only [g_,sw_zero]
 rw [ck_of (by simp),T30_spec hc.fq wa wb (by omega)]
 simp only [sw_zero,gL_zero]
 rw [ck_of (by simp),T62_ok C wab]
 simp only [sw_zero,gL_zero,gB_succ,gB_zero]
 unfold F14_d10 F14_c10
 simp only [g_,sw_zero]
 rw [ck_of (by simp;intro e;rw [e] at hpos;simp at hpos),wr64 (n:=I) (by omega) (by omega),hi,Int.toNat_natCast,Nat.mul_one,hxd,ck_of (by simp;omega),ck_of (by simp;omega),ck_of (by simp),T30_spec hc.fq wa wx (by omega)]
 simp only [sw_zero,gL_zero]
 rw [ck_of (by simp),T62_ok C wax]
 simp only [sw_zero,gL_zero,gB_succ,gB_zero]
 unfold F14_c11
 simp only [g_,sw_zero]
 rw [e1,e2,br_no (b:=!true) rfl,br_no (b:=!true) rfl,br_no (b:=!true) rfl,br_no (b:=!true) rfl,br_no (by rw [sl,wr64 (by omega) (by omega)];simp;omega),br_no (by rw [sl,sbl];simp),ck_of (by simp),T30_spec hc.fq sa sb (by omega)]
 simp only [sw_zero,gL_zero]
 unfold T27 T63
 have sab:=sa.vadd F sb
 have sabl:=sab.1
 rw [ck_of (by simp),F27_spec _ _ _ (by omega),decide_eq_true rfl]
 simp only [sw_zero,gB_zero]
 rw [br_no (b:=!true) rfl,ck_of (by simp),F27_spec _ _ _ (by omega),decide_eq_true rfl]
 simp only [sw_zero,gB_zero]
 rw [br_no (b:=!true) rfl,ck_of (by simp)]
 by_cases hs:Sp q n (fadd q) (fmul q) G a
 ·rw [T47_ok C wa hs]
  simp only [sw_zero,gI_succ,gI_zero]
  have z:wt (synd q n G a).length (synd q n G a)=0:=wt_none.2 (by rw [sl];exact (synd_zero C wa).2 hs)
  rw [ck_of (by simp),F63_spec (by omega),z]
  rfl
 ·rw [T47_not C wa hs]
  simp only [sw_zero,gI_succ,gI_zero]
  have z:wt (synd q n G a).length (synd q n G a)≠0:=fun e=>hs ((synd_zero C wa).1 (by have:=wt_none.1 e;rw [sl] at this;exact this))
  rw [ck_of (by simp),F63_spec (by omega)]
  simp only [sw_zero,gI_zero]
  rw [br_of (by
   have:(((wt (synd q n G a).length (synd q n G a):Nat):Int)==0)=false:=by simp;exact z
   rw [this];rfl),br_no (by rfl),br_of (by rfl)]
theorem law14 (ls:LS_) (h:okLs ([PV2.agg [.int .u8,.int .u8,.int .u8,.arr (.i .u8)],PV2.agg [.arr (.i .u8),.arr (.i .u8)],PV2.v (.int .u8)].flatMap cells2) ls):CS P 14 (fL2 ls [PV2.agg [.int .u8,.int .u8,.int .u8,.arr (.i .u8)],PV2.agg [.arr (.i .u8),.arr (.i .u8)],PV2.v (.int .u8)] 0) ⟨.bool true,[]⟩ :=
 F_ok F14.eq ((F14_true h _).trans (by kernel_rfl))
end
end Go.Proofs.Ytbpjicbpcfkpfaa.Ai
