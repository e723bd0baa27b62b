/-
Part 5 of 7 of the texts for one claim: P18 P19 P20 P21 Xg P22.
-/
import Derived.Test.YtbpjicbpcfkpfaaCc4
set_option linter.unusedVariables false
set_option linter.unusedSimpArgs false
namespace Go.Proofs.Ytbpjicbpcfkpfaa.Ai
open Go Ma
noncomputable section
def Up (i:Nat) (g:List Int):Prop:=g.length≤i∧∀ k,k<g.length→Gn i g k
theorem Up.add {i:Nat} {g:List Int} (h:Up i g):Up (i+1) (g++[((i:Nat):Int)]):=by
 refine ⟨by simp;exact h.1,fun k hk=>?_⟩
 simp only [List.length_append,List.length_cons,List.length_nil] at hk
 have get:∀ j,j<g.length→(g++[((i:Nat):Int)]).getD j 0=g.getD j 0:=fun j hj=>by
  rw [List.getD_eq_getElem?_getD,List.getElem?_append_left hj,←List.getD_eq_getElem?_getD]
 have last:(g++[((i:Nat):Int)]).getD g.length 0=i:=by
  rw [List.getD_eq_getElem?_getD,List.getElem?_append_right (Nat.le_refl _)]
  simp
 unfold Gn
 by_cases hk2:k<g.length
 ·have:=h.2 k hk2
  unfold Gn at this
  rw [get k hk2]
  refine ⟨this.1,by omega,fun h0=>?_⟩
  rw [get (k-1) (by omega)]
  exact this.2.2 h0
 ·have:k=g.length:=by omega
  subst this
  rw [last]
  refine ⟨by omega,by omega,fun h0=>?_⟩
  rw [get _ (by omega)]
  exact (h.2 (g.length-1) (by omega)).2.1
theorem Up.skip {i:Nat} {g:List Int} (h:Up i g):Up (i+1) g:=by
 refine ⟨by have:=h.1;omega,fun k hk=>?_⟩
 have:=h.2 k hk
 unfold Gn at this ⊢
 exact ⟨this.1,by omega,this.2.2⟩
theorem Up.gone {i:Nat} {g:List Int} (h:Up i g):isGone i g=true:=isGone_iff.2 fun k _ hk=>h.2 k hk
def T17 {τ:Type} (l:LS_) (k:Nat→LS_→Option τ):Option τ:=wrapB F17.E (.v pCase) l k
def T17.E:Ent P:=F17.E.wrap (.v pCase)
theorem words_len {q n:Nat} (hq:q∈Qs) (G:List (List Int)) (z:List Int):(words q (fadd q) (fmul q) G z).length=q^G.length:=by
 rw [←words_digs q (by have:=qs_lt hq;omega) (fadd q) (fmul q) G z,List.length_map,List.length_range]
theorem Up.nil {n:Nat}:Up n []:=⟨Nat.zero_le _,fun k hk=>by simp at hk⟩
section
variable {q:Nat} {lost:Nat→Bool} {w:List Int} {G:List (List Int)} {En:List Nat} {i:Nat} {x:List Int} {t:Nat}
end
end
end Go.Proofs.Ytbpjicbpcfkpfaa.Ai
namespace Go.Proofs.Ytbpjicbpcfkpfaa.Ai
open Go Ma
noncomputable section
def T20 {τ:Type} (l:LS_) (k:Nat→LS_→Option τ):Option τ:=wrapB F20.E (.tup [pReply,pI]) l k
def T20.E:Ent P:=F20.E.wrap (.tup [pReply,pI])
end
end Go.Proofs.Ytbpjicbpcfkpfaa.Ai
namespace Go.Proofs.Ytbpjicbpcfkpfaa.Ai
open Go Go.RowKit
noncomputable section
variable {τ:Type} (t:Nat) (nx ex:Nat→LS_→Option τ) (l:LS_) (k κ:Nat→LS_→Option τ)
def F28.ps:List PV2:=[(PV2.agg [iI,iI,aM]),(PV2.agg [aI,aI]),pI]
def F28.sh:List PA:=[(PA.mk (PV3.v (PV2.agg [iI,iI,PV1.nilS,PV1.nilS])) []),(PA.mk (PV3.v (PV2.agg [iI,iI,(PV1.sl (PC0.i .i64)),(PV1.sl (PC0.m .i64))])) [])]
def F28.O:Orc P:=⟨[T20.E],[],[],40⟩
def F28:Option τ :=
 ck (((eqM (List.length (gLL l 2)) (List.length (gLL l 2)))&&true)&&(((eqM (List.length (gL l 3)) (List.length (gL l 3)))&&((eqM (List.length (gL l 4)) (List.length (gL l 4)))&&true))&&true))
 (T20 [.I (gI l 0),.I (gI l 1),.LL (gLL l 2),.L (gL l 3),.L (gL l 4),.I (gI l 5)]
 (fun j A=>(sw (br ((gI A 4) != 0)
 (k 0 [.I 0,.I 0])
 (k 1 [.I (gI A 0),.I (gI A 1),.N (List.length (gL A 2)),.L (gL A 2),.N (List.length (gLL A 3)),.LL (gLL A 3)]))
 (fun _=>none)) j))
theorem F28.eq:FEq F28.O 28 F28.ps F28.sh F28:=by intro τ l κ;kernel_rfl
def F28.E:Ent P:=mkF F28.eq
def T28 {τ:Type} (l:LS_) (k:Nat→LS_→Option τ):Option τ:=F28 l k
def T28.E:Ent P:=F28.E
def T23 {τ:Type} (l:LS_) (k:Nat→LS_→Option τ):Option τ:=F23 l k
def T23.E:Ent P:=F23.E
end
end Go.Proofs.Ytbpjicbpcfkpfaa.Ai
namespace Go.Proofs.Ytbpjicbpcfkpfaa.Ai
open Go Ma
noncomputable section
end
end Go.Proofs.Ytbpjicbpcfkpfaa.Ai
