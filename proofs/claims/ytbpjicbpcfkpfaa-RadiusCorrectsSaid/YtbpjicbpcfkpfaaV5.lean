/-
Part 5 of 7 of the texts for one claim: P12 P13 P14 P15 P16 W1 P17 Wa Xe P18 P19 P20 P21 Xg P22.
-/
import Derived.Test.YtbpjicbpcfkpfaaV4
set_option linter.unusedVariables false
set_option linter.unusedSimpArgs false
namespace Go.Proofs.Ytbpjicbpcfkpfaa.Ai
open Go Ma
noncomputable section
theorem S114_1_spec {perm:List Nat} {fam m:List (List Int)} (hM:Mx perm fam m) (hs:m.length<2^30) {n:Nat} (hw:∀ i,i<m.length→(m.getD i []).length=n) (r c:Nat) (hc:c<n) (hr:r≤m.length) {τ:Type} (k:Nat→LS_→Option τ) :
  S114_1 [.N r,.N (m.length-r),.LN perm,.I c,.LL fam] k=if findp m c (m.length-r) r=m.length then k 0 [.I (-1),.LN perm,.I c,.LL fam] else k 0 [.I ((findp m c (m.length-r) r-r:Nat):Int),.LN perm,.I c,.LL fam]:=by
 have hfu:=fuel_le
 unfold S114_1 L114_2_1.b
 simp only [g_,gLN_zero,gLN_succ]
 have:=L114_2_1_spec hM hs hw r c hc hr (fun j l55=>(sw (k 0 [.I (gI l55 0),.LN (gLN l55 1),.I (gI l55 2),.LL (gLL l55 3)]) (sw (k 0 [.I (-(1:Int)),.LN (gLN l55 1),.I (gI l55 2),.LL (gLL l55 3)]) (fun _=>none))) j) fuel 0 (m.length-r) (by omega) (by omega) (by omega)
 refine Eq.trans this ?_
 rw [Nat.add_zero]
 split <;> rfl
theorem red_succ {add mul:Int→Int→Int} {neg inv:Int→Int} {g c r:Nat} {m:List (List Int)}:red add mul neg inv (g+1) c r m=(if r<m.length then (if findp m c (m.length-r) r=m.length then red add mul neg inv g (c+1) r m
   else red add mul neg inv g (c+1) (r+1) (elim add mul neg (lift mul inv m r (findp m c (m.length-r) r) c) r c)) else (m,r)):=rfl
theorem L84_3_spec {q n:Nat} (hq:q∈Qs):∀ (f g:Nat) (u:Int) (c r:Nat) (m:List (List Int)) (perm:List Nat) (fam:List (List Int)),Rows q n m→Mx perm fam m→g+c=n→r≤m.length→n<f+c →
    ∃ perm' fam' x,Mx perm' fam' (red (fadd q) (fmul q) (fneg q) (finv q) g c r m).1∧∀ {τ:Type} (κ:Nat→LS_→Option τ),runE L84_3 f κ 1 [.I n,.N m.length,.I r,.L (fm q),.LN perm,.LL fam,.I (fp q),.I (fe q),.N (fm q).length,.I u,.I c]=κ 0 [.N m.length,.I (red (fadd q) (fmul q) (fneg q) (finv q) g c r m).2,.L (fm q),.LN perm',.LL fam',.I (fp q),.I (fe q),.N (fm q).length,.I x]
  | 0,g,u,c,r,m,perm,fam,hm,hM,hg,hr,hf=>by omega
  | f+1,0,u,c,r,m,perm,fam,hm,hM,hg,hr,hf=>by
    refine ⟨perm,fam,u,hM,fun {τ} κ=>?_⟩
    rw [runE_succ]
    show L84_3.s1 _ _ _=_
    unfold L84_3.s1
    simp only [g_,gLN_zero,gLN_succ,Int.toNat_natCast,Nat.mul_one,Nat.zero_add,List.drop_zero,List.take_length]
    rw [br_no (by simp;omega)]
    rfl
  | f+1,g+1,u,c,r,m,perm,fam,hm,hM,hg,hr,hf=>by
    have h1:=hm.few
    have h2:=hm.short
    have F:=fld q hq
    have hfu:=fuel_le
    have hpl:=hM.len
    have hc:c<n:=by omega
    rw [red_succ]
    by_cases hlt:r<m.length
    · rw [if_pos hlt]
      obtain ⟨a1,a2,a3,a4⟩:=findp_spec m c (m.length-r) r (by omega) (by omega)
      have hfind:∀ {τ:Type} (k:Nat→LS_→Option τ),_:=fun {τ} k=>S114_1_spec hM (by omega) (fun i hi=>(hm.wd i hi).1) r c hc hr k
      generalize hp:findp m c (m.length-r) r=p at *
      by_cases hpz:p=m.length
      · rw [if_pos hpz]
        obtain ⟨perm',fam',x,c1,c2⟩:=L84_3_spec hq f g u (c+1) r m perm fam hm hM (by omega) hr (by omega)
        refine ⟨perm',fam',x,c1,fun {τ} κ=>?_⟩
        have c2:=c2 κ
        rw [runE_succ]
        show L84_3.s1 _ _ _=_
        unfold L84_3.s1
        simp only [g_,gLN_zero,gLN_succ,Int.toNat_natCast,Nat.mul_one,Nat.zero_add,List.drop_zero,List.take_length]
        rw [br_of (by simp;omega),br_of (by simp;omega),ck_of (by simp;omega),br_of (by simp;omega),hfind,if_pos hpz]
        simp only [g_,sw_zero,gLN_zero,gLN_succ]
        rw [br_of (b:=ltI (-1) 0) (by simp),wsucc (by omega)]
        exact c2
      · have hp':p<m.length:=by omega
        rw [if_neg hpz]
        have wp:=hm.wd p hp'
        have x0:=wp.2 c hc
        have xz:(m.getD p []).getD c 0≠0:=a4 hp'
        have hi:=F.inv_in _ x0.1 x0.2
        have hml:=hm.lift hq hlt hp' hc
        have ll:(lift (fmul q) (finv q) m r p c).length=m.length:=lift_len
        have hM2:=hM.swap hlt hp'
        have e2:((m.set r (m.getD p [])).set p (m.getD r [])).getD r []=m.getD p []:=by
          rw [getD_set_row (by simpa using hp'),getD_set_row hlt]
          by_cases e:p=r
          · rw [if_pos e,e]
          · rw [if_neg e,if_pos rfl]
        have b1:=hM.lt r hlt
        have b2:=hM.lt p hp'
        have b3:=hM2.lt r (by simpa using hlt)
        have b4:=hM2.eq r (by simpa using hlt)
        rw [e2] at b4
        have hM3:=hM2.set (i:=r) (by simpa using hlt) (vmul (fmul q) (finv q (ent m p c)) (m.getD p []))
        rw [←lift_swap hlt hp'] at hM3
        have hpl2:((perm.set r (perm.getD p 0)).set p (perm.getD r 0)).length=m.length:=by simp [hpl]
        have hr1:r<perm.length:=by omega
        have hp1:p<perm.length:=by omega
        have hwr:wr .i64 ((r:Int)+((p-r:Nat):Int))=(p:Nat):=by rw [wr64 (by omega) (by omega)];omega
        have wx:(fam.getD (perm.getD r 0) []).length=n:=by rw [hM.eq r hlt];exact (hm.wd r hlt).1
        have wy:(fam.getD (perm.getD p 0) []).length=n:=by rw [hM.eq p hp'];exact wp.1
        generalize hpm:(perm.set r (perm.getD p 0)).set p (perm.getD r 0)=pm at hM2 hM3 b3 b4 hpl2
        obtain ⟨fam2,d1,d2⟩:=L84_15_1_spec hq hml n u r c hc (by rw [ll];exact hlt) fuel 0 _ (by omega) (by omega) (by rw [elimTo_zero];exact hM3)
        obtain ⟨perm',fam',x,c1,c2⟩:=L84_3_spec hq f g u (c+1) (r+1) (elim (fadd q) (fmul q) (fneg q) (lift (fmul q) (finv q) m r p c) r c) pm fam2 (hml.elim hq (by rw [ll];exact hlt) hc) d1 (by omega) (by rw [elim_len,ll];omega) (by omega)
        refine ⟨perm',fam',x,c1,fun {τ} κ=>?_⟩
        have c2:=c2 κ
        rw [elim_len,ll] at c2
        rw [runE_succ]
        show L84_3.s1 _ _ _=_
        unfold L84_3.s1
        simp only [g_,gLN_zero,gLN_succ,Int.toNat_natCast,Nat.mul_one,Nat.zero_add,List.drop_zero,List.take_length]
        rw [br_of (by simp;omega),br_of (by simp;omega),ck_of (by simp;omega),br_of (by simp;omega),hfind,if_neg hpz]
        simp only [g_,sw_zero,gLN_zero,gLN_succ]
        rw [br_no (by simp only [ltI_no];omega),hwr]
        simp only [Int.toNat_natCast,hpm]
        generalize perm.getD r 0=Pr at b1 wx ⊢
        generalize perm.getD p 0=Pp at b2 wy ⊢
        have hsc:=L84_10_1_spec hq (perm:=pm) (r:=r) (by rw [hpl2];exact hlt) (In.of wp) (by rw [wp.1];omega) hi.1 hi.2 n u c (fun j l59=>(sw (L84_15_1.b 0 [.I (gI l59 0),.N (gN l59 1),.I (gI l59 2),.N (gN l59 1),.I (((gN l59 1):Nat):Int),.I (0:Int),.L (gL l59 3),.LN (gLN l59 4),.LL (gLL l59 5),.I (gI l59 6),.I (gI l59 7),.N (gN l59 8),.I (gI l59 9),.I (gI l59 10)]
 (fun j l65=>(sw (runE L84_3 f κ 1 [.I (gI l65 0),.N (gN l65 1),.I (wr IntKind.i64 ((gI l65 2)+(1:Int))),.L (gL l65 3),.LN (gLN l65 4),.LL (gLL l65 5),.I (gI l65 6),.I (gI l65 7),.N (gN l65 8),.I (gI l65 9),.I (wr IntKind.i64 ((gI l65 10)+(1:Int)))])
 (fun _=>none)) j))
 (fun _=>none)) j) fuel 0 fam b3 (Nat.zero_le _) (by rw [wp.1];omega) (by simpa using b4)
        generalize pm.getD r 0=Pq at b3 b4 hsc d2 hM3 ⊢
        rw [hpl2] at hsc
        rw [ck_of (by simp;omega),ck_of (by simp;omega),ck_of (by simp;omega),ck_of (by simp;omega),ck_of (by simp;omega),ck_of (by simp;omega),ck_of (by simp;omega),ck_of (by simp;omega),ck_of (by simp;omega),ck_of (by simp;omega),b4,ck_of (by simp only [wp.1];simp;omega),ck_of (by simp only [wp.1];simp;omega),ck_of (by simp)]
        unfold T116
        rw [tabI_of hq x0.1 x0.2 xz]
        simp only [sw_zero,gI_zero]
        rw [ck_of (by simp;omega),ck_of (by simp;omega)]
        unfold L84_10_1.b
        refine Eq.trans hsc ?_
        simp only [g_,sw_zero,gLN_zero,gLN_succ]
        unfold L84_15_1.b
        rw [ll] at d2
        refine Eq.trans (d2 _) ?_
        simp only [g_,sw_zero,gLN_zero,gLN_succ]
        rw [wsucc (by omega),wsucc (by omega)]
        exact c2
    · rw [if_neg hlt]
      refine ⟨perm,fam,u,hM,fun {τ} κ=>?_⟩
      rw [runE_succ]
      show L84_3.s1 _ _ _=_
      unfold L84_3.s1
      simp only [g_,gLN_zero,gLN_succ,Int.toNat_natCast,Nat.mul_one,Nat.zero_add,List.drop_zero,List.take_length]
      rw [br_of (by simp;omega),br_no (by simp;omega)]
theorem L84_3_spec0 {q n:Nat} (hq:q∈Qs):∀ (f g:Nat) (c r:Nat) (m:List (List Int)) (perm:List Nat) (fam:List (List Int)),Rows q n m→Mx perm fam m→g+c=n→r≤m.length→n<f+c →
    ∃ perm' fam' x,Mx perm' fam' (red (fadd q) (fmul q) (fneg q) (finv q) g c r m).1∧∀ {τ:Type} (κ:Nat→LS_→Option τ),runE L84_3 f κ 0 [.I n,.N m.length,.I r,.L (fm q),.LN perm,.LL fam,.I (fp q),.I (fe q),.N (fm q).length,.I c]=κ 0 [.N m.length,.I (red (fadd q) (fmul q) (fneg q) (finv q) g c r m).2,.L (fm q),.LN perm',.LL fam',.I (fp q),.I (fe q),.N (fm q).length,.I x]
  | 0,g,c,r,m,perm,fam,hm,hM,hg,hr,hf=>by omega
  | f+1,0,c,r,m,perm,fam,hm,hM,hg,hr,hf=>by
    refine ⟨perm,fam,c,hM,fun {τ} κ=>?_⟩
    rw [runE_succ]
    show L84_3.s0 _ _ _=_
    unfold L84_3.s0
    simp only [g_,gLN_zero,gLN_succ,Int.toNat_natCast,Nat.mul_one,Nat.zero_add,List.drop_zero,List.take_length]
    rw [br_no (by simp;omega)]
    rfl
  | f+1,g+1,c,r,m,perm,fam,hm,hM,hg,hr,hf=>by
    have h1:=hm.few
    have h2:=hm.short
    have F:=fld q hq
    have hfu:=fuel_le
    have hpl:=hM.len
    have hc:c<n:=by omega
    rw [red_succ]
    by_cases hlt:r<m.length
    · rw [if_pos hlt]
      obtain ⟨a1,a2,a3,a4⟩:=findp_spec m c (m.length-r) r (by omega) (by omega)
      have hfind:∀ {τ:Type} (k:Nat→LS_→Option τ),_:=fun {τ} k=>S114_1_spec hM (by omega) (fun i hi=>(hm.wd i hi).1) r c hc hr k
      generalize hp:findp m c (m.length-r) r=p at *
      by_cases hpz:p=m.length
      · rw [if_pos hpz]
        obtain ⟨perm',fam',x,c1,c2⟩:=L84_3_spec hq f g c (c+1) r m perm fam hm hM (by omega) hr (by omega)
        refine ⟨perm',fam',x,c1,fun {τ} κ=>?_⟩
        have c2:=c2 κ
        rw [runE_succ]
        show L84_3.s0 _ _ _=_
        unfold L84_3.s0
        simp only [g_,gLN_zero,gLN_succ,Int.toNat_natCast,Nat.mul_one,Nat.zero_add,List.drop_zero,List.take_length]
        rw [br_of (by simp;omega),br_of (by simp;omega),ck_of (by simp;omega),br_of (by simp;omega),hfind,if_pos hpz]
        simp only [g_,sw_zero,gLN_zero,gLN_succ]
        rw [br_of (b:=ltI (-1) 0) (by simp),wsucc (by omega)]
        exact c2
      · have hp':p<m.length:=by omega
        rw [if_neg hpz]
        have wp:=hm.wd p hp'
        have x0:=wp.2 c hc
        have xz:(m.getD p []).getD c 0≠0:=a4 hp'
        have hi:=F.inv_in _ x0.1 x0.2
        have hml:=hm.lift hq hlt hp' hc
        have ll:(lift (fmul q) (finv q) m r p c).length=m.length:=lift_len
        have hM2:=hM.swap hlt hp'
        have e2:((m.set r (m.getD p [])).set p (m.getD r [])).getD r []=m.getD p []:=by
          rw [getD_set_row (by simpa using hp'),getD_set_row hlt]
          by_cases e:p=r
          · rw [if_pos e,e]
          · rw [if_neg e,if_pos rfl]
        have b1:=hM.lt r hlt
        have b2:=hM.lt p hp'
        have b3:=hM2.lt r (by simpa using hlt)
        have b4:=hM2.eq r (by simpa using hlt)
        rw [e2] at b4
        have hM3:=hM2.set (i:=r) (by simpa using hlt) (vmul (fmul q) (finv q (ent m p c)) (m.getD p []))
        rw [←lift_swap hlt hp'] at hM3
        have hpl2:((perm.set r (perm.getD p 0)).set p (perm.getD r 0)).length=m.length:=by simp [hpl]
        have hr1:r<perm.length:=by omega
        have hp1:p<perm.length:=by omega
        have hwr:wr .i64 ((r:Int)+((p-r:Nat):Int))=(p:Nat):=by rw [wr64 (by omega) (by omega)];omega
        have wx:(fam.getD (perm.getD r 0) []).length=n:=by rw [hM.eq r hlt];exact (hm.wd r hlt).1
        have wy:(fam.getD (perm.getD p 0) []).length=n:=by rw [hM.eq p hp'];exact wp.1
        generalize hpm:(perm.set r (perm.getD p 0)).set p (perm.getD r 0)=pm at hM2 hM3 b3 b4 hpl2
        obtain ⟨fam2,d1,d2⟩:=L84_15_spec hq hml n r c hc (by rw [ll];exact hlt) fuel 0 _ (by omega) (by omega) (by rw [elimTo_zero];exact hM3)
        obtain ⟨perm',fam',x,c1,c2⟩:=L84_3_spec hq f g c (c+1) (r+1) (elim (fadd q) (fmul q) (fneg q) (lift (fmul q) (finv q) m r p c) r c) pm fam2 (hml.elim hq (by rw [ll];exact hlt) hc) d1 (by omega) (by rw [elim_len,ll];omega) (by omega)
        refine ⟨perm',fam',x,c1,fun {τ} κ=>?_⟩
        have c2:=c2 κ
        rw [elim_len,ll] at c2
        rw [runE_succ]
        show L84_3.s0 _ _ _=_
        unfold L84_3.s0
        simp only [g_,gLN_zero,gLN_succ,Int.toNat_natCast,Nat.mul_one,Nat.zero_add,List.drop_zero,List.take_length]
        rw [br_of (by simp;omega),br_of (by simp;omega),ck_of (by simp;omega),br_of (by simp;omega),hfind,if_neg hpz]
        simp only [g_,sw_zero,gLN_zero,gLN_succ]
        rw [br_no (by simp only [ltI_no];omega),hwr]
        simp only [Int.toNat_natCast,hpm]
        generalize perm.getD r 0=Pr at b1 wx ⊢
        generalize perm.getD p 0=Pp at b2 wy ⊢
        have hsc:=L84_10_spec hq (perm:=pm) (r:=r) (by rw [hpl2];exact hlt) (In.of wp) (by rw [wp.1];omega) hi.1 hi.2 n c (fun j l59=>(sw (L84_15.b 0 [.I (gI l59 0),.N (gN l59 1),.I (gI l59 2),.N (gN l59 1),.I (((gN l59 1):Nat):Int),.I (0:Int),.L (gL l59 3),.LN (gLN l59 4),.LL (gLL l59 5),.I (gI l59 6),.I (gI l59 7),.N (gN l59 8),.I (gI l59 9)]
 (fun j l65=>(sw (runE L84_3 f κ 1 [.I (gI l65 0),.N (gN l65 1),.I (wr IntKind.i64 ((gI l65 2)+(1:Int))),.L (gL l65 3),.LN (gLN l65 4),.LL (gLL l65 5),.I (gI l65 6),.I (gI l65 7),.N (gN l65 8),.I (gI l65 9),.I (wr IntKind.i64 ((gI l65 9)+(1:Int)))])
 (fun _=>none)) j))
 (fun _=>none)) j) fuel 0 fam b3 (Nat.zero_le _) (by rw [wp.1];omega) (by simpa using b4)
        generalize pm.getD r 0=Pq at b3 b4 hsc d2 hM3 ⊢
        rw [hpl2] at hsc
        rw [ck_of (by simp;omega),ck_of (by simp;omega),ck_of (by simp;omega),ck_of (by simp;omega),ck_of (by simp;omega),ck_of (by simp;omega),ck_of (by simp;omega),ck_of (by simp;omega),ck_of (by simp;omega),ck_of (by simp;omega),b4,ck_of (by simp only [wp.1];simp;omega),ck_of (by simp only [wp.1];simp;omega),ck_of (by simp)]
        unfold T116
        rw [tabI_of hq x0.1 x0.2 xz]
        simp only [sw_zero,gI_zero]
        rw [ck_of (by simp;omega),ck_of (by simp;omega)]
        unfold L84_10.b
        refine Eq.trans hsc ?_
        simp only [g_,sw_zero,gLN_zero,gLN_succ]
        unfold L84_15.b
        rw [ll] at d2
        refine Eq.trans (d2 _) ?_
        simp only [g_,sw_zero,gLN_zero,gLN_succ]
        rw [wsucc (by omega),wsucc (by omega)]
        exact c2
    · rw [if_neg hlt]
      refine ⟨perm,fam,c,hM,fun {τ} κ=>?_⟩
      rw [runE_succ]
      show L84_3.s0 _ _ _=_
      unfold L84_3.s0
      simp only [g_,gLN_zero,gLN_succ,Int.toNat_natCast,Nat.mul_one,Nat.zero_add,List.drop_zero,List.take_length]
      rw [br_of (by simp;omega),br_no (by simp;omega)]
open Classical in
theorem L100_2_spec (q:Int) {a:List Int} (hs:a.length<2^60) {τ:Type} (κ:Nat→LS_→Option τ):∀ (f j:Nat),j≤a.length→a.length<f+j →
  ∃ i:Nat,runE L100_2 f κ 0 [.N a.length,.L a,.I 0,.I a.length,.I j,.I q]=if (∀ i,j≤i→i<a.length→0≤a.getD i 0∧a.getD i 0<q) then κ 1 [.I 0,.I q] else κ 0 [.I i,.I q]
 | 0,j,h1,h2=>by omega
 | f+1,j,h1,h2=>by
  rw [runE_succ]
  show ∃ i:Nat,L100_2.s0 _ _ _=_
  unfold L100_2.s0
  simp only [g_]
  by_cases hj:j<a.length
  ·have e:=wsucc (j:=j) (by omega)
   simp only [Int.toNat_natCast,Nat.mul_one]
   rw [br_of (by simp;omega),ck_of (by simp <;> omega),ck_of (by simp <;> omega)]
   by_cases h0:0≤a.getD j 0
   ·rw [br_no (by simp only [ltI_no];omega)]
    by_cases h3:a.getD j 0<q
    ·obtain ⟨i,hi⟩:=L100_2_spec q hs κ f (j+1) (by omega) (by omega)
     refine ⟨i,?_⟩
     rw [br_no (by simp only [geI_no];omega),e,hi]
     have hh:(∀ i,j+1≤i→i<a.length→0≤a.getD i 0∧a.getD i 0<q)↔(∀ i,j≤i→i<a.length→0≤a.getD i 0∧a.getD i 0<q):=by
      refine ⟨fun h i hi hl=>?_,fun h i hi hl=>h i (by omega) hl⟩
      by_cases he:i=j
      ·subst he;exact ⟨h0,h3⟩
      ·exact h i (by omega) hl
     simp only [hh]
    ·refine ⟨j,?_⟩
     rw [br_of (by simp only [geI_iff];omega),if_neg (fun h=>h3 (h j (Nat.le_refl _) hj).2)]
   ·refine ⟨j,?_⟩
    rw [br_of (by simp only [ltI_iff];omega),if_neg (fun h=>h0 (h j (Nat.le_refl _) hj).1)]
  ·refine ⟨0,?_⟩
   rw [br_no (by simp;omega),if_pos (fun i h1 h2=>by omega)]
theorem S122_0_spec (q:Int) {a:List Int} (hs:a.length<2^60) {τ:Type} (k:Nat→LS_→Option τ) :
  S122_0 [.N a.length,.L a,.I q] k=k 0 [.B (!isWord q a.length a),.I q]:=by
 have hfu:=fuel_le
 unfold S122_0 S100_0 L100_2.b
 simp only [g_]
 obtain ⟨i,hi⟩:=L100_2_spec q hs (fun j l45=>(sw ((fun j l46=>(sw (k 0 [.B (geI (gI l46 0) (0:Int)),.I (gI l46 1)]) (fun _=>none)) j) 0 [.I (gI l45 0),.I (gI l45 1)]) (sw ((fun j l46=>(sw (k 0 [.B (geI (gI l46 0) (0:Int)),.I (gI l46 1)]) (fun _=>none)) j) 0 [.I (-(1:Int)),.I (gI l45 1)]) (fun _=>none))) j) fuel 0 (by omega) (by omega)
 rw [show ((0:Nat):Int)=0 from rfl] at hi
 refine Eq.trans hi ?_
 cases hw:isWord q (a.length:Int) a with
 | true=>rw [if_pos (isWord_iff.1 hw).2];simp [geI]
 | false=>rw [if_neg (fun h=>by rw [isWord_iff.2 ⟨rfl,h⟩] at hw;cases hw)];simp [geI]
theorem F93_spec (q n:Int) {a:List Int} (hs:a.length<2^60) {τ:Type} (k:Nat→LS_→Option τ):F93 [.I q,.I n,.L a] k=k 0 [.B (isWord q n a)]:=by
 unfold F93
 simp only [g_]
 by_cases hn:(a.length:Int)=n
 ·subst hn
  rw [br_of (by simp),S122_0_spec q hs]
  simp
 ·rw [br_no (by simpa using hn)]
  have:isWord q n a=false:=by
   cases hw:isWord q n a with
   | true=>exact absurd (isWord_iff.1 hw).1 hn
   | false=>rfl
  rw [this]
def allWord (q n:Int) (G:List (List Int)):Bool:=(List.range G.length).all fun i=>isWord q n (G.getD i [])
theorem allWord_iff {q n:Int} {G:List (List Int)}:allWord q n G=true↔∀ i,0≤i→i<G.length→isWord q n (G.getD i [])=true:=by
 unfold allWord
 simp only [List.all_eq_true,List.mem_range]
 exact ⟨fun h i _ hi=>h i hi,fun h i hi=>h i (Nat.zero_le _) hi⟩
open Classical in
theorem L114_2_spec (q n:Int) {G:List (List Int)} (hs:G.length<2^60) (hw:∀ i,(G.getD i []).length<2^60) {τ:Type} (κ:Nat→LS_→Option τ):∀ (f j:Nat),j≤G.length→G.length<f+j →
  ∃ i:Nat,runE L114_2 f κ 0 [.N G.length,.LL G,.I 0,.I G.length,.I j,.I q,.I n]=if (∀ i,j≤i→i<G.length→isWord q n (G.getD i [])=true) then κ 1 [.I 0,.I q,.I n] else κ 0 [.I i,.I q,.I n]
 | 0,j,h1,h2=>by omega
 | f+1,j,h1,h2=>by
  rw [runE_succ]
  show ∃ i:Nat,L114_2.s0 _ _ _=_
  unfold L114_2.s0
  simp only [g_]
  by_cases hj:j<G.length
  ·have e:=wsucc (j:=j) (by omega)
   simp only [Int.toNat_natCast,Nat.mul_one]
   rw [br_of (by simp;omega),ck_of (by simp <;> omega),ck_of (by simp <;> omega),ck_of (by simp),F93_spec q n (hw j)]
   simp only [sw_zero,gB_zero]
   cases h0:isWord q n (G.getD j []) with
   | true =>
    obtain ⟨i,hi⟩:=L114_2_spec q n hs hw κ f (j+1) (by omega) (by omega)
    refine ⟨i,?_⟩
    rw [br_no (b:=!true) rfl,e,hi]
    have hh:(∀ i,j+1≤i→i<G.length→isWord q n (G.getD i [])=true)↔(∀ i,j≤i→i<G.length→isWord q n (G.getD i [])=true):=by
     refine ⟨fun h i hi hl=>?_,fun h i hi hl=>h i (by omega) hl⟩
     by_cases he:i=j
     ·subst he;exact h0
     ·exact h i (by omega) hl
    simp only [hh]
   | false =>
    refine ⟨j,?_⟩
    rw [br_of (b:=!false) rfl,if_neg (fun h=>by have:=h j (Nat.le_refl _) hj;rw [h0] at this;cases this)]
  ·refine ⟨0,?_⟩
   rw [br_no (by simp;omega),if_pos (fun i h1 h2=>by omega)]
theorem S117_0_spec (q n:Int) {G:List (List Int)} (hs:G.length<2^60) (hw:∀ i,(G.getD i []).length<2^60) {τ:Type} (k:Nat→LS_→Option τ) :
  S117_0 [.N G.length,.LL G,.I q,.I n] k=k 0 [.B (!allWord q n G),.I q,.I n]:=by
 have hfu:=fuel_le
 unfold S117_0 S114_0 L114_2.b
 simp only [g_]
 obtain ⟨i,hi⟩:=L114_2_spec q n hs hw (fun j l49=>(sw ((fun j l50=>(sw (k 0 [.B (geI (gI l50 0) (0:Int)),.I (gI l50 1),.I (gI l50 2)]) (fun _=>none)) j) 0 [.I (gI l49 0),.I (gI l49 1),.I (gI l49 2)]) (sw ((fun j l50=>(sw (k 0 [.B (geI (gI l50 0) (0:Int)),.I (gI l50 1),.I (gI l50 2)]) (fun _=>none)) j) 0 [.I (-(1:Int)),.I (gI l49 1),.I (gI l49 2)]) (fun _=>none))) j) fuel 0 (by omega) (by omega)
 rw [show ((0:Nat):Int)=0 from rfl] at hi
 refine Eq.trans hi ?_
 cases hw:allWord q n G with
 | true=>rw [if_pos (allWord_iff.1 hw)];simp [geI]
 | false=>rw [if_neg (fun h=>by rw [allWord_iff.2 h] at hw;cases hw)];simp [geI]
theorem F81_spec {q:Nat} (hq:q∈Qs) {τ:Type} (k:Nat→LS_→Option τ):F81 [.I q] k=k 0 [.I (fp q),.I (fe q),.N (fm q).length,.B true,.L (fm q)]:=by
 unfold F81 T99
 simp only [gI_zero]
 rw [tabM_of hq]
 have:=qs_lt hq
 simp only [g_,sw_zero]
 rw [show leI (q:Int) 16=true from by simp only [leI_iff];omega]
theorem F85_spec {q:Nat} (hq:q∈Qs) (n most:Int) {G:List (List Int)} (hs:G.length<2^60) (hw:∀ i,(G.getD i []).length<2^60) {τ:Type} (k:Nat→LS_→Option τ) :
  F85 [.I q,.I n,.I most,.LL G] k=if 1≤n∧n≤24∧(G.length:Int)≤most then k 0 [.I (fp q),.I (fe q),.N (fm q).length,.B (allWord q n G),.L (fm q)] else k 1 [.I (fp q),.I (fe q),.N (fm q).length,.L (fm q)]:=by
 unfold F85
 simp only [g_]
 rw [F81_spec hq]
 simp only [g_,sw_zero]
 rw [br_of rfl]
 by_cases h1:1≤n
 ·rw [br_of (by simpa using h1)]
  by_cases h2:n≤24
  ·rw [br_of (by simpa using h2)]
   by_cases h3:(G.length:Int)≤most
   ·rw [br_of (by simpa using h3),if_pos ⟨h1,h2,h3⟩,S117_0_spec q n hs hw]
    simp
   ·rw [br_no (by simp only [leI_no];exact h3),if_neg (fun h=>h3 h.2.2)]
  ·rw [br_no (by simp only [leI_no];exact h2),if_neg (fun h=>h2 h.2.1)]
 ·rw [br_no (by simp only [geI_no];exact h1),if_neg (fun h=>h1 h.1)]
theorem take_range_rep (n j:Nat) (hj:j<n) (x:Nat):(List.range j++List.replicate (n-j) x).set j j=List.range (j+1)++List.replicate (n-(j+1)) x:=by
 rw [List.set_append,if_neg (by simp),List.length_range,Nat.sub_self]
 have:n-j=(n-(j+1))+1:=by omega
 rw [this,List.replicate_succ,List.set_cons_zero,List.range_succ,List.append_assoc]
 rfl
theorem L87_3_spec {q n:Nat} {G:List (List Int)} (hG:Rows q n G) {τ:Type} (κ:Nat→LS_→Option τ):∀ (f j:Nat),j≤G.length→G.length<f+j →
  runE L87_3 f κ 0 [.N G.length,.N G.length,.LL G,.I G.length,.I j,.LL (G.take j),.LN (List.range j++List.replicate (G.length-j) 1099511627776)]=κ 0 [.N G.length,.LL G,.LN (List.range G.length)]
 | 0,j,h1,h2=>by omega
 | f+1,j,h1,h2=>by
  have hf:=hG.few
  have hs:=hG.short
  rw [runE_succ]
  show L87_3.s0 _ _ _=_
  unfold L87_3.s0
  simp only [g_,gLN_zero,gLN_succ,Int.toNat_natCast,Nat.mul_one,Nat.zero_add]
  by_cases hj:j<G.length
  ·have wl:=(hG.wd j hj).1
   have tl:(G.take j).length=j:=by simp;omega
   have e1:(List.range j++List.replicate (G.length-j) 1099511627776).set j j=List.range (j+1)++List.replicate (G.length-(j+1)) 1099511627776:=take_range_rep _ _ hj _
   have e2:(List.range (j+1)++List.replicate (G.length-(j+1)) 1099511627776).getD j 0=j:=by
    rw [List.getD_eq_getElem?_getD,List.getElem?_append_left (by simp)];simp
   have e3:(List.range j++List.replicate (G.length-j) 1099511627776).length=G.length:=by simp;omega
   have e4:(List.range (j+1)++List.replicate (G.length-(j+1)) 1099511627776).length=G.length:=by simp;omega
   have e5:(G.take j++[List.replicate (G.getD j []).length (0:Int)]).getD j []=List.replicate (G.getD j []).length 0:=by
    rw [List.getD_eq_getElem?_getD,List.getElem?_append_right (by omega),tl];simp
   have e6:(G.take j++[List.replicate (G.getD j []).length (0:Int)]).set j (G.getD j [])=G.take (j+1):=by
    rw [take_succ_getD [] hj,List.set_append,if_neg (by omega),tl,Nat.sub_self];rfl
   have e7:(G.take j++[List.replicate (G.getD j []).length (0:Int)]).length=j+1:=by rw [List.length_append,tl];rfl
   simp only [e1,e2,e3,e4,e5,e6,e7,tl,List.length_replicate]
   generalize G.getD j []=g at wl ⊢
   rw [br_of (by simp;omega),ck_of (by simp;omega),ck_of (by simp;omega),ck_of (by simp;omega),ck_of (by simp;omega),ck_of (by simp;omega),ck_of (by simp;omega),ck_of (by simp;omega),ck_of (by simp),wsucc (by omega)]
   exact L87_3_spec hG κ f (j+1) (by omega) (by omega)
  ·have:j=G.length:=by omega
   subst this
   rw [br_no (by simp)]
   simp
theorem S87_0_spec {q n:Nat} {G:List (List Int)} (hG:Rows q n G) {τ:Type} (k:Nat→LS_→Option τ):S87_0 [.N G.length,.LL G] k=k 0 [.N G.length,.LN (List.range G.length),.LL G]:=by
 have hf:=hG.few
 have hfu:=fuel_le
 unfold S87_0 L87_3.b
 simp only [g_,Int.toNat_natCast]
 rw [ck_of (by simp;omega)]
 have:=L87_3_spec hG (fun j l53=>(sw (k 0 [.N (gN l53 0),.LN (gLN l53 2),.LL (gLL l53 1)]) (fun _=>none)) j) fuel 0 (by omega) (by omega)
 exact this
theorem Mx_copy (G:List (List Int)):Mx (List.range G.length) G G where
 len:=by simp
 lt:=fun i hi=>by simp [List.getD_eq_getElem?_getD,hi]
 eq:=fun i hi=>by simp [List.getD_eq_getElem?_getD,hi]
 inj:=fun i j hi hj e=>by simpa [List.getD_eq_getElem?_getD,hi,hj] using e
theorem S84_0_spec {q n:Nat} (hq:q∈Qs) {m:List (List Int)} (hm:Rows q n m) {perm:List Nat} {fam:List (List Int)} (hM:Mx perm fam m) :
  ∃ perm' fam',Mx perm' fam' (red (fadd q) (fmul q) (fneg q) (finv q) n 0 0 m).1∧∀ {τ:Type} (k:Nat→LS_→Option τ),S84_0 [.I (fp q),.I (fe q),.N (fm q).length,.I n,.N m.length,.L (fm q),.LN perm,.LL fam] k =
   if (red (fadd q) (fmul q) (fneg q) (finv q) n 0 0 m).2=0 then k 1 [.N 0,.L (fm q),.LN perm',.LL fam'] else k 0 [.N (red (fadd q) (fmul q) (fneg q) (finv q) n 0 0 m).2,.L (fm q),.LN perm',.LL fam']:=by
 have hfu:=fuel_le
 have hf:=hm.few
 have hs:=hm.short
 obtain ⟨perm',fam',x,c1,c2⟩:=L84_3_spec0 hq fuel n 0 0 m perm fam hm hM (by omega) (Nat.zero_le _) (by omega)
 refine ⟨perm',fam',c1,fun {τ} k=>?_⟩
 unfold S84_0 L84_3.b
 simp only [g_,gLN_zero,gLN_succ]
 refine Eq.trans (c2 _) ?_
 obtain ⟨a,b,d⟩:=red_len (add:=fadd q) (mul:=fmul q) (neg:=fneg q) (inv:=finv q) n 0 0 m
 have d:=d (Nat.zero_le _)
 generalize (red (fadd q) (fmul q) (fneg q) (finv q) n 0 0 m).2=r at d ⊢
 simp only [g_,sw_zero,gLN_zero,gLN_succ,Int.toNat_natCast,Nat.sub_zero]
 rw [ck_of (by simp;omega)]
 by_cases hz:r=0
 ·rw [if_pos hz,br_no (by simp;omega)]
 ·rw [if_neg hz,br_of (by simp;omega)]
theorem L88_spec {τ:Type} (κ:Nat→LS_→Option τ) (a b:List Int) (hl:a.length=b.length) (hb:a.length<2^60):∀ (n j:Nat) (r:Bool),j≤a.length→a.length<n+j →
  runE L88_4 n κ 0 [.N a.length,.L a,.N b.length,.L b,.B r,.I a.length,.I j]=if a.drop j=b.drop j then κ 1 [.B r] else κ 0 [.B false]
 | 0,j,r,h1,h2=>by omega
 | n+1,j,r,h1,h2=>by
  rw [runE_succ]
  show L88_4.s0 _ _ _=_
  unfold L88_4.s0
  simp only [g_]
  by_cases hj:j<a.length
  ·have e:=wsucc (j:=j) (by omega)
   simp only [Int.toNat_natCast,Nat.mul_one]
   rw [br_of (by simp;omega),ck_of (by simp <;> omega),ck_of (by simp <;> omega),ck_of (by simp <;> omega),ck_of (by simp <;> omega),e,L88_spec κ a b hl hb n (j+1) r (by omega) (by omega)]
   rw [drop_cons (l:=a) (j:=j) 0 hj,drop_cons (l:=b) (j:=j) 0 (hl▸hj)]
   by_cases hq:a.getD j 0=b.getD j 0
   ·rw [br_no (by rw [hq];simp),hq];simp
   ·rw [br_of (by simpa using hq),if_neg (by intro h;injection h with h _;exact hq h)]
  ·have:j=a.length:=by omega
   rw [br_no (by simp;omega),if_pos (by rw [List.drop_eq_nil_of_le (by omega),List.drop_eq_nil_of_le (by omega)])]
theorem F88_spec {τ:Type} (k:Nat→LS_→Option τ) (a b:List Int) (hb:a.length<2^60):F88 [.L a,.L b] k=k 0 [.B (decide (a=b))]:=by
 unfold F88 L88_4.b
 simp only [gL_zero,gL_succ]
 by_cases hl:a.length=b.length
 ·have:=fuel_le
  rw [br_no (by simp [hl])]
  have e:=L88_spec (fun j l0=>(sw (k 0 [(Leaf.B (gB l0 0))]) (sw (k 0 [(Leaf.B Bool.true)]) (fun _=>none))) j) a b hl hb fuel 0 false (by omega) (by omega)
  rw [show ((0:Nat):Int)=0 from rfl] at e
  refine Eq.trans e ?_
  by_cases hq:a=b
  ·subst hq;simp
  ·simp [hq]
 ·rw [br_of (by simp;omega)]
  have:a≠b:=fun h=>hl (by rw [h])
  simp [this]
theorem L86_spec {a:List (List Int)} {perm:List Nat} {fam m:List (List Int)} (hM:Mx perm fam m) (hl:a.length≤m.length) (hs:a.length<2^60) (ha:∀ i,(a.getD i []).length<2^60) {τ:Type} (κ:Nat→LS_→Option τ):∀ (n j:Nat) (r:Bool),j≤a.length→a.length<n+j →
  runE L86_4 n κ 0 [.N a.length,.B r,.N a.length,.LL a,.I a.length,.I j,.LN perm,.LL fam]=if a.drop j=(m.take a.length).drop j then κ 1 [.B r,.LN perm,.LL fam] else κ 0 [.B false,.LN perm,.LL fam]
 | 0,j,r,h1,h2=>by omega
 | n+1,j,r,h1,h2=>by
  have hpl:=hM.len
  rw [runE_succ]
  show L86_4.s0 _ _ _=_
  unfold L86_4.s0
  simp only [g_,gLN_zero,gLN_succ,Int.toNat_natCast,Nat.mul_one,Nat.zero_add,List.drop_zero,List.take_length]
  by_cases hj:j<a.length
  ·have b1:=hM.lt j (by omega)
   have b2:=hM.eq j (by omega)
   have tg:(m.take a.length).getD j []=m.getD j []:=by simp [List.getD_eq_getElem?_getD,List.getElem?_take,hj]
   have nx:=L86_spec hM hl hs ha κ n (j+1) r (by omega) (by omega)
   rw [drop_cons (l:=a) (j:=j) [] hj,drop_cons (l:=m.take a.length) (j:=j) [] (by simp;omega),tg]
   generalize perm.getD j 0=Pj at b1 b2 ⊢
   rw [b2,br_of (by simp;omega),ck_of (by simp;omega),ck_of (by simp;omega),ck_of (by simp;omega),ck_of (by simp;omega),ck_of (by simp;omega),ck_of (by simp),F88_spec _ _ _ (ha j)]
   simp only [sw_zero,gB_zero]
   rw [wsucc (by omega),nx]
   by_cases hq:a.getD j []=m.getD j []
   ·rw [br_no (by rw [hq];simp),hq];simp
   ·rw [br_of (by simp only [hq,decide_false,Bool.not_false]),if_neg (by intro h;injection h with h _;exact hq h)]
  ·have:j=a.length:=by omega
   rw [br_no (by simp;omega),if_pos (by rw [List.drop_eq_nil_of_le (by omega),List.drop_eq_nil_of_le (by simp;omega)])]
theorem S86_0_spec {a:List (List Int)} {perm:List Nat} {fam m:List (List Int)} (hM:Mx perm fam m) {r:Nat} (hr:r≤m.length) (hs:a.length<2^60) (ha:∀ i,(a.getD i []).length<2^60) {τ:Type} (k:Nat→LS_→Option τ) :
  S86_0 [.N a.length,.LL a,.N r,.LN perm,.LL fam] k=k 0 [.B (decide (a=m.take r)),.LN perm,.LL fam]:=by
 have hfu:=fuel_le
 unfold S86_0 L86_4.b
 simp only [g_,gLN_zero,gLN_succ]
 by_cases hl:a.length=r
 ·subst hl
  rw [br_no (by simp)]
  have e:=L86_spec hM hr hs ha (fun j l86=>(sw (k 0 [.B (gB l86 0),.LN (gLN l86 1),.LL (gLL l86 2)]) (sw (k 0 [.B true,.LN (gLN l86 1),.LL (gLL l86 2)]) (fun _=>none))) j) fuel 0 false (by omega) (by omega)
  rw [show ((0:Nat):Int)=0 from rfl] at e
  refine Eq.trans e ?_
  by_cases hq:a=m.take a.length
  ·rw [if_pos (by rw [List.drop_zero,List.drop_zero];exact hq),show decide (a=m.take a.length)=true from decide_eq_true hq]
   simp
  ·rw [if_neg (by rw [List.drop_zero,List.drop_zero];exact hq),show decide (a=m.take a.length)=false from decide_eq_false hq]
   simp
 ·rw [br_of (by simp;omega)]
  have:a≠m.take r:=fun h=>hl (by rw [h];simp;omega)
  simp [this]
theorem L86_4_1_run (f:Nat) {τ:Type} (κ:Nat→LS_→Option τ) (l:LS_):runE L86_4_1 (f+1) κ 0 l=L86_4_1.s0 (runE L86_4_1 f κ) κ l:=rfl
theorem S86_1_spec {a:List (List Int)} (hs:a.length<2^60) {τ:Type} (k:Nat→LS_→Option τ):S86_1 [.N a.length,.LL a,.N 0] k=k 0 [.B (decide (a=[]))]:=by
 have hfu:=fuel_le
 unfold S86_1 L86_4_1.b
 simp only [g_]
 cases a with
 | nil =>
  rw [br_no (by simp),show fuel=(fuel-1)+1 by omega,L86_4_1_run]
  unfold L86_4_1.s0
  simp only [g_]
  rw [br_no (by simp)]
  simp
 | cons x xs =>
  rw [br_of (by simp;omega)]
  simp
def validB (q:Nat) (n:Int) (G:List (List Int)):Bool:=decide (1≤n)&&(decide (n≤24)&&(decide ((G.length:Int)≤n)&&(allWord q n G&&decide (G=(red (fadd q) (fmul q) (fneg q) (finv q) n.toNat 0 0 G).1.take (red (fadd q) (fmul q) (fneg q) (finv q) n.toNat 0 0 G).2))))
theorem F37_spec {q:Nat} (hq:q∈Qs) (n:Int) {G:List (List Int)} (hs:G.length<2^60) (hw:∀ i,(G.getD i []).length<2^60) {τ:Type} (k:Nat→LS_→Option τ):F37 [.I q,.I n,.LL G] k=k 0 [.B (validB q n G)]:=by
 unfold F37 validB
 simp only [g_]
 rw [ck_of (by simp),F85_spec hq n n hs hw]
 by_cases hc:1≤n∧n≤24∧(G.length:Int)≤n
 ·obtain ⟨c1,c2,c3⟩:=hc
  rw [if_pos ⟨c1,c2,c3⟩,decide_eq_true c1,decide_eq_true c2,decide_eq_true c3]
  simp only [g_,sw_zero,Bool.true_and]
  cases ha:allWord q n G with
  | false=>rw [br_no rfl];rfl
  | true =>
   obtain ⟨n',rfl⟩:∃ n':Nat,n=n':=⟨n.toNat,by omega⟩
   have hR:Rows q n' G:=⟨fun i hi=>by
    have:=isWord_iff.1 (allWord_iff.1 ha i (Nat.zero_le _) hi)
    exact ⟨by omega,fun j hj=>this.2 j (Nat.zero_le _) (by omega)⟩,by omega,by omega⟩
   obtain ⟨perm',fam',d1,d2⟩:=S84_0_spec hq hR (Mx_copy G)
   obtain ⟨a,b,d⟩:=red_len (add:=fadd q) (mul:=fmul q) (neg:=fneg q) (inv:=finv q) n' 0 0 G
   rw [br_of rfl,S87_0_spec hR]
   simp only [g_,sw_zero,gLN_zero,gLN_succ]
   rw [d2,Bool.true_and]
   have d:=d (Nat.zero_le _)
   have et:(n':Int).toNat=n':=rfl
   rw [et]
   by_cases hz:(red (fadd q) (fmul q) (fneg q) (finv q) n' 0 0 G).2=0
   ·rw [if_pos hz,hz]
    simp only [sw_one,sw_zero,gN_zero,List.take_zero]
    rw [S86_1_spec hs]
    exact congrArg (fun b=>k 0 [.B b]) (decide_eq_decide.2 Iff.rfl)
   ·rw [if_neg hz]
    simp only [sw_zero,gN_zero,gLL_zero,gLN_zero,gLL_succ,gLN_succ]
    rw [S86_0_spec d1 (by rw [a];exact d) hs hw]
    simp
 ·rw [if_neg hc]
  have:(decide (1≤n)&&(decide (n≤24)&&(decide ((G.length:Int)≤n)&&(allWord q n G&&decide (G=(red (fadd q) (fmul q) (fneg q) (finv q) n.toNat 0 0 G).1.take (red (fadd q) (fmul q) (fneg q) (finv q) n.toNat 0 0 G).2)))))=false:=by
   cases hb:(decide (1≤n)&&(decide (n≤24)&&(decide ((G.length:Int)≤n)&&(allWord q n G&&decide (G=(red (fadd q) (fmul q) (fneg q) (finv q) n.toNat 0 0 G).1.take (red (fadd q) (fmul q) (fneg q) (finv q) n.toNat 0 0 G).2))))) with
   | false=>rfl
   | true =>
    simp only [Bool.and_eq_true,decide_eq_true_eq] at hb
    exact absurd ⟨hb.1,hb.2.1,hb.2.2.1⟩ hc
  rw [this]
  simp
theorem validB_cd {q n:Nat} {G:List (List Int)} (h:Cd q n G):validB q n G=true:=by
 have hG:=h.rows
 have h1:=h.n0
 have h2:=h.n1
 have h3:=h.len_le
 unfold validB
 rw [show (n:Int).toNat=n from rfl,fix_red h]
 simp only [List.take_length,Bool.and_eq_true,decide_eq_true_eq,and_true]
 exact ⟨by omega,by omega,by omega,allWord_iff.2 fun i _ hi=>isWord_wd (hG.wd i hi)⟩
end
end Go.Proofs.Ytbpjicbpcfkpfaa.Ai
namespace Go.Proofs.Ytbpjicbpcfkpfaa.Ai
open Go Ma
noncomputable section
def lostB (lb:List Bool):Nat→Bool:=fun i=>lb.getD i false
theorem far_le (lost:Nat→Bool) (w x:List Int) (a:Nat):∀ k,far lost w x a k≤k
 | 0=>Nat.le_refl _
 | k+1=>by rw [far_succ];have:=far_le lost w x a k;split <;> omega
theorem L70_3_spec {n:Nat} {x w:List Int} {lb:List Bool} (hx:x.length=n) (hw:w.length=n) (hb:lb.length=n) (hs:n<2^30) {a c:Nat} (hac:a+c≤n) {v6:Int} {v7:Int} {v8:Nat} {v9:List (List Int)} {v10:Int} {v11:Int} {v12:Nat} {v16:Nat} {v18:List Int} {v20:List Int} {τ:Type} (κ:Nat→LS_→Option τ):∀ (f j:Nat),j≤c→c<f+j →
  runE L70_3 f κ 0 [.I a,.I ((far (lostB lb) w x a j:Nat):Int),.N a,.N c,.I c,.I j,.I v6,.I v7,.N v8,.LL v9,.I v10,.I v11,.N v12,.N n,.L w,.N n,.N v16,.L x,.L v18,.LB lb,.L v20]=κ 0 [.I ((far (lostB lb) w x a c:Nat):Int),.I v6,.I v7,.N v8,.LL v9,.I v10,.I v11,.N v12,.N n,.L w,.N n,.N v16,.L x,.L v18,.LB lb,.L v20]
 | 0,j,h1,h2=>by omega
 | f+1,j,h1,h2=>by
  rw [runE_succ]
  show L70_3.s0 _ _ _=_
  unfold L70_3.s0
  simp only [g_,Int.toNat_natCast,Nat.mul_one,Nat.zero_add,List.drop_zero,List.take_length]
  by_cases hj:j<c
  ·have e1:wr .i64 ((a:Int)+(j:Int))=((a+j:Nat):Int):=by rw [wr64 (by omega) (by omega)];simp
   have fl:=far_le (lostB lb) w x a j
   have ih:=L70_3_spec hx hw hb hs hac (v6:=v6) (v7:=v7) (v8:=v8) (v9:=v9) (v10:=v10) (v11:=v11) (v12:=v12) (v16:=v16) (v18:=v18) (v20:=v20) κ f (j+1) (by omega) (by omega)
   rw [far_succ] at ih
   have e2:wr .i64 (((far (lostB lb) w x a j:Nat):Int)+1)=((far (lostB lb) w x a j+1:Nat):Int):=wsucc (by omega)
   rw [br_of (by simp;omega),e1]
   simp only [Int.toNat_natCast]
   rw [ck_of (by simp;omega),ck_of (by simp;omega),ck_of (by simp;omega),ck_of (by simp;omega),e2,wsucc (j:=j) (by omega)]
   have hlo:lostB lb (a+j)=lb.getD (a+j) false:=rfl
   cases hl:lb.getD (a+j) false with
   | true =>
    rw [br_no (b:=!true) rfl]
    rw [hlo,hl] at ih
    exact ih
   | false =>
    rw [br_of (b:=!false) rfl,ck_of (by simp;omega),ck_of (by simp;omega)]
    rw [hlo,hl] at ih
    by_cases hd:x.getD (a+j) 0=w.getD (a+j) 0
    ·rw [br_no (by rw [hd];simp)]
     rw [hd] at ih
     simpa [-List.getD_eq_getElem?_getD] using ih
    ·rw [br_of (by simpa [-List.getD_eq_getElem?_getD] using hd)]
     have:(x.getD (a+j) 0 != w.getD (a+j) 0)=true:=by simpa [-List.getD_eq_getElem?_getD] using hd
     rw [this] at ih
     exact ih
  ·have:j=c:=by omega
   subst this
   rw [br_no (by simp)]
theorem L70_3_1_run (f:Nat) {τ:Type} (κ:Nat→LS_→Option τ) (l:LS_):runE L70_3_1 (f+1) κ 0 l=L70_3_1.s0 (runE L70_3_1 f κ) κ l:=rfl
theorem S70_0_spec {n:Nat} {x w:List Int} {lb:List Bool} (hx:x.length=n) (hw:w.length=n) (hb:lb.length=n) (hs:n<2^30) {a b:Nat} (hab:a≤b) (hbn:b≤n) {q N:Int} {K:Nat} {G:List (List Int)} {p e:Int} {mn en:Nat} {M E:List Int} {τ:Type} (k:Nat→LS_→Option τ) :
  S70_0 [.N n,.I a,.I b,.I q,.I N,.N K,.LL G,.I p,.I e,.N mn,.N n,.L w,.N n,.N en,.L x,.L M,.LB lb,.L E] k=k 0 [.I ((far (lostB lb) w x a (b-a):Nat):Int),.I q,.I N,.N K,.LL G,.I p,.I e,.N mn,.N n,.L w,.N n,.N en,.L x,.L M,.LB lb,.L E]:=by
 have hfu:=fuel_le
 unfold S70_0
 simp only [g_,Int.toNat_natCast,Nat.mul_one,Nat.zero_add,List.drop_zero,List.take_length]
 rw [ck_of (by simp;omega)]
 by_cases h:a<b
 ·rw [br_of (by simp;omega)]
  unfold L70_3.b
  exact L70_3_spec hx hw hb hs (a:=a) (c:=b-a) (by omega) (fun j l105=>(sw (k 0 [.I (gI l105 0),.I (gI l105 1),.I (gI l105 2),.N (gN l105 3),.LL (gLL l105 4),.I (gI l105 5),.I (gI l105 6),.N (gN l105 7),.N (gN l105 8),.L (gL l105 9),.N (gN l105 10),.N (gN l105 11),.L (gL l105 12),.L (gL l105 13),.LB (gLB l105 14),.L (gL l105 15)]) (fun _=>none)) j) fuel 0 (by omega) (by omega)
 ·have:b=a:=by omega
  subst this
  rw [br_no (by simp)]
  unfold L70_3_1.b
  rw [show fuel=(fuel-1)+1 by omega,L70_3_1_run]
  unfold L70_3_1.s0
  simp only [g_,Int.toNat_natCast,Nat.mul_one,Nat.zero_add,List.drop_zero,List.take_length]
  rw [br_no (by simp),Nat.sub_self]
  rfl
theorem F71_spec {x:List Int} (h0:0<x.length) (h1:x.length<2^30) {τ:Type} (k:Nat→LS_→Option τ):F71 [.L x] k=k 0 [.N x.length,.L x]:=by
 unfold F71
 simp only [g_,Int.toNat_natCast,Nat.mul_one,Nat.zero_add,List.drop_zero,List.take_length,List.nil_append]
 rw [ck_of (by simp;omega),ck_of (by simp;omega)]
theorem L102_8_3_spec {q:Nat} (hq:q∈Qs) {g x0:List Int} (hg:In q g) (hx:In q x0) (hl:g.length=x0.length) (hs:g.length<2^30) {a:Int} (a0:0≤a) (a1:a<q) {v0:Int} {v1:Int} {v2:Nat} {v5:Int} {v6:Int} {v11:List Int} {v12:Int} {v13:Int} {v14:Int} {v15:Nat} {v16:List (List Int)} {v20:Nat} {v21:List Int} {v22:Nat} {v23:Nat} {v24:Int} {v26:List Bool} {v27:List Int} {τ:Type} (κ:Nat→LS_→Option τ):∀ (f j:Nat) (y:List Int),j≤g.length→g.length<f+j→y=(vadd (fadd q) x0 (vmul (fmul q) a g)).take j++x0.drop j →
  runE L102_8_3 f κ 0 [.I v0,.I v1,.N v2,.I a,.N x0.length,.I v5,.I v6,.N g.length,.L g,.I g.length,.I j,.L v11,.I v12,.I v13,.I v14,.N v15,.LL v16,.I (fp q),.I (fe q),.N (fm q).length,.N v20,.L v21,.N v22,.N v23,.I v24,.L (fm q),.LB v26,.L v27,.L y]=κ 0 [.I v0,.I v1,.N v2,.N x0.length,.I v5,.I v6,.L v11,.I v12,.I v13,.I v14,.N v15,.LL v16,.I (fp q),.I (fe q),.N (fm q).length,.N v20,.L v21,.N v22,.N v23,.I v24,.L (fm q),.LB v26,.L v27,.L (vadd (fadd q) x0 (vmul (fmul q) a g))]
 | 0,j,y,h1,h2,h3=>by omega
 | f+1,j,y,h1,h2,h3=>by
  have F:=fld q hq
  have ml:(vmul (fmul q) a g).length=g.length:=vmul_len
  have hlv:(vadd (fadd q) x0 (vmul (fmul q) a g)).length=x0.length:=vadd_len (by rw [ml,hl])
  rw [runE_succ]
  show L102_8_3.s0 _ _ _=_
  unfold L102_8_3.s0
  simp only [g_,Int.toNat_natCast,Nat.mul_one,Nat.zero_add,List.drop_zero,List.take_length]
  by_cases hj:j<g.length
  ·have ax:=hg j hj
   have ay:=hx j (by omega)
   have am:=F.mul_in _ _ a0 a1 ax.1 ax.2
   have hw:y.length=x0.length:=by rw [h3,half_len hlv (by omega)]
   have hy:y.getD j 0=x0.getD j 0:=by rw [h3,half_get hlv (by omega)]
   rw [br_of (by simp;omega),ck_of (by simp;omega),ck_of (by simp;omega),ck_of (by simp;omega),ck_of (by simp;omega),ck_of (by simp)]
   unfold T104 T103
   rw [tab2_of hq a0 a1 ax.1 ax.2]
   simp only [sw_zero,gI_zero]
   rw [ck_of (by simp),hy,tab2_of hq ay.1 ay.2 am.1 am.2]
   simp only [sw_zero,gI_zero]
   rw [ck_of (by simp;omega),ck_of (by simp;omega),wsucc (by omega)]
   refine L102_8_3_spec hq hg hx hl hs a0 a1 (v0:=v0) (v1:=v1) (v2:=v2) (v5:=v5) (v6:=v6) (v11:=v11) (v12:=v12) (v13:=v13) (v14:=v14) (v15:=v15) (v16:=v16) (v20:=v20) (v21:=v21) (v22:=v22) (v23:=v23) (v24:=v24) (v26:=v26) (v27:=v27) κ f (j+1) _ (by omega) (by omega) ?_
   rw [h3,←vmul_get (mul:=fmul q) hj,←vadd_get (add:=fadd q) (by rw [ml,hl]) (show j<x0.length by omega),half_set hlv (by omega)]
  ·have:j=g.length:=by omega
   subst this
   rw [hl,half_all hlv] at h3
   rw [br_no (by simp),h3]
theorem L102_8_3_row {q:Nat} (hq:q∈Qs) {g x0:List Int} (hg:In q g) (hx:In q x0) (hl:g.length=x0.length) (hs:g.length<2^30) {a:Int} (a0:0≤a) (a1:a<q) {v0:Int} {v1:Int} {v2:Nat} {v5:Int} {v6:Int} {v11:List Int} {v12:Int} {v13:Int} {v14:Int} {v15:Nat} {v16:List (List Int)} {v20:Nat} {v21:List Int} {v22:Nat} {v23:Nat} {v24:Int} {v26:List Bool} {v27:List Int} {τ:Type} (κ:Nat→LS_→Option τ) :
  runE L102_8_3 fuel κ 0 [.I v0,.I v1,.N v2,.I a,.N x0.length,.I v5,.I v6,.N g.length,.L g,.I g.length,.I 0,.L v11,.I v12,.I v13,.I v14,.N v15,.LL v16,.I (fp q),.I (fe q),.N (fm q).length,.N v20,.L v21,.N v22,.N v23,.I v24,.L (fm q),.LB v26,.L v27,.L x0]=κ 0 [.I v0,.I v1,.N v2,.N x0.length,.I v5,.I v6,.L v11,.I v12,.I v13,.I v14,.N v15,.LL v16,.I (fp q),.I (fe q),.N (fm q).length,.N v20,.L v21,.N v22,.N v23,.I v24,.L (fm q),.LB v26,.L v27,.L (vadd (fadd q) x0 (vmul (fmul q) a g))]:=by
 have hfu:=fuel_le
 have:=L102_8_3_spec hq hg hx hl hs a0 a1 (v0:=v0) (v1:=v1) (v2:=v2) (v5:=v5) (v6:=v6) (v11:=v11) (v12:=v12) (v13:=v13) (v14:=v14) (v15:=v15) (v16:=v16) (v20:=v20) (v21:=v21) (v22:=v22) (v23:=v23) (v24:=v24) (v26:=v26) (v27:=v27) κ fuel 0 x0 (Nat.zero_le _) (by omega) (by simp)
 exact this
theorem L102_8_4_spec {q:Nat} (hq:q∈Qs) {g x0:List Int} (hg:In q g) (hx:In q x0) (hl:g.length=x0.length) (hs:g.length<2^30) {a:Int} (a0:0≤a) (a1:a<q) {v0:Int} {v1:Int} {v2:Nat} {v5:Int} {v6:Int} {v11:List Int} {v12:Int} {v13:Int} {v14:Int} {v15:Nat} {v16:List (List Int)} {v20:Nat} {v21:List Int} {v22:Nat} {v23:Nat} {v24:Int} {v25:Nat} {v27:List Bool} {v28:List Int} {v29:List (List Int)} {τ:Type} (κ:Nat→LS_→Option τ):∀ (f j:Nat) (y:List Int),j≤g.length→g.length<f+j→y=(vadd (fadd q) x0 (vmul (fmul q) a g)).take j++x0.drop j →
  runE L102_8_4 f κ 0 [.I v0,.I v1,.N v2,.I a,.N x0.length,.I v5,.I v6,.N g.length,.L g,.I g.length,.I j,.L v11,.I v12,.I v13,.I v14,.N v15,.LL v16,.I (fp q),.I (fe q),.N (fm q).length,.N v20,.L v21,.N v22,.N v23,.I v24,.N v25,.L (fm q),.LB v27,.L v28,.LL v29,.L y]=κ 0 [.I v0,.I v1,.N v2,.N x0.length,.I v5,.I v6,.L v11,.I v12,.I v13,.I v14,.N v15,.LL v16,.I (fp q),.I (fe q),.N (fm q).length,.N v20,.L v21,.N v22,.N v23,.I v24,.N v25,.L (fm q),.LB v27,.L v28,.LL v29,.L (vadd (fadd q) x0 (vmul (fmul q) a g))]
 | 0,j,y,h1,h2,h3=>by omega
 | f+1,j,y,h1,h2,h3=>by
  have F:=fld q hq
  have ml:(vmul (fmul q) a g).length=g.length:=vmul_len
  have hlv:(vadd (fadd q) x0 (vmul (fmul q) a g)).length=x0.length:=vadd_len (by rw [ml,hl])
  rw [runE_succ]
  show L102_8_4.s0 _ _ _=_
  unfold L102_8_4.s0
  simp only [g_,Int.toNat_natCast,Nat.mul_one,Nat.zero_add,List.drop_zero,List.take_length]
  by_cases hj:j<g.length
  ·have ax:=hg j hj
   have ay:=hx j (by omega)
   have am:=F.mul_in _ _ a0 a1 ax.1 ax.2
   have hw:y.length=x0.length:=by rw [h3,half_len hlv (by omega)]
   have hy:y.getD j 0=x0.getD j 0:=by rw [h3,half_get hlv (by omega)]
   rw [br_of (by simp;omega),ck_of (by simp;omega),ck_of (by simp;omega),ck_of (by simp;omega),ck_of (by simp;omega),ck_of (by simp)]
   unfold T104 T103
   rw [tab2_of hq a0 a1 ax.1 ax.2]
   simp only [sw_zero,gI_zero]
   rw [ck_of (by simp),hy,tab2_of hq ay.1 ay.2 am.1 am.2]
   simp only [sw_zero,gI_zero]
   rw [ck_of (by simp;omega),ck_of (by simp;omega),wsucc (by omega)]
   refine L102_8_4_spec hq hg hx hl hs a0 a1 (v0:=v0) (v1:=v1) (v2:=v2) (v5:=v5) (v6:=v6) (v11:=v11) (v12:=v12) (v13:=v13) (v14:=v14) (v15:=v15) (v16:=v16) (v20:=v20) (v21:=v21) (v22:=v22) (v23:=v23) (v24:=v24) (v25:=v25) (v27:=v27) (v28:=v28) (v29:=v29) κ f (j+1) _ (by omega) (by omega) ?_
   rw [h3,←vmul_get (mul:=fmul q) hj,←vadd_get (add:=fadd q) (by rw [ml,hl]) (show j<x0.length by omega),half_set hlv (by omega)]
  ·have:j=g.length:=by omega
   subst this
   rw [hl,half_all hlv] at h3
   rw [br_no (by simp),h3]
theorem L102_8_4_row {q:Nat} (hq:q∈Qs) {g x0:List Int} (hg:In q g) (hx:In q x0) (hl:g.length=x0.length) (hs:g.length<2^30) {a:Int} (a0:0≤a) (a1:a<q) {v0:Int} {v1:Int} {v2:Nat} {v5:Int} {v6:Int} {v11:List Int} {v12:Int} {v13:Int} {v14:Int} {v15:Nat} {v16:List (List Int)} {v20:Nat} {v21:List Int} {v22:Nat} {v23:Nat} {v24:Int} {v25:Nat} {v27:List Bool} {v28:List Int} {v29:List (List Int)} {τ:Type} (κ:Nat→LS_→Option τ) :
  runE L102_8_4 fuel κ 0 [.I v0,.I v1,.N v2,.I a,.N x0.length,.I v5,.I v6,.N g.length,.L g,.I g.length,.I 0,.L v11,.I v12,.I v13,.I v14,.N v15,.LL v16,.I (fp q),.I (fe q),.N (fm q).length,.N v20,.L v21,.N v22,.N v23,.I v24,.N v25,.L (fm q),.LB v27,.L v28,.LL v29,.L x0]=κ 0 [.I v0,.I v1,.N v2,.N x0.length,.I v5,.I v6,.L v11,.I v12,.I v13,.I v14,.N v15,.LL v16,.I (fp q),.I (fe q),.N (fm q).length,.N v20,.L v21,.N v22,.N v23,.I v24,.N v25,.L (fm q),.LB v27,.L v28,.LL v29,.L (vadd (fadd q) x0 (vmul (fmul q) a g))]:=by
 have hfu:=fuel_le
 have:=L102_8_4_spec hq hg hx hl hs a0 a1 (v0:=v0) (v1:=v1) (v2:=v2) (v5:=v5) (v6:=v6) (v11:=v11) (v12:=v12) (v13:=v13) (v14:=v14) (v15:=v15) (v16:=v16) (v20:=v20) (v21:=v21) (v22:=v22) (v23:=v23) (v24:=v24) (v25:=v25) (v27:=v27) (v28:=v28) (v29:=v29) κ fuel 0 x0 (Nat.zero_le _) (by omega) (by simp)
 exact this
theorem L102_8_5_spec {q:Nat} (hq:q∈Qs) {g x0:List Int} (hg:In q g) (hx:In q x0) (hl:g.length=x0.length) (hs:g.length<2^30) {a:Int} (a0:0≤a) (a1:a<q) {v0:Int} {v1:Int} {v2:Nat} {v5:Int} {v6:Int} {v11:List Int} {v12:Int} {v13:Int} {v14:Int} {v15:Nat} {v16:List (List Int)} {v20:Nat} {v21:List Int} {v22:Nat} {v23:Nat} {v24:Int} {v25:Nat} {v27:List Bool} {v28:List Int} {v29:List (List Int)} {v30:List (List Int)} {τ:Type} (κ:Nat→LS_→Option τ):∀ (f j:Nat) (y:List Int),j≤g.length→g.length<f+j→y=(vadd (fadd q) x0 (vmul (fmul q) a g)).take j++x0.drop j →
  runE L102_8_5 f κ 0 [.I v0,.I v1,.N v2,.I a,.N x0.length,.I v5,.I v6,.N g.length,.L g,.I g.length,.I j,.L v11,.I v12,.I v13,.I v14,.N v15,.LL v16,.I (fp q),.I (fe q),.N (fm q).length,.N v20,.L v21,.N v22,.N v23,.I v24,.N v25,.L (fm q),.LB v27,.L v28,.LL v29,.LL v30,.L y]=κ 0 [.I v0,.I v1,.N v2,.N x0.length,.I v5,.I v6,.L v11,.I v12,.I v13,.I v14,.N v15,.LL v16,.I (fp q),.I (fe q),.N (fm q).length,.N v20,.L v21,.N v22,.N v23,.I v24,.N v25,.L (fm q),.LB v27,.L v28,.LL v29,.LL v30,.L (vadd (fadd q) x0 (vmul (fmul q) a g))]
 | 0,j,y,h1,h2,h3=>by omega
 | f+1,j,y,h1,h2,h3=>by
  have F:=fld q hq
  have ml:(vmul (fmul q) a g).length=g.length:=vmul_len
  have hlv:(vadd (fadd q) x0 (vmul (fmul q) a g)).length=x0.length:=vadd_len (by rw [ml,hl])
  rw [runE_succ]
  show L102_8_5.s0 _ _ _=_
  unfold L102_8_5.s0
  simp only [g_,Int.toNat_natCast,Nat.mul_one,Nat.zero_add,List.drop_zero,List.take_length]
  by_cases hj:j<g.length
  ·have ax:=hg j hj
   have ay:=hx j (by omega)
   have am:=F.mul_in _ _ a0 a1 ax.1 ax.2
   have hw:y.length=x0.length:=by rw [h3,half_len hlv (by omega)]
   have hy:y.getD j 0=x0.getD j 0:=by rw [h3,half_get hlv (by omega)]
   rw [br_of (by simp;omega),ck_of (by simp;omega),ck_of (by simp;omega),ck_of (by simp;omega),ck_of (by simp;omega),ck_of (by simp)]
   unfold T104 T103
   rw [tab2_of hq a0 a1 ax.1 ax.2]
   simp only [sw_zero,gI_zero]
   rw [ck_of (by simp),hy,tab2_of hq ay.1 ay.2 am.1 am.2]
   simp only [sw_zero,gI_zero]
   rw [ck_of (by simp;omega),ck_of (by simp;omega),wsucc (by omega)]
   refine L102_8_5_spec hq hg hx hl hs a0 a1 (v0:=v0) (v1:=v1) (v2:=v2) (v5:=v5) (v6:=v6) (v11:=v11) (v12:=v12) (v13:=v13) (v14:=v14) (v15:=v15) (v16:=v16) (v20:=v20) (v21:=v21) (v22:=v22) (v23:=v23) (v24:=v24) (v25:=v25) (v27:=v27) (v28:=v28) (v29:=v29) (v30:=v30) κ f (j+1) _ (by omega) (by omega) ?_
   rw [h3,←vmul_get (mul:=fmul q) hj,←vadd_get (add:=fadd q) (by rw [ml,hl]) (show j<x0.length by omega),half_set hlv (by omega)]
  ·have:j=g.length:=by omega
   subst this
   rw [hl,half_all hlv] at h3
   rw [br_no (by simp),h3]
theorem L102_8_5_row {q:Nat} (hq:q∈Qs) {g x0:List Int} (hg:In q g) (hx:In q x0) (hl:g.length=x0.length) (hs:g.length<2^30) {a:Int} (a0:0≤a) (a1:a<q) {v0:Int} {v1:Int} {v2:Nat} {v5:Int} {v6:Int} {v11:List Int} {v12:Int} {v13:Int} {v14:Int} {v15:Nat} {v16:List (List Int)} {v20:Nat} {v21:List Int} {v22:Nat} {v23:Nat} {v24:Int} {v25:Nat} {v27:List Bool} {v28:List Int} {v29:List (List Int)} {v30:List (List Int)} {τ:Type} (κ:Nat→LS_→Option τ) :
  runE L102_8_5 fuel κ 0 [.I v0,.I v1,.N v2,.I a,.N x0.length,.I v5,.I v6,.N g.length,.L g,.I g.length,.I 0,.L v11,.I v12,.I v13,.I v14,.N v15,.LL v16,.I (fp q),.I (fe q),.N (fm q).length,.N v20,.L v21,.N v22,.N v23,.I v24,.N v25,.L (fm q),.LB v27,.L v28,.LL v29,.LL v30,.L x0]=κ 0 [.I v0,.I v1,.N v2,.N x0.length,.I v5,.I v6,.L v11,.I v12,.I v13,.I v14,.N v15,.LL v16,.I (fp q),.I (fe q),.N (fm q).length,.N v20,.L v21,.N v22,.N v23,.I v24,.N v25,.L (fm q),.LB v27,.L v28,.LL v29,.LL v30,.L (vadd (fadd q) x0 (vmul (fmul q) a g))]:=by
 have hfu:=fuel_le
 have:=L102_8_5_spec hq hg hx hl hs a0 a1 (v0:=v0) (v1:=v1) (v2:=v2) (v5:=v5) (v6:=v6) (v11:=v11) (v12:=v12) (v13:=v13) (v14:=v14) (v15:=v15) (v16:=v16) (v20:=v20) (v21:=v21) (v22:=v22) (v23:=v23) (v24:=v24) (v25:=v25) (v27:=v27) (v28:=v28) (v29:=v29) (v30:=v30) κ fuel 0 x0 (Nat.zero_le _) (by omega) (by simp)
 exact this
theorem L102_8_6_spec {q:Nat} (hq:q∈Qs) {g x0:List Int} (hg:In q g) (hx:In q x0) (hl:g.length=x0.length) (hs:g.length<2^30) {a:Int} (a0:0≤a) (a1:a<q) {v0:Int} {v1:Int} {v2:Nat} {v5:Int} {v6:Int} {v11:List Int} {v12:Int} {v13:Int} {v14:Int} {v15:Nat} {v16:List (List Int)} {v20:Nat} {v21:List Int} {v22:Nat} {v23:Nat} {v24:Int} {v25:Nat} {v27:List Bool} {v28:List Int} {v29:List (List Int)} {τ:Type} (κ:Nat→LS_→Option τ):∀ (f j:Nat) (y:List Int),j≤g.length→g.length<f+j→y=(vadd (fadd q) x0 (vmul (fmul q) a g)).take j++x0.drop j →
  runE L102_8_6 f κ 0 [.I v0,.I v1,.N v2,.I a,.N x0.length,.I v5,.I v6,.N g.length,.L g,.I g.length,.I j,.L v11,.I v12,.I v13,.I v14,.N v15,.LL v16,.I (fp q),.I (fe q),.N (fm q).length,.N v20,.L v21,.N v22,.N v23,.I v24,.N v25,.L (fm q),.LB v27,.L v28,.LL v29,.L y]=κ 0 [.I v0,.I v1,.N v2,.N x0.length,.I v5,.I v6,.L v11,.I v12,.I v13,.I v14,.N v15,.LL v16,.I (fp q),.I (fe q),.N (fm q).length,.N v20,.L v21,.N v22,.N v23,.I v24,.N v25,.L (fm q),.LB v27,.L v28,.LL v29,.L (vadd (fadd q) x0 (vmul (fmul q) a g))]
 | 0,j,y,h1,h2,h3=>by omega
 | f+1,j,y,h1,h2,h3=>by
  have F:=fld q hq
  have ml:(vmul (fmul q) a g).length=g.length:=vmul_len
  have hlv:(vadd (fadd q) x0 (vmul (fmul q) a g)).length=x0.length:=vadd_len (by rw [ml,hl])
  rw [runE_succ]
  show L102_8_6.s0 _ _ _=_
  unfold L102_8_6.s0
  simp only [g_,Int.toNat_natCast,Nat.mul_one,Nat.zero_add,List.drop_zero,List.take_length]
  by_cases hj:j<g.length
  ·have ax:=hg j hj
   have ay:=hx j (by omega)
   have am:=F.mul_in _ _ a0 a1 ax.1 ax.2
   have hw:y.length=x0.length:=by rw [h3,half_len hlv (by omega)]
   have hy:y.getD j 0=x0.getD j 0:=by rw [h3,half_get hlv (by omega)]
   rw [br_of (by simp;omega),ck_of (by simp;omega),ck_of (by simp;omega),ck_of (by simp;omega),ck_of (by simp;omega),ck_of (by simp)]
   unfold T104 T103
   rw [tab2_of hq a0 a1 ax.1 ax.2]
   simp only [sw_zero,gI_zero]
   rw [ck_of (by simp),hy,tab2_of hq ay.1 ay.2 am.1 am.2]
   simp only [sw_zero,gI_zero]
   rw [ck_of (by simp;omega),ck_of (by simp;omega),wsucc (by omega)]
   refine L102_8_6_spec hq hg hx hl hs a0 a1 (v0:=v0) (v1:=v1) (v2:=v2) (v5:=v5) (v6:=v6) (v11:=v11) (v12:=v12) (v13:=v13) (v14:=v14) (v15:=v15) (v16:=v16) (v20:=v20) (v21:=v21) (v22:=v22) (v23:=v23) (v24:=v24) (v25:=v25) (v27:=v27) (v28:=v28) (v29:=v29) κ f (j+1) _ (by omega) (by omega) ?_
   rw [h3,←vmul_get (mul:=fmul q) hj,←vadd_get (add:=fadd q) (by rw [ml,hl]) (show j<x0.length by omega),half_set hlv (by omega)]
  ·have:j=g.length:=by omega
   subst this
   rw [hl,half_all hlv] at h3
   rw [br_no (by simp),h3]
theorem L102_8_6_row {q:Nat} (hq:q∈Qs) {g x0:List Int} (hg:In q g) (hx:In q x0) (hl:g.length=x0.length) (hs:g.length<2^30) {a:Int} (a0:0≤a) (a1:a<q) {v0:Int} {v1:Int} {v2:Nat} {v5:Int} {v6:Int} {v11:List Int} {v12:Int} {v13:Int} {v14:Int} {v15:Nat} {v16:List (List Int)} {v20:Nat} {v21:List Int} {v22:Nat} {v23:Nat} {v24:Int} {v25:Nat} {v27:List Bool} {v28:List Int} {v29:List (List Int)} {τ:Type} (κ:Nat→LS_→Option τ) :
  runE L102_8_6 fuel κ 0 [.I v0,.I v1,.N v2,.I a,.N x0.length,.I v5,.I v6,.N g.length,.L g,.I g.length,.I 0,.L v11,.I v12,.I v13,.I v14,.N v15,.LL v16,.I (fp q),.I (fe q),.N (fm q).length,.N v20,.L v21,.N v22,.N v23,.I v24,.N v25,.L (fm q),.LB v27,.L v28,.LL v29,.L x0]=κ 0 [.I v0,.I v1,.N v2,.N x0.length,.I v5,.I v6,.L v11,.I v12,.I v13,.I v14,.N v15,.LL v16,.I (fp q),.I (fe q),.N (fm q).length,.N v20,.L v21,.N v22,.N v23,.I v24,.N v25,.L (fm q),.LB v27,.L v28,.LL v29,.L (vadd (fadd q) x0 (vmul (fmul q) a g))]:=by
 have hfu:=fuel_le
 have:=L102_8_6_spec hq hg hx hl hs a0 a1 (v0:=v0) (v1:=v1) (v2:=v2) (v5:=v5) (v6:=v6) (v11:=v11) (v12:=v12) (v13:=v13) (v14:=v14) (v15:=v15) (v16:=v16) (v20:=v20) (v21:=v21) (v22:=v22) (v23:=v23) (v24:=v24) (v25:=v25) (v27:=v27) (v28:=v28) (v29:=v29) κ fuel 0 x0 (Nat.zero_le _) (by omega) (by simp)
 exact this
def Er (En:List Nat):List Int:=En.map fun (e:Nat)=>(e:Int)
theorem Er_get (En:List Nat) (i:Nat):(Er En).getD i 0=((En.getD i 0:Nat):Int):=by
 unfold Er
 simp only [List.getD_eq_getElem?_getD,List.getElem?_map]
 cases En[i]? <;> rfl
theorem Er_len (En:List Nat):(Er En).length=En.length:=by simp [Er]
structure Sr (q n:Nat) (G:List (List Int)) (w:List Int) (lb:List Bool) (En:List Nat):Prop where
 hq:q∈Qs
 gr:Rows q n G
 wl:w.length=n
 bl:lb.length=n
 n0:1≤n
 n1:n≤1024
 el:En.length=G.length+1
 em:∀ i,i<G.length→En.getD i 0≤En.getD (i+1) 0
 en:∀ i,i≤G.length→En.getD i 0≤n
def found (q:Nat) (lost:Nat→Bool) (w:List Int) (r:Int) (G:List (List Int)) (En:List Nat) (i:Nat) (x:List Int) (t:Nat):List (List Int):=(dfs q (fadd q) (fmul q) lost w r (G.drop i) (En.drop i) x t).map (·.1)
def rest (q:Nat) (lost:Nat→Bool) (w:List Int) (r:Int) (G:List (List Int)) (En:List Nat) (i:Nat) (x:List Int) (t:Nat) (a:Nat):List (List Int) :=
 ((List.range q).drop a).flatMap fun (a:Nat)=>found q lost w r G En (i+1) (vadd (fadd q) x (vmul (fmul q) (a:Int) (G.getD i []))) (t+far lost w (vadd (fadd q) x (vmul (fmul q) (a:Int) (G.getD i []))) (En.getD i 0) (En.getD (i+1) 0-En.getD i 0))
section
variable {q:Nat} {lost:Nat→Bool} {w:List Int} {r:Int} {G:List (List Int)} {En:List Nat} {i:Nat} {x:List Int} {t:Nat}
end
end
end Go.Proofs.Ytbpjicbpcfkpfaa.Ai
namespace Go.Proofs.Ytbpjicbpcfkpfaa.Ai
open Go Ma
noncomputable section
def mark (g:List Int) (lb:List Bool):List Bool:=g.foldl (fun l i=>l.set i.toNat true) lb
theorem mark_len (g:List Int):∀ lb:List Bool,(mark g lb).length=lb.length:=by
 induction g with
 | nil=>intro lb;rfl
 | cons a g ih=>intro lb;exact (ih _).trans (by simp)
theorem L100_2_2_spec {a:List Int} (hs:a.length<2^60) {p:Nat} (hp:p<a.length) (hz:∀ j,j<p→a.getD j 0=0) (hn:a.getD p 0≠0) {τ:Type} (κ:Nat→LS_→Option τ):∀ (f j:Nat),j≤p→p<f+j →
  runE L100_2_2 f κ 0 [.N a.length,.L a,.I 0,.I a.length,.I j]=κ 0 [.I p]
 | 0,j,h1,h2=>by omega
 | f+1,j,h1,h2=>by
  rw [runE_succ]
  show L100_2_2.s0 _ _ _=_
  unfold L100_2_2.s0 F101
  simp only [g_,Int.toNat_natCast,Nat.mul_one,Nat.zero_add,List.drop_zero,List.take_length,sw_zero]
  rw [br_of (by simp;omega),ck_of (by simp;omega),ck_of (by simp;omega)]
  by_cases hj:j=p
  ·subst hj
   rw [br_of (by simpa [-List.getD_eq_getElem?_getD] using hn)]
  ·rw [br_no (by rw [hz j (by omega)];rfl),wsucc (by omega)]
   exact L100_2_2_spec hs hp hz hn κ f (j+1) (by omega) (by omega)
theorem S100_2_spec {a:List Int} (hs:a.length<2^60) {p:Nat} (hp:p<a.length) (hz:∀ j,j<p→a.getD j 0=0) (hn:a.getD p 0≠0) {τ:Type} (k:Nat→LS_→Option τ):S100_2 [.N a.length,.L a] k=k 0 [.I ((p:Nat):Int)]:=by
 have hfu:=fuel_le
 unfold S100_2 L100_2_2.b
 simp only [g_,Int.toNat_natCast,Nat.mul_one,Nat.zero_add,List.drop_zero,List.take_length]
 exact L100_2_2_spec hs hp hz hn (fun j l101=>(sw (k 0 [.I (gI l101 0)]) (sw (k 0 [.I (-(1:Int))]) (fun _=>none))) j) fuel 0 (Nat.zero_le _) (by omega)
theorem L65_10_1_spec {n:Nat} (hn:n<2^30) {g:List Int} (hs:g.length<2^60) (hg:∀ i,i<g.length→0≤g.getD i 0∧g.getD i 0<n) {v4:Int} {v5:Int} {v6:Nat} {v7:List (List Int)} {v8:Nat} {v9:List Int} {v10:Nat} {v11:List Int} {v12:Int} {v13:Int} {v14:Int} {v15:Int} {v16:Nat} {v17:List (List Int)} {v18:Nat} {v19:List Int} {v20:Nat} {v21:List Int} {v22:List Int} {v23:Int} {v24:Int} {v25:Nat} {v27:Int} {v28:Int} {v29:Nat} {v30:List (List Int)} {v31:Int} {v32:Int} {v33:Nat} {v34:Nat} {v35:List Int} {τ:Type} (κ:Nat→LS_→Option τ):∀ (f j:Nat) (lb:List Bool),lb.length=n→j≤g.length→g.length<f+j →
  runE L65_10_1 f κ 0 [.N g.length,.L g,.I g.length,.I j,.I v4,.I v5,.N v6,.LL v7,.N v8,.L v9,.N v10,.L v11,.I v12,.I v13,.I v14,.I v15,.N v16,.LL v17,.N v18,.L v19,.N v20,.L v21,.L v22,.I v23,.I v24,.N v25,.LB lb,.I v27,.I v28,.N v29,.LL v30,.I v31,.I v32,.N v33,.N v34,.L v35,.N n]=κ 0 [.I v4,.I v5,.N v6,.LL v7,.N v8,.L v9,.N v10,.L v11,.I v12,.I v13,.I v14,.I v15,.N v16,.LL v17,.N v18,.L v19,.N v20,.L v21,.L v22,.I v23,.I v24,.N v25,.LB (mark (g.drop j) lb),.I v27,.I v28,.N v29,.LL v30,.I v31,.I v32,.N v33,.N v34,.L v35,.N n]
 | 0,j,lb,h0,h1,h2=>by omega
 | f+1,j,lb,h0,h1,h2=>by
  rw [runE_succ]
  show L65_10_1.s0 _ _ _=_
  unfold L65_10_1.s0
  simp only [g_,Int.toNat_natCast,Nat.mul_one,Nat.zero_add,List.drop_zero,List.take_length]
  by_cases hj:j<g.length
  ·have hx:=hg j hj
   have ih:=L65_10_1_spec hn hs hg (v4:=v4) (v5:=v5) (v6:=v6) (v7:=v7) (v8:=v8) (v9:=v9) (v10:=v10) (v11:=v11) (v12:=v12) (v13:=v13) (v14:=v14) (v15:=v15) (v16:=v16) (v17:=v17) (v18:=v18) (v19:=v19) (v20:=v20) (v21:=v21) (v22:=v22) (v23:=v23) (v24:=v24) (v25:=v25) (v27:=v27) (v28:=v28) (v29:=v29) (v30:=v30) (v31:=v31) (v32:=v32) (v33:=v33) (v34:=v34) (v35:=v35) κ f (j+1) (lb.set (g.getD j 0).toNat true) (by simpa using h0) (by omega) (by omega)
   rw [br_of (by simp;omega),ck_of (by simp;omega),ck_of (by simp;omega)]
   have hd:mark (g.drop j) lb=mark (g.drop (j+1)) (lb.set (g.getD j 0).toNat true):=by rw [drop_cons (l:=g) (j:=j) 0 hj];rfl
   rw [hd]
   generalize g.getD j 0=x at hx ih ⊢
   rw [ck_of (by simp;omega),ck_of (by simp;omega),wsucc (by omega)]
   exact ih
  ·rw [br_no (by simp;omega),List.drop_eq_nil_of_le (by omega)]
   rfl
theorem L65_10_1_all {n:Nat} (hn:n<2^30) {g:List Int} (hs:g.length<2^60) (hg:∀ i,i<g.length→0≤g.getD i 0∧g.getD i 0<n) {v4:Int} {v5:Int} {v6:Nat} {v7:List (List Int)} {v8:Nat} {v9:List Int} {v10:Nat} {v11:List Int} {v12:Int} {v13:Int} {v14:Int} {v15:Int} {v16:Nat} {v17:List (List Int)} {v18:Nat} {v19:List Int} {v20:Nat} {v21:List Int} {v22:List Int} {v23:Int} {v24:Int} {v25:Nat} {v27:Int} {v28:Int} {v29:Nat} {v30:List (List Int)} {v31:Int} {v32:Int} {v33:Nat} {v34:Nat} {v35:List Int} {τ:Type} (κ:Nat→LS_→Option τ) {lb:List Bool} (h0:lb.length=n) :
  runE L65_10_1 fuel κ 0 [.N g.length,.L g,.I g.length,.I 0,.I v4,.I v5,.N v6,.LL v7,.N v8,.L v9,.N v10,.L v11,.I v12,.I v13,.I v14,.I v15,.N v16,.LL v17,.N v18,.L v19,.N v20,.L v21,.L v22,.I v23,.I v24,.N v25,.LB lb,.I v27,.I v28,.N v29,.LL v30,.I v31,.I v32,.N v33,.N v34,.L v35,.N n]=κ 0 [.I v4,.I v5,.N v6,.LL v7,.N v8,.L v9,.N v10,.L v11,.I v12,.I v13,.I v14,.I v15,.N v16,.LL v17,.N v18,.L v19,.N v20,.L v21,.L v22,.I v23,.I v24,.N v25,.LB (mark g lb),.I v27,.I v28,.N v29,.LL v30,.I v31,.I v32,.N v33,.N v34,.L v35,.N n]:=by
 have hfu:=fuel_le
 have:=L65_10_1_spec hn hs hg (v4:=v4) (v5:=v5) (v6:=v6) (v7:=v7) (v8:=v8) (v9:=v9) (v10:=v10) (v11:=v11) (v12:=v12) (v13:=v13) (v14:=v14) (v15:=v15) (v16:=v16) (v17:=v17) (v18:=v18) (v19:=v19) (v20:=v20) (v21:=v21) (v22:=v22) (v23:=v23) (v24:=v24) (v25:=v25) (v27:=v27) (v28:=v28) (v29:=v29) (v30:=v30) (v31:=v31) (v32:=v32) (v33:=v33) (v34:=v34) (v35:=v35) κ fuel 0 lb h0 (Nat.zero_le _) (by omega)
 exact this
def pv (piv:Nat→Nat) (k:Nat):List Int:=(List.range k).map fun i=>((piv i:Nat):Int)
theorem pv_len (piv:Nat→Nat) (k:Nat):(pv piv k).length=k:=by simp [pv]
theorem L65_15_1_spec1 {q n:Nat} {G:List (List Int)} (hG:Rows q n G) {piv:Nat→Nat} (hp:∀ i,i<G.length→piv i<n∧(∀ j,j<piv i→(G.getD i []).getD j 0=0)∧(G.getD i []).getD (piv i) 0≠0) {v4:Int} {v5:Int} {v6:Nat} {v7:List (List Int)} {v8:Nat} {v9:List Int} {v10:Nat} {v11:List Int} {v12:Int} {v13:Int} {v14:Int} {v15:Int} {v16:Nat} {v17:List (List Int)} {v18:Nat} {v19:List Int} {v20:Nat} {v21:List Int} {v22:List Int} {v23:Int} {v24:Int} {v25:Nat} {v26:List Bool} {v27:Int} {v28:Int} {v29:Nat} {v30:List (List Int)} {v31:Int} {v32:Int} {v33:Nat} {v34:Nat} {v35:List Int} {v36:Nat} {τ:Type} (κ:Nat→LS_→Option τ):∀ (f j:Nat),j≤G.length→G.length<f+j →
  runE L65_15_1 f κ 1 [.N G.length,.LL G,.I G.length,.I j,.I v4,.I v5,.N v6,.LL v7,.N v8,.L v9,.N v10,.L v11,.I v12,.I v13,.I v14,.I v15,.N v16,.LL v17,.N v18,.L v19,.N v20,.L v21,.L v22,.I v23,.I v24,.N v25,.LB v26,.I v27,.I v28,.N v29,.LL v30,.I v31,.I v32,.N v33,.N v34,.L v35,.N v36,.N (pv piv j).length,.L (pv piv j)]=κ 1 [.I v4,.I v5,.N v6,.LL v7,.N v8,.L v9,.N v10,.L v11,.I v12,.I v13,.I v14,.I v15,.N v16,.LL v17,.N v18,.L v19,.N v20,.L v21,.L v22,.I v23,.I v24,.N v25,.LB v26,.I v27,.I v28,.N v29,.LL v30,.I v31,.I v32,.N v33,.N v34,.L v35,.N v36,.N (pv piv G.length).length,.L (pv piv G.length)]
 | 0,j,h1,h2=>by omega
 | f+1,j,h1,h2=>by
  have hf:=hG.few
  have hs:=hG.short
  rw [runE_succ]
  show L65_15_1.s1 _ _ _=_
  unfold L65_15_1.s1
  simp only [g_,Int.toNat_natCast,Nat.mul_one,Nat.zero_add,List.drop_zero,List.take_length]
  by_cases hj:j<G.length
  ·have hx:=hp j hj
   have wl:=(hG.wd j hj).1
   have ih:=L65_15_1_spec1 hG hp (v4:=v4) (v5:=v5) (v6:=v6) (v7:=v7) (v8:=v8) (v9:=v9) (v10:=v10) (v11:=v11) (v12:=v12) (v13:=v13) (v14:=v14) (v15:=v15) (v16:=v16) (v17:=v17) (v18:=v18) (v19:=v19) (v20:=v20) (v21:=v21) (v22:=v22) (v23:=v23) (v24:=v24) (v25:=v25) (v26:=v26) (v27:=v27) (v28:=v28) (v29:=v29) (v30:=v30) (v31:=v31) (v32:=v32) (v33:=v33) (v34:=v34) (v35:=v35) (v36:=v36) κ f (j+1) (by omega) (by omega)
   have e5:pv piv (j+1)=pv piv j++List.take 1 [((piv j:Nat):Int)]:=by unfold pv;rw [List.range_succ,List.map_append];rfl
   rw [e5,show (pv piv j++List.take 1 [((piv j:Nat):Int)]).length=(pv piv j).length+1 by simp] at ih
   have e6:(pv piv j).length=j:=pv_len piv j
   rw [br_of (by simp;omega),ck_of (by simp;omega),ck_of (by simp;omega),S100_2_spec (by omega) (by omega) hx.2.1 hx.2.2]
   simp only [sw_zero,gI_zero]
   rw [ck_of (by simp;omega),wsucc (by omega)]
   exact ih
  ·have:j=G.length:=by omega
   subst this
   rw [br_no (by simp)]
theorem L65_15_1_all {q n:Nat} {G:List (List Int)} (hG:Rows q n G) {piv:Nat→Nat} (hp:∀ i,i<G.length→piv i<n∧(∀ j,j<piv i→(G.getD i []).getD j 0=0)∧(G.getD i []).getD (piv i) 0≠0) {v4:Int} {v5:Int} {v6:Nat} {v7:List (List Int)} {v8:Nat} {v9:List Int} {v10:Nat} {v11:List Int} {v12:Int} {v13:Int} {v14:Int} {v15:Int} {v16:Nat} {v17:List (List Int)} {v18:Nat} {v19:List Int} {v20:Nat} {v21:List Int} {v22:List Int} {v23:Int} {v24:Int} {v25:Nat} {v26:List Bool} {v27:Int} {v28:Int} {v29:Nat} {v30:List (List Int)} {v31:Int} {v32:Int} {v33:Nat} {v34:Nat} {v35:List Int} {v36:Nat} {τ:Type} (κ:Nat→LS_→Option τ) :
  runE L65_15_1 fuel κ 0 [.N G.length,.LL G,.I G.length,.I 0,.I v4,.I v5,.N v6,.LL v7,.N v8,.L v9,.N v10,.L v11,.I v12,.I v13,.I v14,.I v15,.N v16,.LL v17,.N v18,.L v19,.N v20,.L v21,.L v22,.I v23,.I v24,.N v25,.LB v26,.I v27,.I v28,.N v29,.LL v30,.I v31,.I v32,.N v33,.N v34,.L v35,.N v36]=if G.length=0 then κ 0 [.I v4,.I v5,.N v6,.LL v7,.N v8,.L v9,.N v10,.L v11,.I v12,.I v13,.I v14,.I v15,.N v16,.LL v17,.N v18,.L v19,.N v20,.L v21,.L v22,.I v23,.I v24,.N v25,.LB v26,.I v27,.I v28,.N v29,.LL v30,.I v31,.I v32,.N v33,.N v34,.L v35,.N v36] else κ 1 [.I v4,.I v5,.N v6,.LL v7,.N v8,.L v9,.N v10,.L v11,.I v12,.I v13,.I v14,.I v15,.N v16,.LL v17,.N v18,.L v19,.N v20,.L v21,.L v22,.I v23,.I v24,.N v25,.LB v26,.I v27,.I v28,.N v29,.LL v30,.I v31,.I v32,.N v33,.N v34,.L v35,.N v36,.N (pv piv G.length).length,.L (pv piv G.length)]:=by
 have hfu:=fuel_le
 have hf:=hG.few
 have hs:=hG.short
 obtain ⟨f,hff⟩:∃ f,fuel=f+1:=⟨fuel-1,by omega⟩
 rw [hff,runE_succ]
 show L65_15_1.s0 _ _ _=_
 unfold L65_15_1.s0
 simp only [g_,Int.toNat_natCast,Nat.mul_one,Nat.zero_add,List.drop_zero,List.take_length]
 by_cases hj:0<G.length
 ·have hx:=hp 0 hj
  have wl:=(hG.wd 0 hj).1
  have ih:=L65_15_1_spec1 hG hp (v4:=v4) (v5:=v5) (v6:=v6) (v7:=v7) (v8:=v8) (v9:=v9) (v10:=v10) (v11:=v11) (v12:=v12) (v13:=v13) (v14:=v14) (v15:=v15) (v16:=v16) (v17:=v17) (v18:=v18) (v19:=v19) (v20:=v20) (v21:=v21) (v22:=v22) (v23:=v23) (v24:=v24) (v25:=v25) (v26:=v26) (v27:=v27) (v28:=v28) (v29:=v29) (v30:=v30) (v31:=v31) (v32:=v32) (v33:=v33) (v34:=v34) (v35:=v35) (v36:=v36) κ f 1 (by omega) (by omega)
  rw [if_neg (by omega),br_of (by simp only [ltI_iff];omega),ck_of (by simp only [Bool.and_eq_true,leI_iff,ltI_iff,and_true];omega),show Int.toNat 0=0 from rfl,ck_of (by simp only [ltN_iff];omega),S100_2_spec (by omega) (by omega) hx.2.1 hx.2.2]
  simp only [sw_zero,gI_zero]
  exact ih
 ·rw [if_pos (by omega),br_no (by simp only [ltI_no];omega)]
def T35 {τ:Type} (l:LS_) (k:Nat→LS_→Option τ):Option τ:=wrapB F35.E (.v pCode) l k
def T35.E:Ent P:=F35.E.wrap (.v pCode)
def T25 {τ:Type} (l:LS_) (k:Nat→LS_→Option τ):Option τ:=wrapB F25.E (.v pM) l k
def T25.E:Ent P:=F25.E.wrap (.v pM)
theorem wrap_of {e:Ent P} {p:PV3} {ls l2 ls':LS_} {j:Nat} {c:Bool} (hw:∀ {τ:Type} (κ:Option (Bool×LS_)→Option τ),sel e.sh (fun s=>κ (wr3 p (fA s l2))) j=κ (some (c,ls'))) (hc:c=true) {τ:Type} {k:Nat→LS_→Option τ} (h:∀ κ:Nat→LS_→Option τ,e.b ls κ=κ j l2) :
  wrapB e p ls k=k 0 ls':=by
 unfold wrapB
 rw [h]
 refine (hw (fun o=>Option.rec (motive:=fun _=>Option τ) none (fun (q:Bool×LS_)=>ck q.1 (k 0 q.2)) o)).trans ?_
 subst hc
 rfl
theorem T35_spec {Q N K:Int} {L:List Int} (hQ:0≤Q∧Q<256) (hN:0≤N∧N<256) (hK:0≤K∧K<256) (hL:Bytes L) :
  ∃ (q n:Nat) (G:List (List Int)),Cd q n G∧∀ {τ:Type} (κ:Nat→LS_→Option τ),T35 [.I Q,.I N,.I K,.L L] κ=κ 0 [.I q,.I n,.LL G]:=by
 obtain ⟨q,n,M,r,h1,h2,h3,h4⟩:=F35_spec hQ hN hK hL
 refine ⟨q,n,M.take r,h1,fun {τ} κ=>?_⟩
 by_cases hr:r=0
 ·subst hr
  exact wrap_of (e:=F35.E) (p:=.v pCode) (j:=1) (l2:=[.I q,.I n,.N 0]) (c:=true) (ls':=[.I q,.I n,.LL []]) (by intro τ κ;kernel_rfl) rfl (fun κ=>(h4 κ).trans (if_pos rfl))
 ·have:=wrap_of (e:=F35.E) (p:=.v pCode) (j:=0) (l2:=[.I q,.I n,.N r,.LL M]) (c:=true&&(true&&(true&&(true&&(true&&(decide (r=(List.take (r*1) (List.drop 0 M)).length)&&true)))))) (ls':=[.I q,.I n,.LL (List.take (r*1) (List.drop 0 M))]) (by intro τ κ;kernel_rfl)
   (by rw [Nat.mul_one,List.drop_zero,h2];simp) (k:=κ) (fun κ=>(h4 κ).trans (if_neg hr))
  rw [Nat.mul_one,List.drop_zero] at this
  exact this
theorem T25_spec {q n:Nat} (hq:q∈Qs) {G:List (List Int)} (hG:Rows q n G) (hc:q^G.length≤4096) {τ:Type} (k:Nat→LS_→Option τ) :
  T25 [.I q,.I n,.LL G] k=k 0 [.LL (words q (fadd q) (fmul q) G (List.replicate n 0))]:=by
 have hl:(words q (fadd q) (fmul q) G (List.replicate n 0)).length=q^G.length:=by
  have:=words_digs q (by have:=qs_lt hq;omega) (fadd q) (fmul q) G (List.replicate n 0)
  rw [←this,List.length_map,List.length_range]
 have:=wrap_of (e:=F25.E) (p:=.v pM) (j:=1) (l2:=[.N (q^G.length),.LL (words q (fadd q) (fmul q) G (List.replicate n 0))]) (c:=true&&(true&&(true&&decide (q^G.length=(List.take (q^G.length*1) (List.drop 0 (words q (fadd q) (fmul q) G (List.replicate n 0)))).length)))) (ls':=[.LL (List.take (q^G.length*1) (List.drop 0 (words q (fadd q) (fmul q) G (List.replicate n 0))))]) (by intro τ κ;kernel_rfl)
   (by rw [Nat.mul_one,List.drop_zero,List.take_of_length_le (by omega),hl];simp) (k:=k) (fun κ=>F25_spec hq hG hc κ)
 rw [Nat.mul_one,List.drop_zero,List.take_of_length_le (by omega)] at this
 exact this
def lostG (n:Nat) (g:List Int):Nat→Bool:=lostB (mark g (List.replicate n false))
def winR (q n:Nat) (G:List (List Int)) (w g:List Int) (r:Int):List (List Int) :=
 (words q (fadd q) (fmul q) G (List.replicate n 0)).filter fun y=>decide (((far (lostG n g) w y 0 n:Nat):Int)≤r)
def ends (n:Nat) (piv:Nat→Nat) (k:Nat):List Nat:=(List.range k).map piv++[n]
theorem ends_len (n:Nat) (piv:Nat→Nat) (k:Nat):(ends n piv k).length=k+1:=by simp [ends]
theorem ends_get {n:Nat} {piv:Nat→Nat} {k i:Nat} (hi:i<k):(ends n piv k).getD i 0=piv i:=by
 unfold ends
 rw [List.getD_eq_getElem?_getD,List.getElem?_append_left (by simpa using hi)]
 simp [hi]
theorem ends_last {n:Nat} {piv:Nat→Nat} {k:Nat}:(ends n piv k).getD k 0=n:=by
 unfold ends
 rw [List.getD_eq_getElem?_getD,List.getElem?_append_right (by simp)]
 simp
theorem Er_ends (n:Nat) (piv:Nat→Nat) (k:Nat):Er (ends n piv k)=pv piv k++[(n:Int)]:=by
 unfold Er ends pv
 rw [List.map_append,List.map_map]
 rfl
theorem Rref.leads {q n:Nat} {G:List (List Int)} {piv:Nat→Nat} (h:Rref q n G piv):∀ i,i<G.length→piv i<n∧(∀ j,j<piv i→(G.getD i []).getD j 0=0)∧(G.getD i []).getD (piv i) 0≠0:=fun i hi=>by
 refine ⟨h.lt i hi,fun j hj=>h.lead i j hi hj,?_⟩
 have:=h.one i hi
 unfold ent at this
 rw [this]
 decide
theorem Rref.sr {q n:Nat} {G:List (List Int)} {piv:Nat→Nat} (hc:Cd q n G) (h:Rref q n G piv) {w:List Int} (hw:w.length=n) {lb:List Bool} (hb:lb.length=n):Sr q n G w lb (ends n piv G.length) where
 hq:=hc.fq
 gr:=hc.rows
 wl:=hw
 bl:=hb
 n0:=hc.n0
 n1:=by have:=hc.n1;omega
 el:=ends_len _ _ _
 em:=fun i hi=>by
  rw [ends_get hi]
  by_cases h2:i+1<G.length
  ·rw [ends_get h2];exact Nat.le_of_lt (h.mono i (i+1) (by omega) h2)
  ·rw [show i+1=G.length by omega,ends_last];exact Nat.le_of_lt (h.lt i hi)
 en:=fun i hi=>by
  by_cases h2:i<G.length
  ·rw [ends_get h2];exact Nat.le_of_lt (h.lt i h2)
  ·rw [show i=G.length by omega,ends_last];exact Nat.le_refl _
theorem S70_0_zero {n:Nat} {x w:List Int} {lb:List Bool} (hx:x.length=n) (hw:w.length=n) (hb:lb.length=n) (hs:n<2^30) {b:Nat} (hbn:b≤n) {q N:Int} {K:Nat} {G:List (List Int)} {p e:Int} {mn en:Nat} {M E:List Int} {τ:Type} (k:Nat→LS_→Option τ) :
  S70_0 [.N n,.I 0,.I b,.I q,.I N,.N K,.LL G,.I p,.I e,.N mn,.N n,.L w,.N n,.N en,.L x,.L M,.LB lb,.L E] k=k 0 [.I ((far (lostB lb) w x 0 b:Nat):Int),.I q,.I N,.N K,.LL G,.I p,.I e,.N mn,.N n,.L w,.N n,.N en,.L x,.L M,.LB lb,.L E] :=
 S70_0_spec hx hw hb hs (a:=0) (Nat.zero_le _) hbn k
theorem F18_invalid {q:Nat} (hq:q∈Qs) (n:Int) {G:List (List Int)} (hs:G.length<2^60) (hws:∀ i,(G.getD i []).length<2^60) (hv:validB q n G=false) (w g:List Int) (r:Int) {τ:Type} (k:Nat→LS_→Option τ):F18 [.I q,.I n,.LL G,.L w,.L g,.I r] k=k 0 []:=by
 unfold F18
 simp only [g_,Int.toNat_natCast,Nat.mul_one,Nat.zero_add,List.drop_zero,List.take_length]
 rw [ck_of (by simp),F37_spec hq n hs hws,hv]
 simp only [sw_zero,gB_zero]
 rw [br_of (b:=!false) rfl]
theorem F18_wrong {q:Nat} (hq:q∈Qs) (n:Int) {G:List (List Int)} (hs:G.length<2^60) (hws:∀ i,(G.getD i []).length<2^60) {w g:List Int} (hw:w.length<2^60) (hg:g.length<2^60) (hr:isRight q n w g=false) (r:Int) {τ:Type} (k:Nat→LS_→Option τ):F18 [.I q,.I n,.LL G,.L w,.L g,.I r] k=k 0 []:=by
 cases hv:validB q n G with
 | false=>exact F18_invalid hq n hs hws hv w g r k
 | true =>
  unfold F18
  simp only [g_,Int.toNat_natCast,Nat.mul_one,Nat.zero_add,List.drop_zero,List.take_length]
  rw [ck_of (by simp),F37_spec hq n hs hws,hv]
  simp only [sw_zero,gB_zero]
  rw [br_no (b:=!true) rfl,ck_of (by simp),F98_spec _ _ _ hw hg,hr]
  simp only [sw_zero,gB_zero]
  rw [br_of (b:=!false) rfl]
def T18 {τ:Type} (l:LS_) (k:Nat→LS_→Option τ):Option τ:=wrapB F18.E (.tup [pM,pI]) l k
def T18.E:Ent P:=F18.E.wrap (.tup [pM,pI])
theorem T18_err0 {ls:LS_} (h:∀ {τ:Type} (κ:Nat→LS_→Option τ),F18 ls κ=κ 0 []) {τ:Type} (k:Nat→LS_→Option τ):T18 ls k=k 0 [.LL [],.I 1] :=
 wrap_of (e:=F18.E) (p:=.tup [pM,pI]) (j:=0) (l2:=[]) (c:=true) (ls':=[.LL [],.I 1]) (by intro τ κ;kernel_rfl) rfl (fun κ=>h κ)
def T26 {τ:Type} (l:LS_) (k:Nat→LS_→Option τ):Option τ:=F26 l k
def T26.E:Ent P:=F26.E
def lostI (g:List Int):Nat→Bool:=fun i=>g.contains ((i:Nat):Int)
theorem L75_2_spec {g:List Int} (hs:g.length<2^60) (x:Int) (wn:Nat) (w:List Int) {τ:Type} (κ:Nat→LS_→Option τ):∀ (f j:Nat),j≤g.length→g.length<f+j →
  runE L75_2 f κ 0 [.I x,.B false,.I j,.N wn,.L w,.N g.length,.L g]=if (g.drop j).contains x then κ 0 [.B true] else κ 1 [.B false]
 | 0,j,h1,h2=>by omega
 | f+1,j,h1,h2=>by
  rw [runE_succ]
  show L75_2.s0 _ _ _=_
  unfold L75_2.s0
  simp only [g_,Int.toNat_natCast,Nat.mul_one]
  by_cases hj:j<g.length
  ·rw [br_of (by simp;omega),ck_of (by simp;omega),ck_of (by simp;omega),drop_cons (l:=g) (j:=j) 0 hj,List.contains_cons]
   by_cases he:g.getD j 0=x
   ·rw [br_of (by rw [he];simp),if_pos (by rw [he];simp)]
   ·have e1:(x==g.getD j 0)=false:=by rw [beq_eq_false_iff_ne];exact fun h=>he h.symm
    have e2:(g.getD j 0==x)=false:=by rw [beq_eq_false_iff_ne];exact he
    rw [e2,br_no rfl,e1,Bool.false_or,wsucc (by omega)]
    exact L75_2_spec hs x wn w κ f (j+1) (by omega) (by omega)
  ·rw [br_no (by simp;omega),List.drop_eq_nil_of_le (by omega)]
   rfl
theorem F75_spec {g:List Int} (hs:g.length<2^60) (w:List Int) (i:Nat) {τ:Type} (k:Nat→LS_→Option τ):F75 [.L w,.L g,.I ((i:Nat):Int)] k=k 0 [.B (lostI g i)]:=by
 have hfu:=fuel_le
 unfold F75 L75_2.b lostI
 simp only [g_]
 have:=L75_2_spec hs ((i:Nat):Int) w.length w (fun j l3=>(sw (k 0 [.B (gB l3 0)]) (sw (k 0 [.B false]) (fun _=>none))) j) fuel 0 (by omega) (by omega)
 refine Eq.trans this ?_
 rw [List.drop_zero]
 cases g.contains ((i:Nat):Int) <;> rfl
theorem L26_3_spec {w g x:List Int} (hw:w.length=x.length) (hs:x.length<2^60) (hg:g.length<2^60) {τ:Type} (κ:Nat→LS_→Option τ):∀ (f j:Nat),j≤x.length→x.length<f+j →
  runE L26_3 f κ 0 [.N x.length,.L x,.I ((far (lostI g) w x 0 j:Nat):Int),.I j,.N w.length,.L w,.N g.length,.L g]=κ 0 [.I ((far (lostI g) w x 0 x.length:Nat):Int)]
 | 0,j,h1,h2=>by omega
 | f+1,j,h1,h2=>by
  have fl:=far_le (lostI g) w x 0 j
  have ih:=L26_3_spec hw hs hg κ f (j+1)
  rw [runE_succ]
  show L26_3.s0 _ _ _=_
  unfold L26_3.s0
  simp only [g_,Int.toNat_natCast,Nat.mul_one]
  by_cases hj:j<x.length
  ·have ih:=ih (by omega) (by omega)
   rw [far_succ,Nat.zero_add] at ih
   have e2:wr .i64 (((far (lostI g) w x 0 j:Nat):Int)+1)=((far (lostI g) w x 0 j+1:Nat):Int):=by rw [wr64 (by omega) (by omega)];simp
   have e1:wr .i64 ((j:Int)+1)=((j+1:Nat):Int):=by rw [wr64 (by omega) (by omega)];simp
   rw [br_of (by simp;omega),ck_of (by simp),F75_spec hg]
   simp only [sw_zero,gB_zero,e1,e2]
   cases hl:lostI g j with
   | true =>
    rw [br_no (b:=!true) rfl]
    rw [hl] at ih
    exact ih
   | false =>
    rw [br_of (b:=!false) rfl,ck_of (by simp;omega),ck_of (by simp;omega),ck_of (by simp;omega),ck_of (by simp;omega)]
    rw [hl] at ih
    by_cases hd:x.getD j 0=w.getD j 0
    ·rw [br_no (by rw [hd];simp)]
     rw [hd] at ih
     simpa [-List.getD_eq_getElem?_getD] using ih
    ·rw [br_of (by simpa [-List.getD_eq_getElem?_getD] using fun h=>hd h.symm)]
     have:(x.getD j 0 != w.getD j 0)=true:=by simpa [-List.getD_eq_getElem?_getD] using hd
     rw [this] at ih
     exact ih
  ·have:j=x.length:=by omega
   subst this
   rw [br_no (by simp)]
theorem F26_spec {w g x:List Int} (hw:w.length=x.length) (hs:x.length<2^60) (hg:g.length<2^60) {τ:Type} (k:Nat→LS_→Option τ):F26 [.L w,.L g,.L x] k=k 0 [.I ((far (lostI g) w x 0 x.length:Nat):Int)]:=by
 have hfu:=fuel_le
 unfold F26 L26_3.b
 simp only [g_]
 exact L26_3_spec hw hs hg (fun j l5=>(sw (k 0 [.I (gI l5 0)]) (fun _=>none)) j) fuel 0 (by omega) (by omega)
theorem far_lost (lost lost':Nat→Bool) (w x:List Int) (a:Nat):∀ k,(∀ j,a≤j→j<a+k→lost j=lost' j)→far lost w x a k=far lost' w x a k
 | 0,_=>rfl
 | k+1,h=>by rw [far_succ,far_succ,far_lost lost lost' w x a k (fun j h1 h2=>h j h1 (by omega)),h (a+k) (by omega) (by omega)]
theorem mark_get (g:List Int):∀ (lb:List Bool) (i:Nat),(∀ k,k<g.length→0≤g.getD k 0)→i<lb.length→(mark g lb).getD i false=(lb.getD i false || g.contains ((i:Nat):Int)):=by
 induction g with
 | nil=>intro lb i _ _;simp [mark]
 | cons a g ih =>
  intro lb i hg hi
  have h0:0≤a:=by simpa using hg 0 (by simp)
  have:=ih (lb.set a.toNat true) i (fun k hk=>by simpa using hg (k+1) (by simpa using hk)) (by simpa using hi)
  show (mark g (lb.set a.toNat true)).getD i false=_
  rw [this,List.contains_cons,List.getD_eq_getElem?_getD,List.getElem?_set]
  by_cases e:a.toNat=i
  ·have:((i:Nat):Int)==a:=by rw [beq_iff_eq];omega
   rw [this,if_pos e,if_pos (by omega)]
   simp
  ·have:(((i:Nat):Int)==a)=false:=by rw [beq_eq_false_iff_ne];omega
   rw [this,if_neg e,Bool.false_or,←List.getD_eq_getElem?_getD]
theorem lostG_eq {n:Nat} {g:List Int} (hg:∀ k,k<g.length→0≤g.getD k 0) (i:Nat) (hi:i<n):lostG n g i=lostI g i:=by
 unfold lostG lostB lostI
 rw [mark_get g _ i hg (by simpa using hi)]
 simp [List.getD_eq_getElem?_getD,hi]
theorem far_eq {n:Nat} {g:List Int} (hg:∀ k,k<g.length→0≤g.getD k 0) (w x:List Int):far (lostG n g) w x 0 n=far (lostI g) w x 0 n :=
 far_lost _ _ _ _ _ _ fun j _ h=>lostG_eq hg j (by omega)
end
end Go.Proofs.Ytbpjicbpcfkpfaa.Ai
namespace Go.Proofs.Ytbpjicbpcfkpfaa.Ai
open Go Go.RowKit
noncomputable section
variable {τ:Type} (t:Nat) (nx ex:Nat→LS_→Option τ) (l:LS_) (k κ:Nat→LS_→Option τ)
def eo0:List PO:=[(oG [(pK IntKind.u8),(pK IntKind.u8),(pK IntKind.u8),(PV2.v (PV1.sl (PC0.i IntKind.u8))),(pK IntKind.u16),(PV2.v (PV1.sl (PC0.i IntKind.u8))),(pK IntKind.u16)]),(oG [pI,pI,nS,nS,nS,nS,pI]),(oG [pI,pI,qM]),(oG [pI,pI,qM,qR,(rr 4),nS,pI]),oI]
def L17_6.H:LHead:=⟨false,true,0,69638,69638,110,46,0,[(PS.mk (us 1 ((pp 0)::(pp 1)::(pp 2)::us 1 ((pp 3)::pI::us 99 []))) eo0)],[((Out.exit 0),(PS.mk (us 1 ((pp 0)::(pp 1)::(pp 2)::us 1 ((pp 3)::us 100 []))) eo0))]⟩
def L17_6.O:Orc P:=⟨[],[],[],40⟩
def L17_6.s0:Option τ :=
 br (ltI (gI l 0) (gN l 7))
 (br (ltI (gI l 0) 6)
 (ck (((leI 0 (gI l 0))&&(ltI (gI l 0) (gN l 7)))&&true)
 (ck (ltN ((Int.toNat (gI l 0))*1) (List.length (gL l 8)))
 (ck (!((gI l 14)==0))
 (ck (((leI 0 (Int.tmod (wr .i64 (List.getD (gL l 8) ((Int.toNat (gI l 0))*1) 0)) (gI l 14)))&&(ltI (Int.tmod (wr .i64 (List.getD (gL l 8) ((Int.toNat (gI l 0))*1) 0)) (gI l 14)) (((gN l 23):Nat):Int)))&&true)
 (ck (ltN (0+((Int.toNat (Int.tmod (wr .i64 (List.getD (gL l 8) ((Int.toNat (gI l 0))*1) 0)) (gI l 14)))*1)) (List.length (gL l 25)))
 (ck (((leI 0 (gI l 0))&&(ltI (gI l 0) (gN l 7)))&&true)
 (ck (ltN ((Int.toNat (gI l 0))*1) (List.length (gL l 8)))
 (ck (!((wr .i64 ((gI l 13)-1))==0))
 (ck (!((gI l 13)==0))
 (ck (((leI 0 (Int.tmod (wr .i64 (List.getD (gL l 8) ((Int.toNat (gI l 0))*1) 0)) (gI l 14)))&&(ltI (Int.tmod (wr .i64 (List.getD (gL l 8) ((Int.toNat (gI l 0))*1) 0)) (gI l 14)) (((gN l 23):Nat):Int)))&&true)
 (ck ((leN ((0+((Int.toNat (Int.tmod (wr .i64 (List.getD (gL l 8) ((Int.toNat (gI l 0))*1) 0)) (gI l 14)))*1))+1) (List.length (gL l 25)))&&true)
 (nx 0 [.I (wr .i64 ((gI l 0)+1)),.I (gI l 1),.I (gI l 2),.I (gI l 3),.N (gN l 4),.L (gL l 5),.I (gI l 6),.N (gN l 7),.L (gL l 8),.I (gI l 9),.I (gI l 10),.I (gI l 11),.I (gI l 12),.I (gI l 13),.I (gI l 14),.N (gN l 15),.LL (gLL l 16),.I (gI l 17),.I (gI l 18),.N (gN l 19),.LL (gLL l 20),.N (gN l 21),.L (gL l 22),.N (gN l 23),.I (gI l 24),.L (List.set (gL l 25) (0+((Int.toNat (Int.tmod (wr .i64 (List.getD (gL l 8) ((Int.toNat (gI l 0))*1) 0)) (gI l 14)))*1)) (Int.tmod (wr .i64 ((wr .i64 ((List.getD (gL l 25) (0+((Int.toNat (Int.tmod (wr .i64 (List.getD (gL l 8) ((Int.toNat (gI l 0))*1) 0)) (gI l 14)))*1)) 0)+1))+(Int.tmod (wr .i64 (Int.tdiv (wr .i64 (List.getD (gL l 8) ((Int.toNat (gI l 0))*1) 0)) 16)) (wr .i64 ((gI l 13)-1))))) (gI l 13)))]))))))))))))
 (ex 0 [.I (gI l 1),.I (gI l 2),.I (gI l 3),.N (gN l 4),.L (gL l 5),.I (gI l 6),.N (gN l 7),.L (gL l 8),.I (gI l 9),.I (gI l 10),.I (gI l 11),.I (gI l 12),.I (gI l 13),.I (gI l 14),.N (gN l 15),.LL (gLL l 16),.I (gI l 17),.I (gI l 18),.N (gN l 19),.LL (gLL l 20),.N (gN l 21),.L (gL l 22),.N (gN l 23),.I (gI l 24),.L (gL l 25)]))
 (ex 0 [.I (gI l 1),.I (gI l 2),.I (gI l 3),.N (gN l 4),.L (gL l 5),.I (gI l 6),.N (gN l 7),.L (gL l 8),.I (gI l 9),.I (gI l 10),.I (gI l 11),.I (gI l 12),.I (gI l 13),.I (gI l 14),.N (gN l 15),.LL (gLL l 16),.I (gI l 17),.I (gI l 18),.N (gN l 19),.LL (gLL l 20),.N (gN l 21),.L (gL l 22),.N (gN l 23),.I (gI l 24),.L (gL l 25)])
theorem L17_6.e0:LEq L17_6.O L17_6.H 0 L17_6.s0:=by intro τ next κ l;kernel_rfl
def L17_6:LStep P Cf:=LStep.mk1 (by decide) L17_6.e0
def L17_6.b:Option τ:=runE L17_6 fuel κ t l
def L17_6.E:LEnt P:=LStep.E L17_6
def L17_11.H:LHead:=⟨false,true,0,69643,69643,302,36,0,[(PS.mk (us 1 ((pp 0)::(pp 1)::(pp 2)::us 1 ((pp 3)::us 2 (pI::us 97 [])))) eo0),(PS.mk (us 1 ((pp 0)::(pp 1)::(pp 2)::us 1 ((pp 3)::us 2 (pI::us 97 [])))) [(oG [(pK IntKind.u8),(pK IntKind.u8),(pK IntKind.u8),(PV2.v (PV1.sl (PC0.i IntKind.u8))),(pK IntKind.u16),(PV2.v (PV1.sl (PC0.i IntKind.u8))),(pK IntKind.u16)]),(oG [pI,pI,nS,nS,nS,nS,pI]),(oG [pI,pI,qM]),(oG [pI,pI,qM,qR,(rr 4),(rr 5),pI]),oI,oI])],[((Out.exit 2),(PS.mk (us 2 ((pp 0)::us 2 ((pp 1)::us 100 []))) [(oG [pI,pI,nS,nS,nS,nS,pI]),(oG [pI,pI,qM,qR,(rr 2),nS,pI]),oI])),((Out.exit 2),(PS.mk (us 2 ((pp 0)::us 2 ((pp 1)::us 100 []))) [(oG [pI,pI,nS,nS,nS,nS,pI]),(oG [pI,pI,qM,qR,(rr 2),(rr 3),pI]),oI,oI]))]⟩
def L17_11.O:Orc P:=⟨[],[],[],40⟩
def L17_11.s0:Option τ :=
 br (ltI (gI l 0) (gI l 14))
 (ck (leI 0 (wr IntKind.u64 (gI l 0)))
 (br ((wr IntKind.u16 (((@BitVec.toNat 16 (@HAnd.hAnd (BitVec (IntKind.bits IntKind.u16)) (BitVec (IntKind.bits IntKind.u16)) (BitVec (IntKind.bits IntKind.u16)) (@instHAndOfAndOp (BitVec (IntKind.bits IntKind.u16)) (@BitVec.instAndOp (IntKind.bits IntKind.u16))) (BitVec.ofInt 16 (Int.fdiv (gI l 9) (@HPow.hPow Int Nat Int (@instHPow Int Nat (@instPowNat Int Int.instNatPow)) 2 (min (Int.toNat (wr IntKind.u64 (gI l 0))) 16)))) (BitVec.ofInt (IntKind.bits IntKind.u16) 1))):Nat):Int))==1)
 (nx 1 [.I (wr .i64 ((gI l 0)+1)),.I (gI l 1),.I (gI l 2),.I (gI l 3),.N (gN l 4),.L (gL l 5),.I (gI l 6),.N (gN l 7),.L (gL l 8),.I (gI l 9),.I (gI l 10),.I (gI l 11),.I (gI l 12),.I (gI l 13),.I (gI l 14),.N (gN l 15),.LL (gLL l 16),.I (gI l 17),.I (gI l 18),.N (gN l 19),.LL (gLL l 20),.N (gN l 21),.L (gL l 22),.N (gN l 23),.N 1,.I (gI l 24),.L (gL l 25),.L (List.take 1 (List.drop 0 [(gI l 0)]))])
 (nx 0 [.I (wr .i64 ((gI l 0)+1)),.I (gI l 1),.I (gI l 2),.I (gI l 3),.N (gN l 4),.L (gL l 5),.I (gI l 6),.N (gN l 7),.L (gL l 8),.I (gI l 9),.I (gI l 10),.I (gI l 11),.I (gI l 12),.I (gI l 13),.I (gI l 14),.N (gN l 15),.LL (gLL l 16),.I (gI l 17),.I (gI l 18),.N (gN l 19),.LL (gLL l 20),.N (gN l 21),.L (gL l 22),.N (gN l 23),.I (gI l 24),.L (gL l 25)])))
 (ex 0 [.I (gI l 10),.I (gI l 11),.I (gI l 12),.I (gI l 17),.I (gI l 18),.N (gN l 19),.LL (gLL l 20),.N (gN l 21),.L (gL l 22),.N (gN l 23),.I (gI l 24),.L (gL l 25)])
theorem L17_11.e0:LEq L17_11.O L17_11.H 0 L17_11.s0:=by intro τ next κ l;kernel_rfl
def L17_11.s1:Option τ :=
 br (ltI (gI l 0) (gI l 14))
 (ck (leI 0 (wr IntKind.u64 (gI l 0)))
 (br ((wr IntKind.u16 (((@BitVec.toNat 16 (@HAnd.hAnd (BitVec (IntKind.bits IntKind.u16)) (BitVec (IntKind.bits IntKind.u16)) (BitVec (IntKind.bits IntKind.u16)) (@instHAndOfAndOp (BitVec (IntKind.bits IntKind.u16)) (@BitVec.instAndOp (IntKind.bits IntKind.u16))) (BitVec.ofInt 16 (Int.fdiv (gI l 9) (@HPow.hPow Int Nat Int (@instHPow Int Nat (@instPowNat Int Int.instNatPow)) 2 (min (Int.toNat (wr IntKind.u64 (gI l 0))) 16)))) (BitVec.ofInt (IntKind.bits IntKind.u16) 1))):Nat):Int))==1)
 (ck (((((eqM (List.length (gL l 27)) ((gN l 24)*1))&&true)&&(eqM 1 1))&&(leN (((gN l 24)+1)*9) 1099511627776))&&true)
 (nx 1 [.I (wr .i64 ((gI l 0)+1)),.I (gI l 1),.I (gI l 2),.I (gI l 3),.N (gN l 4),.L (gL l 5),.I (gI l 6),.N (gN l 7),.L (gL l 8),.I (gI l 9),.I (gI l 10),.I (gI l 11),.I (gI l 12),.I (gI l 13),.I (gI l 14),.N (gN l 15),.LL (gLL l 16),.I (gI l 17),.I (gI l 18),.N (gN l 19),.LL (gLL l 20),.N (gN l 21),.L (gL l 22),.N (gN l 23),.N ((gN l 24)+1),.I (gI l 25),.L (gL l 26),.L ((gL l 27)++(List.take 1 (List.drop 0 [(gI l 0)])))]))
 (nx 1 [.I (wr .i64 ((gI l 0)+1)),.I (gI l 1),.I (gI l 2),.I (gI l 3),.N (gN l 4),.L (gL l 5),.I (gI l 6),.N (gN l 7),.L (gL l 8),.I (gI l 9),.I (gI l 10),.I (gI l 11),.I (gI l 12),.I (gI l 13),.I (gI l 14),.N (gN l 15),.LL (gLL l 16),.I (gI l 17),.I (gI l 18),.N (gN l 19),.LL (gLL l 20),.N (gN l 21),.L (gL l 22),.N (gN l 23),.N (gN l 24),.I (gI l 25),.L (gL l 26),.L (gL l 27)])))
 (ex 1 [.I (gI l 10),.I (gI l 11),.I (gI l 12),.I (gI l 17),.I (gI l 18),.N (gN l 19),.LL (gLL l 20),.N (gN l 21),.L (gL l 22),.N (gN l 23),.N (gN l 24),.I (gI l 25),.L (gL l 26),.L (gL l 27)])
theorem L17_11.e1:LEq L17_11.O L17_11.H 1 L17_11.s1:=by intro τ next κ l;kernel_rfl
def L17_11:LStep P Cf:=LStep.mk2 (by decide) L17_11.e0 L17_11.e1
def L17_11.b:Option τ:=runE L17_11 fuel κ t l
def L17_11.E:LEnt P:=LStep.E L17_11
def F17.ps:List PV2:=[pRaw34]
def F17.sh:List PA:=[(PA.mk (PV3.v (PV2.agg [iI,iI,(PV1.sl (PC0.m .i64)),(PV1.sl (PC0.i .i64)),(r1 0),PV1.nilS,iI])) [cI]),(PA.mk (PV3.v (PV2.agg [iI,iI,(PV1.sl (PC0.m .i64)),(PV1.sl (PC0.i .i64)),(r1 0),(r1 1),iI])) [cI,cI])]
def F17.O:Orc P:=⟨[T35.E,T25.E,T26.E],[L17_6.E,L17_11.E],[],40⟩
def F17:Option τ :=
 ck (((eqM (List.length (gL l 3)) (List.length (gL l 3)))&&true)&&true)
 (T35 [.I (gI l 0),.I (gI l 1),.I (gI l 2),.L (gL l 3)]
 (fun j A=>(sw (ck (((eqM (List.length (gLL A 2)) (List.length (gLL A 2)))&&true)&&true)
 (T25 [.I (gI A 0),.I (gI A 1),.LL (gLL A 2)]
 (fun j B=>(sw (ck (!((((List.length (gLL B 0)):Nat):Int)==0))
 (ck (((leI 0 (Int.tmod (wr .i64 (gI l 4)) (((List.length (gLL B 0)):Nat):Int)))&&(ltI (Int.tmod (wr .i64 (gI l 4)) (((List.length (gLL B 0)):Nat):Int)) (((List.length (gLL B 0)):Nat):Int)))&&true)
 (ck (ltN ((Int.toNat (Int.tmod (wr .i64 (gI l 4)) (((List.length (gLL B 0)):Nat):Int)))*1) (List.length (gLL B 0)))
 (ck (((eqM (List.length (List.getD (gLL B 0) ((Int.toNat (Int.tmod (wr .i64 (gI l 4)) (((List.length (gLL B 0)):Nat):Int)))*1) [])) ((List.length (List.getD (gLL B 0) ((Int.toNat (Int.tmod (wr .i64 (gI l 4)) (((List.length (gLL B 0)):Nat):Int)))*1) []))*1))&&(leN ((0+(List.length (List.getD (gLL B 0) ((Int.toNat (Int.tmod (wr .i64 (gI l 4)) (((List.length (gLL B 0)):Nat):Int)))*1) [])))*9) 1099511627776))&&true)
 (L17_6.b 0 [.I 0,.I (gI l 0),.I (gI l 1),.I (gI l 2),.N (List.length (gL l 3)),.L (gL l 3),.I (gI l 4),.N (List.length (gL l 5)),.L (gL l 5),.I (gI l 6),.I 0,.I 0,.I 0,.I (gI A 0),.I (gI A 1),.N (List.length (gLL A 2)),.LL (gLL A 2),.I (gI A 0),.I (gI A 1),.N (List.length (gLL A 2)),.LL (gLL A 2),.N (List.length (List.getD (gLL B 0) ((Int.toNat (Int.tmod (wr .i64 (gI l 4)) (((List.length (gLL B 0)):Nat):Int)))*1) [])),.L (List.getD (gLL B 0) ((Int.toNat (Int.tmod (wr .i64 (gI l 4)) (((List.length (gLL B 0)):Nat):Int)))*1) []),.N (0+(List.length (List.getD (gLL B 0) ((Int.toNat (Int.tmod (wr .i64 (gI l 4)) (((List.length (gLL B 0)):Nat):Int)))*1) []))),.I 0,.L ([]++(List.getD (gLL B 0) ((Int.toNat (Int.tmod (wr .i64 (gI l 4)) (((List.length (gLL B 0)):Nat):Int)))*1) []))]
 (fun j C=>(sw (L17_11.b 0 [.I 0,.I (gI C 0),.I (gI C 1),.I (gI C 2),.N (gN C 3),.L (gL C 4),.I (gI C 5),.N (gN C 6),.L (gL C 7),.I (gI C 8),.I (gI C 9),.I (gI C 10),.I (gI C 11),.I (gI C 12),.I (gI C 13),.N (gN C 14),.LL (gLL C 15),.I (gI C 16),.I (gI C 17),.N (gN C 18),.LL (gLL C 19),.N (gN C 20),.L (gL C 21),.N (gN C 22),.I (gI C 23),.L (gL C 24)]
 (fun j D=>(sw (ck (((eqM (gN D 9) (List.length (List.take ((gN D 9)*1) (List.drop 0 (gL D 11)))))&&true)&&((eqM (gN D 7) (List.length (gL D 8)))&&true))
 (T26 [.L (List.take ((gN D 9)*1) (List.drop 0 (gL D 11))),.L [],.L (gL D 8)]
 (fun j E=>(sw (k 0 [.I (gI D 3),.I (gI D 4),.N (gN D 5),.LL (gLL D 6),.N (gN D 7),.L (gL D 8),.N (gN D 9),.I (gI E 0),.L (gL D 11)])
 (fun _=>none)) j)))
 (sw (ck (((eqM (gN D 9) (List.length (List.take ((gN D 9)*1) (List.drop 0 (gL D 12)))))&&((eqM (gN D 10) (List.length (List.take ((gN D 10)*1) (List.drop 0 (gL D 13)))))&&true))&&((eqM (gN D 7) (List.length (gL D 8)))&&true))
 (T26 [.L (List.take ((gN D 9)*1) (List.drop 0 (gL D 12))),.L (List.take ((gN D 10)*1) (List.drop 0 (gL D 13))),.L (gL D 8)]
 (fun j E=>(sw (k 1 [.I (gI D 3),.I (gI D 4),.N (gN D 5),.LL (gLL D 6),.N (gN D 7),.L (gL D 8),.N (gN D 9),.N (gN D 10),.I (gI E 0),.L (gL D 12),.L (gL D 13)])
 (fun _=>none)) j)))
 (fun _=>none))) j))
 (fun _=>none)) j))))))
 (fun _=>none)) j)))
 (fun _=>none)) j))
theorem F17.eq:FEq F17.O 17 F17.ps F17.sh F17:=by intro τ l κ;kernel_rfl
def F17.E:Ent P:=mkF F17.eq
end
end Go.Proofs.Ytbpjicbpcfkpfaa.Ai
namespace Go.Proofs.Ytbpjicbpcfkpfaa.Ai
open Go Ma
noncomputable section
theorem change_in {q:Nat} (hq:1<q) (hq2:q<2^20) {a h:Int} (ha:0≤a∧a<q) (hh:0≤h∧h<256) :
  0≤Int.tmod (wr .i64 (wr .i64 (a+1)+Int.tmod (wr .i64 (Int.tdiv (wr .i64 h) 16)) (wr .i64 ((q:Int)-1)))) q∧Int.tmod (wr .i64 (wr .i64 (a+1)+Int.tmod (wr .i64 (Int.tdiv (wr .i64 h) 16)) (wr .i64 ((q:Int)-1)))) q<q:=by
 rw [wr64 (n:=(q:Int)-1) (by omega) (by omega),wr64 (n:=a+1) (by omega) (by omega),wr64 (n:=h) (by omega) (by omega)]
 have e:Int.tdiv h 16=h / 16:=Int.tdiv_eq_ediv_of_nonneg (by omega)
 have h1:0≤h / 16∧h / 16<256:=by omega
 rw [e,wr64 (n:=h / 16) (by omega) (by omega)]
 have b:=tmod_in (a:=h / 16) (b:=(q:Int)-1) (by omega) (by omega)
 generalize Int.tmod (h / 16) ((q:Int)-1)=B at b ⊢
 rw [wr64 (n:=a+1+B) (by omega) (by omega)]
 exact tmod_in (by omega) (by omega)
theorem L17_6_spec {q n:Nat} (hq:1<q) (hq2:q<2^20) (hn:1≤n∧n<2^20) {H:List Int} (hH:Bytes H) (Q N K:Int) (L:List Int) (num gone:Int) (c:Nat) (G:List (List Int)) (s:List Int):∀ (f j:Nat) (w:List Int),j≤6→6<f+j→Wd q n w →
  ∃ w',Wd q n w'∧∀ {τ:Type} (κ:Nat→LS_→Option τ),runE L17_6 f κ 0 [.I j,.I Q,.I N,.I K,.N L.length,.L L,.I num,.N H.length,.L H,.I gone,.I 0,.I 0,.I 0,.I q,.I n,.N c,.LL G,.I q,.I n,.N c,.LL G,.N s.length,.L s,.N n,.I 0,.L w]
   = κ 0 [.I Q,.I N,.I K,.N L.length,.L L,.I num,.N H.length,.L H,.I gone,.I 0,.I 0,.I 0,.I q,.I n,.N c,.LL G,.I q,.I n,.N c,.LL G,.N s.length,.L s,.N n,.I 0,.L w']
 | 0,j,w,h1,h2,hw=>by omega
 | f+1,j,w,h1,h2,hw=>by
  have hHl:=hH.1
  by_cases hj:j<H.length∧j<6
  ·have hh:=hH.2 j
   have a:=tmod_in (a:=H.getD j 0) (b:=(n:Int)) hh.1 (by omega)
   obtain ⟨i,hi,hin⟩:∃ i:Nat,Int.tmod (H.getD j 0) n=i∧i<n:=⟨(Int.tmod (H.getD j 0) n).toNat,by omega,by omega⟩
   have v:=change_in hq hq2 (a:=w.getD i 0) (hw.2 i hin) hh
   obtain ⟨w',hw',h⟩:=L17_6_spec hq hq2 hn hH Q N K L num gone c G s f (j+1) (w.set i (Int.tmod (wr .i64 (wr .i64 (w.getD i 0+1)+Int.tmod (wr .i64 (Int.tdiv (wr .i64 (H.getD j 0)) 16)) (wr .i64 ((q:Int)-1)))) q)) (by omega) (by omega) (Wd.set hw v.1 v.2)
   refine ⟨w',hw',fun {τ} κ=>?_⟩
   rw [runE_succ]
   show L17_6.s0 _ _ _=_
   unfold L17_6.s0
   have wl:=hw.1
   have e1:=wr64 (n:=H.getD j 0) (by omega) (by omega)
   have e2:=wr64 (n:=(q:Int)-1) (by omega) (by omega)
   simp only [g_,Int.toNat_natCast,Nat.mul_one,Nat.zero_add,List.drop_zero,List.take_length]
   rw [br_of (by simp;omega),br_of (by simp;omega),ck_of (by simp;omega),ck_of (by simp;omega),ck_of (by simp;omega)]
   rw [e1,hi,Int.toNat_natCast]
   rw [ck_of (by simp;omega),ck_of (by simp;omega),ck_of (by simp;omega),ck_of (by simp;omega),ck_of (by rw [e2];simp;omega),ck_of (by simp;omega),ck_of (by simp;omega),ck_of (by simp;omega),wsucc (j:=j) (by omega)]
   rw [e1] at h
   exact h κ
  ·refine ⟨w,hw,fun {τ} κ=>?_⟩
   rw [runE_succ]
   show L17_6.s0 _ _ _=_
   unfold L17_6.s0
   simp only [g_,Int.toNat_natCast,Nat.mul_one,Nat.zero_add,List.drop_zero,List.take_length]
   by_cases hj2:j<H.length
   ·rw [br_of (by simp;omega),br_no (by simp;omega)]
   ·rw [br_no (by simp;omega)]
def Up (i:Nat) (g:List Int):Prop:=g.length≤i∧∀ k,k<g.length→Gn i g k
theorem Up.add {i:Nat} {g:List Int} (h:Up i g):Up (i+1) (g++[((i:Nat):Int)]):=by
 refine ⟨by simp;exact h.1,fun k hk=>?_⟩
 simp only [List.length_append,List.length_cons,List.length_nil] at hk
 have get:∀ j,j<g.length→(g++[((i:Nat):Int)]).getD j 0=g.getD j 0:=fun j hj=>by
  rw [List.getD_eq_getElem?_getD,List.getElem?_append_left hj,←List.getD_eq_getElem?_getD]
 have last:(g++[((i:Nat):Int)]).getD g.length 0=i:=by
  rw [List.getD_eq_getElem?_getD,List.getElem?_append_right (Nat.le_refl _)]
  simp
 unfold Gn
 by_cases hk2:k<g.length
 ·have:=h.2 k hk2
  unfold Gn at this
  rw [get k hk2]
  refine ⟨this.1,by omega,fun h0=>?_⟩
  rw [get (k-1) (by omega)]
  exact this.2.2 h0
 ·have:k=g.length:=by omega
  subst this
  rw [last]
  refine ⟨by omega,by omega,fun h0=>?_⟩
  rw [get _ (by omega)]
  exact (h.2 (g.length-1) (by omega)).2.1
theorem Up.skip {i:Nat} {g:List Int} (h:Up i g):Up (i+1) g:=by
 refine ⟨by have:=h.1;omega,fun k hk=>?_⟩
 have:=h.2 k hk
 unfold Gn at this ⊢
 exact ⟨this.1,by omega,this.2.2⟩
theorem Up.gone {i:Nat} {g:List Int} (h:Up i g):isGone i g=true:=isGone_iff.2 fun k _ hk=>h.2 k hk
theorem wru {i:Nat} (h:i<2^20):wr .u64 (i:Int)=i:=by
 show (i:Int) % 18446744073709551616=i
 omega
theorem L17_11_spec1 {n:Nat} (hn:n<2^20) (Q N K:Int) (L:List Int) (num:Int) (H:List Int) (gone q:Int) (c:Nat) (G:List (List Int)) (s w:List Int):∀ (f i:Nat) (g:List Int),i≤n→n<f+i→Up i g →
  ∃ g',Up n g'∧∀ {τ:Type} (κ:Nat→LS_→Option τ),runE L17_11 f κ 1 [.I i,.I Q,.I N,.I K,.N L.length,.L L,.I num,.N H.length,.L H,.I gone,.I 0,.I 0,.I 0,.I q,.I n,.N c,.LL G,.I q,.I n,.N c,.LL G,.N s.length,.L s,.N n,.N g.length,.I 0,.L w,.L g]
   = κ 1 [.I 0,.I 0,.I 0,.I q,.I n,.N c,.LL G,.N s.length,.L s,.N n,.N g'.length,.I 0,.L w,.L g']
 | 0,i,g,h1,h2,h=>by omega
 | f+1,i,g,h1,h2,h=>by
  by_cases hj:i<n
  ·cases hb:((wr IntKind.u16 (((@BitVec.toNat 16 (@HAnd.hAnd (BitVec (IntKind.bits IntKind.u16)) (BitVec (IntKind.bits IntKind.u16)) (BitVec (IntKind.bits IntKind.u16)) (@instHAndOfAndOp (BitVec (IntKind.bits IntKind.u16)) (@BitVec.instAndOp (IntKind.bits IntKind.u16))) (BitVec.ofInt 16 (Int.fdiv gone (@HPow.hPow Int Nat Int (@instHPow Int Nat (@instPowNat Int Int.instNatPow)) (2:Int) (min (Int.toNat (wr IntKind.u64 (i:Int))) 16)))) (BitVec.ofInt (IntKind.bits IntKind.u16) (1:Int)))):Nat):Int))==(1:Int)) with
   | true =>
    obtain ⟨g',hg',ih⟩:=L17_11_spec1 hn Q N K L num H gone q c G s w f (i+1) (g++[((i:Nat):Int)]) (by omega) (by omega) h.add
    refine ⟨g',hg',fun {τ} κ=>?_⟩
    have hgl:=h.1
    have ih:=ih κ
    rw [List.length_append,List.length_singleton] at ih
    rw [runE_succ]
    show L17_11.s1 _ _ _=_
    unfold L17_11.s1
    simp only [g_,Int.toNat_natCast,Nat.mul_one,Nat.zero_add,List.drop_zero]
    rw [br_of (by simp;omega),ck_of (by rw [wru (by omega)];simp),hb,br_of rfl,ck_of (by simp;omega),wsucc (j:=i) (by omega)]
    exact ih
   | false =>
    obtain ⟨g',hg',ih⟩:=L17_11_spec1 hn Q N K L num H gone q c G s w f (i+1) g (by omega) (by omega) h.skip
    refine ⟨g',hg',fun {τ} κ=>?_⟩
    rw [runE_succ]
    show L17_11.s1 _ _ _=_
    unfold L17_11.s1
    simp only [g_,Int.toNat_natCast,Nat.mul_one,Nat.zero_add,List.drop_zero]
    rw [br_of (by simp;omega),ck_of (by rw [wru (by omega)];simp),hb,br_no rfl,wsucc (j:=i) (by omega)]
    exact ih κ
  ·have:i=n:=by omega
   subst this
   refine ⟨g,h,fun {τ} κ=>?_⟩
   rw [runE_succ]
   show L17_11.s1 _ _ _=_
   unfold L17_11.s1
   simp only [g_,Int.toNat_natCast,Nat.mul_one,Nat.zero_add,List.drop_zero]
   rw [br_no (by simp)]
theorem L17_11_spec0 {n:Nat} (hn:n<2^20) (Q N K:Int) (L:List Int) (num:Int) (H:List Int) (gone q:Int) (c:Nat) (G:List (List Int)) (s w:List Int):∀ (f i:Nat),i≤n→n<f+i →
  (∀ {τ:Type} (κ:Nat→LS_→Option τ),runE L17_11 f κ 0 [.I i,.I Q,.I N,.I K,.N L.length,.L L,.I num,.N H.length,.L H,.I gone,.I 0,.I 0,.I 0,.I q,.I n,.N c,.LL G,.I q,.I n,.N c,.LL G,.N s.length,.L s,.N n,.I 0,.L w]
   = κ 0 [.I 0,.I 0,.I 0,.I q,.I n,.N c,.LL G,.N s.length,.L s,.N n,.I 0,.L w])∨∃ g',Up n g'∧∀ {τ:Type} (κ:Nat→LS_→Option τ),runE L17_11 f κ 0 [.I i,.I Q,.I N,.I K,.N L.length,.L L,.I num,.N H.length,.L H,.I gone,.I 0,.I 0,.I 0,.I q,.I n,.N c,.LL G,.I q,.I n,.N c,.LL G,.N s.length,.L s,.N n,.I 0,.L w]
   = κ 1 [.I 0,.I 0,.I 0,.I q,.I n,.N c,.LL G,.N s.length,.L s,.N n,.N g'.length,.I 0,.L w,.L g']
 | 0,i,h1,h2=>by omega
 | f+1,i,h1,h2=>by
  by_cases hj:i<n
  ·cases hb:((wr IntKind.u16 (((@BitVec.toNat 16 (@HAnd.hAnd (BitVec (IntKind.bits IntKind.u16)) (BitVec (IntKind.bits IntKind.u16)) (BitVec (IntKind.bits IntKind.u16)) (@instHAndOfAndOp (BitVec (IntKind.bits IntKind.u16)) (@BitVec.instAndOp (IntKind.bits IntKind.u16))) (BitVec.ofInt 16 (Int.fdiv gone (@HPow.hPow Int Nat Int (@instHPow Int Nat (@instPowNat Int Int.instNatPow)) (2:Int) (min (Int.toNat (wr IntKind.u64 (i:Int))) 16)))) (BitVec.ofInt (IntKind.bits IntKind.u16) (1:Int)))):Nat):Int))==(1:Int)) with
   | true =>
    have u:Up (i+1) [((i:Nat):Int)]:=by
     have:Up i []:=⟨Nat.zero_le _,fun k hk=>by simp at hk⟩
     exact this.add
    obtain ⟨g',hg',ih⟩:=L17_11_spec1 hn Q N K L num H gone q c G s w f (i+1) [((i:Nat):Int)] (by omega) (by omega) u
    refine .inr ⟨g',hg',fun {τ} κ=>?_⟩
    have ih:=ih κ
    rw [runE_succ]
    show L17_11.s0 _ _ _=_
    unfold L17_11.s0
    simp only [g_,Int.toNat_natCast,Nat.mul_one,Nat.zero_add,List.drop_zero]
    rw [br_of (by simp;omega),ck_of (by rw [wru (by omega)];simp),hb,br_of rfl,wsucc (j:=i) (by omega)]
    exact ih
   | false =>
    have st:∀ {τ:Type} (κ:Nat→LS_→Option τ),runE L17_11 (f+1) κ 0 [.I i,.I Q,.I N,.I K,.N L.length,.L L,.I num,.N H.length,.L H,.I gone,.I 0,.I 0,.I 0,.I q,.I n,.N c,.LL G,.I q,.I n,.N c,.LL G,.N s.length,.L s,.N n,.I 0,.L w]=runE L17_11 f κ 0 [.I ((i+1:Nat):Int),.I Q,.I N,.I K,.N L.length,.L L,.I num,.N H.length,.L H,.I gone,.I 0,.I 0,.I 0,.I q,.I n,.N c,.LL G,.I q,.I n,.N c,.LL G,.N s.length,.L s,.N n,.I 0,.L w]:=fun {τ} κ=>by
     rw [runE_succ]
     show L17_11.s0 _ _ _=_
     unfold L17_11.s0
     simp only [g_,Int.toNat_natCast,Nat.mul_one,Nat.zero_add,List.drop_zero]
     rw [br_of (by simp;omega),ck_of (by rw [wru (by omega)];simp),hb,br_no rfl,wsucc (j:=i) (by omega)]
    rcases L17_11_spec0 hn Q N K L num H gone q c G s w f (i+1) (by omega) (by omega) with ih | ⟨g',hg',ih⟩
    ·exact .inl fun κ=>(st κ).trans (ih κ)
    ·exact .inr ⟨g',hg',fun κ=>(st κ).trans (ih κ)⟩
  ·have:i=n:=by omega
   subst this
   refine .inl fun {τ} κ=>?_
   rw [runE_succ]
   show L17_11.s0 _ _ _=_
   unfold L17_11.s0
   simp only [g_,Int.toNat_natCast,Nat.mul_one,Nat.zero_add,List.drop_zero]
   rw [br_no (by simp)]
def T17 {τ:Type} (l:LS_) (k:Nat→LS_→Option τ):Option τ:=wrapB F17.E (.v pCase) l k
def T17.E:Ent P:=F17.E.wrap (.v pCase)
theorem T17_0 {ls:LS_} {q n e:Int} {c:Nat} {G:List (List Int)} {a:Nat} {s w:List Int} (hc:c=G.length) (ha:a=s.length) {τ:Type} {k:Nat→LS_→Option τ} (h:∀ κ:Nat→LS_→Option τ,F17 ls κ=κ 0 [.I q,.I n,.N c,.LL G,.N a,.L s,.N w.length,.I e,.L w]) :
  T17 ls k=k 0 [.I q,.I n,.LL G,.L s,.L w,.L [],.I e]:=by
 have:=wrap_of (e:=F17.E) (p:=.v pCase) (ls:=ls) (j:=0) (l2:=[.I q,.I n,.N c,.LL G,.N a,.L s,.N w.length,.I e,.L w]) (c:=true&&(true&&(true&&(true&&(true&&(decide (c=G.length)&&(decide (a=s.length)&&(decide (w.length=(List.take (w.length*1) (List.drop 0 w)).length)&&(true&&(true&&true)))))))))) (ls':=[.I q,.I n,.LL G,.L s,.L (List.take (w.length*1) (List.drop 0 w)),.L [],.I e]) (by intro τ κ;kernel_rfl)
  (by simp [hc,ha]) (k:=k) h
 rw [Nat.mul_one,List.drop_zero,List.take_length] at this
 exact this
theorem T17_1 {ls:LS_} {q n e:Int} {c:Nat} {G:List (List Int)} {a:Nat} {s w g:List Int} (hc:c=G.length) (ha:a=s.length) {τ:Type} {k:Nat→LS_→Option τ} (h:∀ κ:Nat→LS_→Option τ,F17 ls κ=κ 1 [.I q,.I n,.N c,.LL G,.N a,.L s,.N w.length,.N g.length,.I e,.L w,.L g]) :
  T17 ls k=k 0 [.I q,.I n,.LL G,.L s,.L w,.L g,.I e]:=by
 have:=wrap_of (e:=F17.E) (p:=.v pCase) (ls:=ls) (j:=1) (l2:=[.I q,.I n,.N c,.LL G,.N a,.L s,.N w.length,.N g.length,.I e,.L w,.L g]) (c:=true&&(true&&(true&&(true&&(true&&(decide (c=G.length)&&(decide (a=s.length)&&(decide (w.length=(List.take (w.length*1) (List.drop 0 w)).length)&&(decide (g.length=(List.take (g.length*1) (List.drop 0 g)).length)&&(true&&true)))))))))) (ls':=[.I q,.I n,.LL G,.L s,.L (List.take (w.length*1) (List.drop 0 w)),.L (List.take (g.length*1) (List.drop 0 g)),.I e]) (by intro τ κ;kernel_rfl)
  (by simp [hc,ha]) (k:=k) h
 rw [Nat.mul_one,Nat.mul_one,List.drop_zero,List.drop_zero,List.take_length,List.take_length] at this
 exact this
theorem words_len {q n:Nat} (hq:q∈Qs) (G:List (List Int)) (z:List Int):(words q (fadd q) (fmul q) G z).length=q^G.length:=by
 rw [←words_digs q (by have:=qs_lt hq;omega) (fadd q) (fmul q) G z,List.length_map,List.length_range]
theorem Up.nil {n:Nat}:Up n []:=⟨Nat.zero_le _,fun k hk=>by simp at hk⟩
theorem T17_spec {Q N K:Int} {L:List Int} {num:Int} {H:List Int} (gone:Int) (hQ:0≤Q∧Q<256) (hN:0≤N∧N<256) (hK:0≤K∧K<256) (hL:Bytes L) (hu:0≤num∧num<65536) (hH:Bytes H) :
    ∃ (q n:Nat) (G:List (List Int)) (s w g:List Int),Cd q n G∧s∈words q (fadd q) (fmul q) G (List.replicate n 0)∧Wd q n w∧Up n g∧∀ {τ:Type} (k:Nat→LS_→Option τ),T17 [.I Q,.I N,.I K,.L L,.I num,.L H,.I gone] k=k 0 [.I q,.I n,.LL G,.L s,.L w,.L g,.I ((far (lostI g) w s 0 n:Nat):Int)]:=by
  have hfu:=fuel_le
  obtain ⟨q,n,G,hc,hT⟩:=T35_spec hQ hN hK hL
  have F:=fld q hc.fq
  have hq:=qs_lt hc.fq
  have n1:=hc.n1
  have n0:=hc.n0
  have hcnt:=hc.count
  have hz:=Wd.zeros (q:=q) (n:=n) (by omega)
  have hlen:=words_len (n:=n) hc.fq G (List.replicate n 0)
  have hpos:0<q^G.length:=Nat.pow_pos (by omega)
  have hwd:=words_wd F G _ hc.rows.wd hz
  generalize hC:q^G.length=C at hcnt hlen hpos
  have ix:=tmod_in (a:=num) (b:=(C:Int)) hu.1 (by omega)
  obtain ⟨i,hi,hin⟩:∃ i:Nat,Int.tmod num (C:Int)=i∧i<C:=⟨(Int.tmod num (C:Int)).toNat,by omega,by omega⟩
  have e0:=wr64 (n:=num) (by omega) (by omega)
  generalize hW:words q (fadd q) (fmul q) G (List.replicate n 0)=W at hlen hwd
  have hs:W.getD i []∈W:=by
    rw [List.getD_eq_getElem?_getD,List.getElem?_eq_getElem (by omega)]
    exact List.getElem_mem _
  have hsw:=hwd _ hs
  generalize hS:W.getD i []=s at hs hsw
  have hsl:=hsw.1
  obtain ⟨w,hw,hL6⟩:=L17_6_spec hq.1 (by omega) (n:=n) (by omega) hH Q N K L num gone G.length G s fuel 0 s (by omega) (by omega) hsw
  have hwl:=hw.1
  have main:(∀ {τ:Type} (k:Nat→LS_→Option τ),F17 [.I Q,.I N,.I K,.L L,.I num,.L H,.I gone] k=k 0 [.I q,.I n,.N G.length,.LL G,.N s.length,.L s,.N w.length,.I ((far (lostI []) w s 0 n:Nat):Int),.L w])∨∃ g,Up n g∧∀ {τ:Type} (k:Nat→LS_→Option τ),F17 [.I Q,.I N,.I K,.L L,.I num,.L H,.I gone] k=k 1 [.I q,.I n,.N G.length,.LL G,.N s.length,.L s,.N w.length,.N g.length,.I ((far (lostI g) w s 0 n:Nat):Int),.L w,.L g]:=by
    have st:∀ {τ:Type} (k:Nat→LS_→Option τ),F17 [.I Q,.I N,.I K,.L L,.I num,.L H,.I gone] k=(L17_11.b 0 [.I (0:Int),.I Q,.I N,.I K,.N L.length,.L L,.I num,.N H.length,.L H,.I gone,.I 0,.I 0,.I 0,.I q,.I n,.N G.length,.LL G,.I q,.I n,.N G.length,.LL G,.N s.length,.L s,.N n,.I 0,.L w]
 (fun j l3=>(sw (ck (((eqM (gN l3 9) (List.length (List.take ((gN l3 9)*1) (List.drop 0 (gL l3 11)))))&&true)&&((eqM (gN l3 7) (List.length (gL l3 8)))&&true))
 (T26 [.L (List.take ((gN l3 9)*1) (List.drop 0 (gL l3 11))),.L [],.L (gL l3 8)]
 (fun j l4=>(sw (k 0 [.I (gI l3 3),.I (gI l3 4),.N (gN l3 5),.LL (gLL l3 6),.N (gN l3 7),.L (gL l3 8),.N (gN l3 9),.I (gI l4 0),.L (gL l3 11)])
 (fun _=>none)) j)))
 (sw (ck (((eqM (gN l3 9) (List.length (List.take ((gN l3 9)*1) (List.drop 0 (gL l3 12)))))&&((eqM (gN l3 10) (List.length (List.take ((gN l3 10)*1) (List.drop 0 (gL l3 13)))))&&true))&&((eqM (gN l3 7) (List.length (gL l3 8)))&&true))
 (T26 [.L (List.take ((gN l3 9)*1) (List.drop 0 (gL l3 12))),.L (List.take ((gN l3 10)*1) (List.drop 0 (gL l3 13))),.L (gL l3 8)]
 (fun j l5=>(sw (k 1 [.I (gI l3 3),.I (gI l3 4),.N (gN l3 5),.LL (gLL l3 6),.N (gN l3 7),.L (gL l3 8),.N (gN l3 9),.N (gN l3 10),.I (gI l5 0),.L (gL l3 12),.L (gL l3 13)])
 (fun _=>none)) j)))
 (fun _=>none))) j)):=by
      intro τ k
      unfold F17
      simp only [g_]
      rw [ck_of (by simp),hT]
      simp only [g_,sw_zero]
      rw [ck_of (by simp),T25_spec hc.fq hc.rows (by have:=hc.count;omega),hW]
      simp only [g_,sw_zero]
      rw [hlen,e0,hi,ck_of (by simp;omega),Int.toNat_natCast,Nat.mul_one,hS,hsl,Nat.mul_one,Nat.zero_add,List.nil_append]
      rw [ck_of (by simp;omega),ck_of (by simp;omega),ck_of (by simp;omega)]
      unfold L17_6.b
      have h6:=hL6 (fun j l2=>(sw (L17_11.b 0 [.I (0:Int),.I (gI l2 0),.I (gI l2 1),.I (gI l2 2),.N (gN l2 3),.L (gL l2 4),.I (gI l2 5),.N (gN l2 6),.L (gL l2 7),.I (gI l2 8),.I (gI l2 9),.I (gI l2 10),.I (gI l2 11),.I (gI l2 12),.I (gI l2 13),.N (gN l2 14),.LL (gLL l2 15),.I (gI l2 16),.I (gI l2 17),.N (gN l2 18),.LL (gLL l2 19),.N (gN l2 20),.L (gL l2 21),.N (gN l2 22),.I (gI l2 23),.L (gL l2 24)]
 (fun j l3=>(sw (ck (((eqM (gN l3 9) (List.length (List.take ((gN l3 9)*1) (List.drop 0 (gL l3 11)))))&&true)&&((eqM (gN l3 7) (List.length (gL l3 8)))&&true))
 (T26 [.L (List.take ((gN l3 9)*1) (List.drop 0 (gL l3 11))),.L [],.L (gL l3 8)]
 (fun j l4=>(sw (k 0 [.I (gI l3 3),.I (gI l3 4),.N (gN l3 5),.LL (gLL l3 6),.N (gN l3 7),.L (gL l3 8),.N (gN l3 9),.I (gI l4 0),.L (gL l3 11)])
 (fun _=>none)) j)))
 (sw (ck (((eqM (gN l3 9) (List.length (List.take ((gN l3 9)*1) (List.drop 0 (gL l3 12)))))&&((eqM (gN l3 10) (List.length (List.take ((gN l3 10)*1) (List.drop 0 (gL l3 13)))))&&true))&&((eqM (gN l3 7) (List.length (gL l3 8)))&&true))
 (T26 [.L (List.take ((gN l3 9)*1) (List.drop 0 (gL l3 12))),.L (List.take ((gN l3 10)*1) (List.drop 0 (gL l3 13))),.L (gL l3 8)]
 (fun j l5=>(sw (k 1 [.I (gI l3 3),.I (gI l3 4),.N (gN l3 5),.LL (gLL l3 6),.N (gN l3 7),.L (gL l3 8),.N (gN l3 9),.N (gN l3 10),.I (gI l5 0),.L (gL l3 12),.L (gL l3 13)])
 (fun _=>none)) j)))
 (fun _=>none))) j))
 (fun _=>none)) j)
      rw [hsl] at h6
      exact h6
    rcases L17_11_spec0 (n:=n) (by omega) Q N K L num H gone q G.length G s w fuel 0 (by omega) (by omega) with h | ⟨g,hg,h⟩
    · refine .inl fun {τ} k=>(st k).trans ?_
      unfold L17_11.b
      refine (h _).trans ?_
      simp only [g_,sw_zero,Nat.mul_one,List.drop_zero]
      rw [←hwl,List.take_length,ck_of (by simp)]
      unfold T26
      rw [F26_spec (by omega) (by omega) (by simp),hsl,hwl]
      rfl
    · refine .inr ⟨g,hg,fun {τ} k=>(st k).trans ?_⟩
      unfold L17_11.b
      refine (h _).trans ?_
      have hgl:=hg.1
      simp only [g_,sw_succ,sw_zero,Nat.mul_one,List.drop_zero]
      rw [←hwl,List.take_length,List.take_length,ck_of (by simp)]
      unfold T26
      rw [F26_spec (by omega) (by omega) (by omega),hsl,hwl]
      rfl
  subst hW
  rcases main with h | ⟨g,hg,h⟩
  · exact ⟨q,n,G,s,w,[],hc,hs,hw,Up.nil,fun k=>T17_0 rfl rfl fun κ=>h κ⟩
  · exact ⟨q,n,G,s,w,g,hc,hs,hw,hg,fun k=>T17_1 rfl rfl fun κ=>h κ⟩
def foundD (q:Nat) (lost:Nat→Bool) (w:List Int) (G:List (List Int)) (En:List Nat) (i:Nat) (x:List Int) (t:Nat) (s:Best):Best:=dfsD q (fadd q) (fmul q) lost w (G.drop i) (En.drop i) x t s
def restD (q:Nat) (lost:Nat→Bool) (w:List Int) (G:List (List Int)) (En:List Nat) (i:Nat) (x:List Int) (t:Nat) (a:Nat) (s:Best):Best :=
 ((List.range q).drop a).foldl (fun s (a:Nat)=>foundD q lost w G En (i+1) (vadd (fadd q) x (vmul (fmul q) (a:Int) (G.getD i []))) (t+far lost w (vadd (fadd q) x (vmul (fmul q) (a:Int) (G.getD i []))) (En.getD i 0) (En.getD (i+1) 0-En.getD i 0)) s) s
section
variable {q:Nat} {lost:Nat→Bool} {w:List Int} {G:List (List Int)} {En:List Nat} {i:Nat} {x:List Int} {t:Nat}
theorem restD_end {s:Best}:restD q lost w G En i x t q s=s:=by
 unfold restD
 rw [List.drop_eq_nil_of_le (by simp)];rfl
theorem restD_succ {a:Nat} {s:Best} (ha:a<q):restD q lost w G En i x t a s =
  restD q lost w G En i x t (a+1) (foundD q lost w G En (i+1) (vadd (fadd q) x (vmul (fmul q) (a:Int) (G.getD i []))) (t+far lost w (vadd (fadd q) x (vmul (fmul q) (a:Int) (G.getD i []))) (En.getD i 0) (En.getD (i+1) 0-En.getD i 0)) s):=by
 unfold restD
 rw [drop_cons (l:=List.range q) (j:=a) 0 (by simpa using ha),List.foldl_cons]
 have:(List.range q).getD a 0=a:=by simp [List.getD_eq_getElem?_getD,ha]
 rw [this]
theorem foundD_row {s:Best} (hi:i<G.length) (he:i+1<En.length):foundD q lost w G En i x t s=if (t:Int)>s.2 then s else restD q lost w G En i x t 0 s:=by
 unfold foundD restD
 rw [drop_cons (l:=G) (j:=i) [] hi,drop_cons (l:=En) (j:=i) 0 (by omega)]
 unfold dfsD foundD
 split
 ·rfl
 ·rw [List.drop_zero]
  have h0:(En.getD i 0::En.drop (i+1)).getD 0 0=En.getD i 0:=rfl
  have h1:(En.getD i 0::En.drop (i+1)).getD 1 0=En.getD (i+1) 0:=by simp [List.getD_eq_getElem?_getD]
  rw [h0,h1]
  rfl
theorem foundD_end {s:Best} (hi:i=G.length):foundD q lost w G En i x t s=if (t:Int)>s.2 then s else meet s (x,t):=by
 unfold foundD
 rw [List.drop_eq_nil_of_le (by omega)]
 rfl
theorem foundD_len:∀ (d i:Nat) (x:List Int) (t:Nat) (s:Best),i+d=G.length→En.length=G.length+1→(foundD q lost w G En i x t s).1.length≤s.1.length+q^d
 | 0,i,x,t,s,hi,he=>by
  rw [foundD_end (by omega)]
  split
  ·simp
  ·unfold meet
   split
   ·simp
   ·split <;> simp
 | d+1,i,x,t,s,hi,he=>by
  rw [foundD_row (by omega) (by omega)]
  split
  ·simp
  ·unfold restD
   have:∀ (l:List Nat) (s:Best),(l.foldl (fun s (a:Nat)=>foundD q lost w G En (i+1) (vadd (fadd q) x (vmul (fmul q) (a:Int) (G.getD i []))) (t+far lost w (vadd (fadd q) x (vmul (fmul q) (a:Int) (G.getD i []))) (En.getD i 0) (En.getD (i+1) 0-En.getD i 0)) s) s).1.length≤s.1.length+l.length*q^d:=by
    intro l
    induction l with
    | nil=>simp
    | cons b l ih =>
     intro s
     rw [List.foldl_cons,List.length_cons,Nat.add_mul,Nat.one_mul]
     refine Nat.le_trans (ih _) ?_
     have:=foundD_len d (i+1) (vadd (fadd q) x (vmul (fmul q) (b:Int) (G.getD i []))) (t+far lost w (vadd (fadd q) x (vmul (fmul q) (b:Int) (G.getD i []))) (En.getD i 0) (En.getD (i+1) 0-En.getD i 0)) s (by omega) he
     omega
   have:=this ((List.range q).drop 0) s
   rw [List.length_drop,List.length_range,Nat.sub_zero] at this
   rw [Nat.pow_succ,Nat.mul_comm (q^d)]
   exact this
end
theorem L102_4_3_spec1 {q n:Nat} {G:List (List Int)} {w:List Int} {lb:List Bool} {En:List Nat} (C:Sr q n G w lb En) {i d:Nat} (hid:i+(d+1)=G.length) (R:SDyn P S102_3.H)
  (hR:∀ (x:List Int) (t:Nat) (s:Best),Wd q n x→t+d*n≤2^30→s.1.length+q^d≤2^30→(∃ j,(j=0∨j=2∨j=4)∧∀ {τ:Type} (k:Nat→LS_→Option τ),R.b [.I ((i+1:Nat):Int),.I ((t:Nat):Int),.N n,.L x,.I (s).2,.I q,.I n,.N G.length,.LL G,.I (fp q),.I (fe q),.N (fm q).length,.N n,.L w,.N n,.N (Er En).length,.I (s).2,.N (s).1.length,.L (fm q),.LB lb,.L (Er En),.LL (s).1] k=k j [.L x,.I (foundD q (lostB lb) w G En (i+1) x t s).2,.I q,.I n,.N G.length,.LL G,.I (fp q),.I (fe q),.N (fm q).length,.N n,.L w,.N n,.N (Er En).length,.I (foundD q (lostB lb) w G En (i+1) x t s).2,.N (foundD q (lostB lb) w G En (i+1) x t s).1.length,.L (fm q),.LB lb,.L (Er En),.LL (foundD q (lostB lb) w G En (i+1) x t s).1])∨∃ j old,(j=1∨j=3)∧∀ {τ:Type} (k:Nat→LS_→Option τ),R.b [.I ((i+1:Nat):Int),.I ((t:Nat):Int),.N n,.L x,.I (s).2,.I q,.I n,.N G.length,.LL G,.I (fp q),.I (fe q),.N (fm q).length,.N n,.L w,.N n,.N (Er En).length,.I (s).2,.N (s).1.length,.L (fm q),.LB lb,.L (Er En),.LL (s).1] k=k j [.L x,.I (foundD q (lostB lb) w G En (i+1) x t s).2,.I q,.I n,.N G.length,.LL G,.I (fp q),.I (fe q),.N (fm q).length,.N n,.L w,.N n,.N (Er En).length,.I (foundD q (lostB lb) w G En (i+1) x t s).2,.N (foundD q (lostB lb) w G En (i+1) x t s).1.length,.L (fm q),.LB lb,.L (Er En),.LL old,.LL (foundD q (lostB lb) w G En (i+1) x t s).1]) {x:List Int} (hx:Wd q n x) {t:Nat} (ht:t+(d+1)*n≤2^30) (old:List (List Int)):∀ (f a:Nat) (s:Best),a≤q→q<f+a→s.1.length+(q-a)*q^d≤2^30 →
  ∀ {τ:Type} (κ:Nat→LS_→Option τ),runE (L102_4_3 R) f κ 1 [.I i,.I t,.N n,.I q,.I ((a:Nat):Int),.L x,.I (s).2,.I q,.I n,.N G.length,.LL G,.I (fp q),.I (fe q),.N (fm q).length,.N n,.L w,.N n,.N (Er En).length,.I (s).2,.N (s).1.length,.L (fm q),.LB lb,.L (Er En),.LL old,.LL (s).1]=κ 1 [.L x,.I (restD q (lostB lb) w G En i x t a s).2,.I q,.I n,.N G.length,.LL G,.I (fp q),.I (fe q),.N (fm q).length,.N n,.L w,.N n,.N (Er En).length,.I (restD q (lostB lb) w G En i x t a s).2,.N (restD q (lostB lb) w G En i x t a s).1.length,.L (fm q),.LB lb,.L (Er En),.LL old,.LL (restD q (lostB lb) w G En i x t a s).1]
 | 0,a,s,h1,h2,h4=>by omega
 | f+1,a,s,h1,h2,h4=>by
  intro κ
  have hfu:=fuel_le
  have hi:i<G.length:=by omega
  by_cases ha:a<q
  ·have F:=fld q C.hq
   have hqq:=qs_lt C.hq
   have hf:=C.gr.few
   have n0:=C.n0
   have n1:=C.n1
   have wg:=C.gr.wd i hi
   have el:=C.el
   have e1:=C.em i hi
   have e2:=C.en (i+1) (by omega)
   have hxl:=hx.1
   have a0:(0:Int)≤(a:Int):=by omega
   have a1:((a:Nat):Int)<q:=by omega
   have wv:=Wd.vmul F a0 a1 wg
   have wy:=hx.vadd F wv
   have fl:=far_le (lostB lb) w (vadd (fadd q) x (vmul (fmul q) (a:Int) (G.getD i []))) (En.getD i 0) (En.getD (i+1) 0-En.getD i 0)
   have hmul:(d+1)*n=d*n+n:=by rw [Nat.add_mul,Nat.one_mul]
   have e3:wr .i64 ((t:Int)+((far (lostB lb) w (vadd (fadd q) x (vmul (fmul q) (a:Int) (G.getD i []))) (En.getD i 0) (En.getD (i+1) 0-En.getD i 0):Nat):Int))=((t+far (lostB lb) w (vadd (fadd q) x (vmul (fmul q) (a:Int) (G.getD i []))) (En.getD i 0) (En.getD (i+1) 0-En.getD i 0):Nat):Int):=by rw [wr64 (by omega) (by omega)];simp
   have hsub:(q-a)*q^d=q^d+(q-(a+1))*q^d:=by rw [show q-a=(q-(a+1))+1 by omega,Nat.add_mul,Nat.one_mul,Nat.add_comm]
   have fln:=foundD_len (q:=q) (lost:=lostB lb) (w:=w) (G:=G) (En:=En) d (i+1) (vadd (fadd q) x (vmul (fmul q) (a:Int) (G.getD i []))) (t+far (lostB lb) w (vadd (fadd q) x (vmul (fmul q) (a:Int) (G.getD i []))) (En.getD i 0) (En.getD (i+1) 0-En.getD i 0)) s (by omega) el
   have ih:=L102_4_3_spec1 C hid R hR hx ht old f (a+1) (foundD q (lostB lb) w G En (i+1) (vadd (fadd q) x (vmul (fmul q) (a:Int) (G.getD i []))) (t+far (lostB lb) w (vadd (fadd q) x (vmul (fmul q) (a:Int) (G.getD i []))) (En.getD i 0) (En.getD (i+1) 0-En.getD i 0)) s) (by omega) (by omega) (by omega) κ
   rw [restD_succ ha]
   rw [runE_succ]
   show L102_4_3.s1 R _ _ _=_
   unfold L102_4_3.s1
   simp only [g_,Int.toNat_natCast,Nat.mul_one,Nat.zero_add,List.drop_zero,List.take_length]
   rw [br_of (by simp;omega),show List.take n x=x by rw [←hxl,List.take_length],ck_of (by simp;omega),F71_spec (by omega) (by omega)]
   simp only [g_,sw_zero]
   rw [ck_of (by simp;omega),ck_of (by simp;omega)]
   unfold L102_8_5.b
   rw [L102_8_5_row C.hq (In.of wg) (In.of hx) (by rw [wg.1,hxl]) (by rw [wg.1];omega) a0 a1]
   simp only [g_,sw_zero,Int.toNat_natCast,Nat.mul_one,Nat.zero_add]
   rw [show wr .i64 ((i:Int)+1)=((i+1:Nat):Int) from wsucc (by omega)]
   simp only [Int.toNat_natCast]
   rw [ck_of (by simp [Er_len];omega),ck_of (by simp [Er_len];omega),ck_of (by simp [Er_len];omega),ck_of (by simp [Er_len];omega),Er_get,Er_get,hxl,S70_0_spec wy.1 C.wl C.bl (by omega) e1 e2]
   simp only [g_,sw_zero]
   rw [ck_of (by simp),e3]
   rcases hR (vadd (fadd q) x (vmul (fmul q) (a:Int) (G.getD i []))) (t+far (lostB lb) w (vadd (fadd q) x (vmul (fmul q) (a:Int) (G.getD i []))) (En.getD i 0) (En.getD (i+1) 0-En.getD i 0)) s wy (by omega) (by omega) with ⟨j,hj,hRj⟩ | ⟨j,o,hj,hRj⟩
   ·rw [hRj]
    rcases hj with rfl | rfl | rfl
    all_goals
     simp only [g_,sw_zero,sw_one,sw_two,sw_succ]
     rw [show wr .i64 ((a:Int)+1)=((a+1:Nat):Int) from wsucc (by omega)]
     exact ih
   ·rw [hRj]
    rcases hj with rfl | rfl
    all_goals
     simp only [g_,sw_zero,sw_one,sw_two,sw_succ]
     rw [show wr .i64 ((a:Int)+1)=((a+1:Nat):Int) from wsucc (by omega)]
     exact ih
  ·have:a=q:=by omega
   subst this
   rw [restD_end,runE_succ]
   show L102_4_3.s1 R _ _ _=_
   unfold L102_4_3.s1
   simp only [g_,Int.toNat_natCast,Nat.mul_one,Nat.zero_add,List.drop_zero,List.take_length]
   rw [br_no (by simp)]
theorem L102_4_3_spec2 {q n:Nat} {G:List (List Int)} {w:List Int} {lb:List Bool} {En:List Nat} (C:Sr q n G w lb En) {i d:Nat} (hid:i+(d+1)=G.length) (R:SDyn P S102_3.H)
  (hR:∀ (x:List Int) (t:Nat) (s:Best),Wd q n x→t+d*n≤2^30→s.1.length+q^d≤2^30→(∃ j,(j=0∨j=2∨j=4)∧∀ {τ:Type} (k:Nat→LS_→Option τ),R.b [.I ((i+1:Nat):Int),.I ((t:Nat):Int),.N n,.L x,.I (s).2,.I q,.I n,.N G.length,.LL G,.I (fp q),.I (fe q),.N (fm q).length,.N n,.L w,.N n,.N (Er En).length,.I (s).2,.N (s).1.length,.L (fm q),.LB lb,.L (Er En),.LL (s).1] k=k j [.L x,.I (foundD q (lostB lb) w G En (i+1) x t s).2,.I q,.I n,.N G.length,.LL G,.I (fp q),.I (fe q),.N (fm q).length,.N n,.L w,.N n,.N (Er En).length,.I (foundD q (lostB lb) w G En (i+1) x t s).2,.N (foundD q (lostB lb) w G En (i+1) x t s).1.length,.L (fm q),.LB lb,.L (Er En),.LL (foundD q (lostB lb) w G En (i+1) x t s).1])∨∃ j old,(j=1∨j=3)∧∀ {τ:Type} (k:Nat→LS_→Option τ),R.b [.I ((i+1:Nat):Int),.I ((t:Nat):Int),.N n,.L x,.I (s).2,.I q,.I n,.N G.length,.LL G,.I (fp q),.I (fe q),.N (fm q).length,.N n,.L w,.N n,.N (Er En).length,.I (s).2,.N (s).1.length,.L (fm q),.LB lb,.L (Er En),.LL (s).1] k=k j [.L x,.I (foundD q (lostB lb) w G En (i+1) x t s).2,.I q,.I n,.N G.length,.LL G,.I (fp q),.I (fe q),.N (fm q).length,.N n,.L w,.N n,.N (Er En).length,.I (foundD q (lostB lb) w G En (i+1) x t s).2,.N (foundD q (lostB lb) w G En (i+1) x t s).1.length,.L (fm q),.LB lb,.L (Er En),.LL old,.LL (foundD q (lostB lb) w G En (i+1) x t s).1]) {x:List Int} (hx:Wd q n x) {t:Nat} (ht:t+(d+1)*n≤2^30):∀ (f a:Nat) (s:Best),a≤q→q<f+a→s.1.length+(q-a)*q^d≤2^30 →
  ∀ {τ:Type} (κ:Nat→LS_→Option τ),runE (L102_4_3 R) f κ 2 [.I i,.I t,.N n,.I q,.I ((a:Nat):Int),.L x,.I (s).2,.I q,.I n,.N G.length,.LL G,.I (fp q),.I (fe q),.N (fm q).length,.N n,.L w,.N n,.N (Er En).length,.I (s).2,.N (s).1.length,.L (fm q),.LB lb,.L (Er En),.LL (s).1]=κ 2 [.L x,.I (restD q (lostB lb) w G En i x t a s).2,.I q,.I n,.N G.length,.LL G,.I (fp q),.I (fe q),.N (fm q).length,.N n,.L w,.N n,.N (Er En).length,.I (restD q (lostB lb) w G En i x t a s).2,.N (restD q (lostB lb) w G En i x t a s).1.length,.L (fm q),.LB lb,.L (Er En),.LL (restD q (lostB lb) w G En i x t a s).1]
 | 0,a,s,h1,h2,h4=>by omega
 | f+1,a,s,h1,h2,h4=>by
  intro κ
  have hfu:=fuel_le
  have hi:i<G.length:=by omega
  by_cases ha:a<q
  ·have F:=fld q C.hq
   have hqq:=qs_lt C.hq
   have hf:=C.gr.few
   have n0:=C.n0
   have n1:=C.n1
   have wg:=C.gr.wd i hi
   have el:=C.el
   have e1:=C.em i hi
   have e2:=C.en (i+1) (by omega)
   have hxl:=hx.1
   have a0:(0:Int)≤(a:Int):=by omega
   have a1:((a:Nat):Int)<q:=by omega
   have wv:=Wd.vmul F a0 a1 wg
   have wy:=hx.vadd F wv
   have fl:=far_le (lostB lb) w (vadd (fadd q) x (vmul (fmul q) (a:Int) (G.getD i []))) (En.getD i 0) (En.getD (i+1) 0-En.getD i 0)
   have hmul:(d+1)*n=d*n+n:=by rw [Nat.add_mul,Nat.one_mul]
   have e3:wr .i64 ((t:Int)+((far (lostB lb) w (vadd (fadd q) x (vmul (fmul q) (a:Int) (G.getD i []))) (En.getD i 0) (En.getD (i+1) 0-En.getD i 0):Nat):Int))=((t+far (lostB lb) w (vadd (fadd q) x (vmul (fmul q) (a:Int) (G.getD i []))) (En.getD i 0) (En.getD (i+1) 0-En.getD i 0):Nat):Int):=by rw [wr64 (by omega) (by omega)];simp
   have hsub:(q-a)*q^d=q^d+(q-(a+1))*q^d:=by rw [show q-a=(q-(a+1))+1 by omega,Nat.add_mul,Nat.one_mul,Nat.add_comm]
   have fln:=foundD_len (q:=q) (lost:=lostB lb) (w:=w) (G:=G) (En:=En) d (i+1) (vadd (fadd q) x (vmul (fmul q) (a:Int) (G.getD i []))) (t+far (lostB lb) w (vadd (fadd q) x (vmul (fmul q) (a:Int) (G.getD i []))) (En.getD i 0) (En.getD (i+1) 0-En.getD i 0)) s (by omega) el
   have ih:=L102_4_3_spec2 C hid R hR hx ht f (a+1) (foundD q (lostB lb) w G En (i+1) (vadd (fadd q) x (vmul (fmul q) (a:Int) (G.getD i []))) (t+far (lostB lb) w (vadd (fadd q) x (vmul (fmul q) (a:Int) (G.getD i []))) (En.getD i 0) (En.getD (i+1) 0-En.getD i 0)) s) (by omega) (by omega) (by omega) κ
   rw [restD_succ ha]
   rw [runE_succ]
   show L102_4_3.s2 R _ _ _=_
   unfold L102_4_3.s2
   simp only [g_,Int.toNat_natCast,Nat.mul_one,Nat.zero_add,List.drop_zero,List.take_length]
   rw [br_of (by simp;omega),show List.take n x=x by rw [←hxl,List.take_length],ck_of (by simp;omega),F71_spec (by omega) (by omega)]
   simp only [g_,sw_zero]
   rw [ck_of (by simp;omega),ck_of (by simp;omega)]
   unfold L102_8_6.b
   rw [L102_8_6_row C.hq (In.of wg) (In.of hx) (by rw [wg.1,hxl]) (by rw [wg.1];omega) a0 a1]
   simp only [g_,sw_zero,Int.toNat_natCast,Nat.mul_one,Nat.zero_add]
   rw [show wr .i64 ((i:Int)+1)=((i+1:Nat):Int) from wsucc (by omega)]
   simp only [Int.toNat_natCast]
   rw [ck_of (by simp [Er_len];omega),ck_of (by simp [Er_len];omega),ck_of (by simp [Er_len];omega),ck_of (by simp [Er_len];omega),Er_get,Er_get,hxl,S70_0_spec wy.1 C.wl C.bl (by omega) e1 e2]
   simp only [g_,sw_zero]
   rw [ck_of (by simp),e3]
   rcases hR (vadd (fadd q) x (vmul (fmul q) (a:Int) (G.getD i []))) (t+far (lostB lb) w (vadd (fadd q) x (vmul (fmul q) (a:Int) (G.getD i []))) (En.getD i 0) (En.getD (i+1) 0-En.getD i 0)) s wy (by omega) (by omega) with ⟨j,hj,hRj⟩ | ⟨j,o,hj,hRj⟩
   ·rw [hRj]
    rcases hj with rfl | rfl | rfl
    all_goals
     simp only [g_,sw_zero,sw_one,sw_two,sw_succ]
     rw [show wr .i64 ((a:Int)+1)=((a+1:Nat):Int) from wsucc (by omega)]
     exact ih
   ·rw [hRj]
    rcases hj with rfl | rfl
    all_goals
     simp only [g_,sw_zero,sw_one,sw_two,sw_succ]
     rw [show wr .i64 ((a:Int)+1)=((a+1:Nat):Int) from wsucc (by omega)]
     exact ih
  ·have:a=q:=by omega
   subst this
   rw [restD_end,runE_succ]
   show L102_4_3.s2 R _ _ _=_
   unfold L102_4_3.s2
   simp only [g_,Int.toNat_natCast,Nat.mul_one,Nat.zero_add,List.drop_zero,List.take_length]
   rw [br_no (by simp)]
theorem L102_4_3_spec0 {q n:Nat} {G:List (List Int)} {w:List Int} {lb:List Bool} {En:List Nat} (C:Sr q n G w lb En) {i d:Nat} (hid:i+(d+1)=G.length) (R:SDyn P S102_3.H)
  (hR:∀ (x:List Int) (t:Nat) (s:Best),Wd q n x→t+d*n≤2^30→s.1.length+q^d≤2^30→(∃ j,(j=0∨j=2∨j=4)∧∀ {τ:Type} (k:Nat→LS_→Option τ),R.b [.I ((i+1:Nat):Int),.I ((t:Nat):Int),.N n,.L x,.I (s).2,.I q,.I n,.N G.length,.LL G,.I (fp q),.I (fe q),.N (fm q).length,.N n,.L w,.N n,.N (Er En).length,.I (s).2,.N (s).1.length,.L (fm q),.LB lb,.L (Er En),.LL (s).1] k=k j [.L x,.I (foundD q (lostB lb) w G En (i+1) x t s).2,.I q,.I n,.N G.length,.LL G,.I (fp q),.I (fe q),.N (fm q).length,.N n,.L w,.N n,.N (Er En).length,.I (foundD q (lostB lb) w G En (i+1) x t s).2,.N (foundD q (lostB lb) w G En (i+1) x t s).1.length,.L (fm q),.LB lb,.L (Er En),.LL (foundD q (lostB lb) w G En (i+1) x t s).1])∨∃ j old,(j=1∨j=3)∧∀ {τ:Type} (k:Nat→LS_→Option τ),R.b [.I ((i+1:Nat):Int),.I ((t:Nat):Int),.N n,.L x,.I (s).2,.I q,.I n,.N G.length,.LL G,.I (fp q),.I (fe q),.N (fm q).length,.N n,.L w,.N n,.N (Er En).length,.I (s).2,.N (s).1.length,.L (fm q),.LB lb,.L (Er En),.LL (s).1] k=k j [.L x,.I (foundD q (lostB lb) w G En (i+1) x t s).2,.I q,.I n,.N G.length,.LL G,.I (fp q),.I (fe q),.N (fm q).length,.N n,.L w,.N n,.N (Er En).length,.I (foundD q (lostB lb) w G En (i+1) x t s).2,.N (foundD q (lostB lb) w G En (i+1) x t s).1.length,.L (fm q),.LB lb,.L (Er En),.LL old,.LL (foundD q (lostB lb) w G En (i+1) x t s).1]) {x:List Int} (hx:Wd q n x) {t:Nat} (ht:t+(d+1)*n≤2^30):∀ (f a:Nat) (s:Best),a≤q→q<f+a→s.1.length+(q-a)*q^d≤2^30 →
  (∃ e,(e=0∨e=2)∧∀ {τ:Type} (κ:Nat→LS_→Option τ),runE (L102_4_3 R) f κ 0 [.I i,.I t,.N n,.I q,.I ((a:Nat):Int),.L x,.I (s).2,.I q,.I n,.N G.length,.LL G,.I (fp q),.I (fe q),.N (fm q).length,.N n,.L w,.N n,.N (Er En).length,.I (s).2,.N (s).1.length,.L (fm q),.LB lb,.L (Er En),.LL (s).1]=κ e [.L x,.I (restD q (lostB lb) w G En i x t a s).2,.I q,.I n,.N G.length,.LL G,.I (fp q),.I (fe q),.N (fm q).length,.N n,.L w,.N n,.N (Er En).length,.I (restD q (lostB lb) w G En i x t a s).2,.N (restD q (lostB lb) w G En i x t a s).1.length,.L (fm q),.LB lb,.L (Er En),.LL (restD q (lostB lb) w G En i x t a s).1])∨∃ old,∀ {τ:Type} (κ:Nat→LS_→Option τ),runE (L102_4_3 R) f κ 0 [.I i,.I t,.N n,.I q,.I ((a:Nat):Int),.L x,.I (s).2,.I q,.I n,.N G.length,.LL G,.I (fp q),.I (fe q),.N (fm q).length,.N n,.L w,.N n,.N (Er En).length,.I (s).2,.N (s).1.length,.L (fm q),.LB lb,.L (Er En),.LL (s).1]=κ 1 [.L x,.I (restD q (lostB lb) w G En i x t a s).2,.I q,.I n,.N G.length,.LL G,.I (fp q),.I (fe q),.N (fm q).length,.N n,.L w,.N n,.N (Er En).length,.I (restD q (lostB lb) w G En i x t a s).2,.N (restD q (lostB lb) w G En i x t a s).1.length,.L (fm q),.LB lb,.L (Er En),.LL old,.LL (restD q (lostB lb) w G En i x t a s).1]
 | 0,a,s,h1,h2,h4=>by omega
 | f+1,a,s,h1,h2,h4=>by
  have hfu:=fuel_le
  have hi:i<G.length:=by omega
  by_cases ha:a<q
  ·have F:=fld q C.hq
   have hqq:=qs_lt C.hq
   have hf:=C.gr.few
   have n0:=C.n0
   have n1:=C.n1
   have wg:=C.gr.wd i hi
   have el:=C.el
   have e1:=C.em i hi
   have e2:=C.en (i+1) (by omega)
   have hxl:=hx.1
   have a0:(0:Int)≤(a:Int):=by omega
   have a1:((a:Nat):Int)<q:=by omega
   have wv:=Wd.vmul F a0 a1 wg
   have wy:=hx.vadd F wv
   have fl:=far_le (lostB lb) w (vadd (fadd q) x (vmul (fmul q) (a:Int) (G.getD i []))) (En.getD i 0) (En.getD (i+1) 0-En.getD i 0)
   have hmul:(d+1)*n=d*n+n:=by rw [Nat.add_mul,Nat.one_mul]
   have e3:wr .i64 ((t:Int)+((far (lostB lb) w (vadd (fadd q) x (vmul (fmul q) (a:Int) (G.getD i []))) (En.getD i 0) (En.getD (i+1) 0-En.getD i 0):Nat):Int))=((t+far (lostB lb) w (vadd (fadd q) x (vmul (fmul q) (a:Int) (G.getD i []))) (En.getD i 0) (En.getD (i+1) 0-En.getD i 0):Nat):Int):=by rw [wr64 (by omega) (by omega)];simp
   have hsub:(q-a)*q^d=q^d+(q-(a+1))*q^d:=by rw [show q-a=(q-(a+1))+1 by omega,Nat.add_mul,Nat.one_mul,Nat.add_comm]
   have fln:=foundD_len (q:=q) (lost:=lostB lb) (w:=w) (G:=G) (En:=En) d (i+1) (vadd (fadd q) x (vmul (fmul q) (a:Int) (G.getD i []))) (t+far (lostB lb) w (vadd (fadd q) x (vmul (fmul q) (a:Int) (G.getD i []))) (En.getD i 0) (En.getD (i+1) 0-En.getD i 0)) s (by omega) el
   rw [restD_succ ha]
   rcases hR (vadd (fadd q) x (vmul (fmul q) (a:Int) (G.getD i []))) (t+far (lostB lb) w (vadd (fadd q) x (vmul (fmul q) (a:Int) (G.getD i []))) (En.getD i 0) (En.getD (i+1) 0-En.getD i 0)) s wy (by omega) (by omega) with ⟨j,hj,hRj⟩ | ⟨j,old,hj,hRj⟩
   ·rcases hj with rfl | rfl | rfl
    ·rcases L102_4_3_spec0 C hid R hR hx ht f (a+1) (foundD q (lostB lb) w G En (i+1) (vadd (fadd q) x (vmul (fmul q) (a:Int) (G.getD i []))) (t+far (lostB lb) w (vadd (fadd q) x (vmul (fmul q) (a:Int) (G.getD i []))) (En.getD i 0) (En.getD (i+1) 0-En.getD i 0)) s) (by omega) (by omega) (by omega) with ⟨e,he,ih⟩ | ⟨old,ih⟩
     ·refine .inl ⟨e,he,fun {τ} κ=>?_⟩
      rw [runE_succ]
      show L102_4_3.s0 R _ _ _=_
      unfold L102_4_3.s0
      simp only [g_,Int.toNat_natCast,Nat.mul_one,Nat.zero_add,List.drop_zero,List.take_length]
      rw [br_of (by simp;omega),show List.take n x=x by rw [←hxl,List.take_length],ck_of (by simp;omega),F71_spec (by omega) (by omega)]
      simp only [g_,sw_zero]
      rw [ck_of (by simp;omega),ck_of (by simp;omega)]
      unfold L102_8_4.b
      rw [L102_8_4_row C.hq (In.of wg) (In.of hx) (by rw [wg.1,hxl]) (by rw [wg.1];omega) a0 a1]
      simp only [g_,sw_zero,Int.toNat_natCast,Nat.mul_one,Nat.zero_add]
      rw [show wr .i64 ((i:Int)+1)=((i+1:Nat):Int) from wsucc (by omega)]
      simp only [Int.toNat_natCast]
      rw [ck_of (by simp [Er_len];omega),ck_of (by simp [Er_len];omega),ck_of (by simp [Er_len];omega),ck_of (by simp [Er_len];omega),Er_get,Er_get,hxl,S70_0_spec wy.1 C.wl C.bl (by omega) e1 e2]
      simp only [g_,sw_zero]
      rw [ck_of (by simp),e3]
      rw [hRj]
      simp only [g_,sw_zero,sw_one,sw_two,sw_succ]
      rw [show wr .i64 ((a:Int)+1)=((a+1:Nat):Int) from wsucc (by omega)]
      exact ih κ
     ·refine .inr ⟨old,fun {τ} κ=>?_⟩
      rw [runE_succ]
      show L102_4_3.s0 R _ _ _=_
      unfold L102_4_3.s0
      simp only [g_,Int.toNat_natCast,Nat.mul_one,Nat.zero_add,List.drop_zero,List.take_length]
      rw [br_of (by simp;omega),show List.take n x=x by rw [←hxl,List.take_length],ck_of (by simp;omega),F71_spec (by omega) (by omega)]
      simp only [g_,sw_zero]
      rw [ck_of (by simp;omega),ck_of (by simp;omega)]
      unfold L102_8_4.b
      rw [L102_8_4_row C.hq (In.of wg) (In.of hx) (by rw [wg.1,hxl]) (by rw [wg.1];omega) a0 a1]
      simp only [g_,sw_zero,Int.toNat_natCast,Nat.mul_one,Nat.zero_add]
      rw [show wr .i64 ((i:Int)+1)=((i+1:Nat):Int) from wsucc (by omega)]
      simp only [Int.toNat_natCast]
      rw [ck_of (by simp [Er_len];omega),ck_of (by simp [Er_len];omega),ck_of (by simp [Er_len];omega),ck_of (by simp [Er_len];omega),Er_get,Er_get,hxl,S70_0_spec wy.1 C.wl C.bl (by omega) e1 e2]
      simp only [g_,sw_zero]
      rw [ck_of (by simp),e3]
      rw [hRj]
      simp only [g_,sw_zero,sw_one,sw_two,sw_succ]
      rw [show wr .i64 ((a:Int)+1)=((a+1:Nat):Int) from wsucc (by omega)]
      exact ih κ
    ·have ih:=fun {τ:Type} (κ:Nat→LS_→Option τ)=>L102_4_3_spec2 C hid R hR hx ht f (a+1) (foundD q (lostB lb) w G En (i+1) (vadd (fadd q) x (vmul (fmul q) (a:Int) (G.getD i []))) (t+far (lostB lb) w (vadd (fadd q) x (vmul (fmul q) (a:Int) (G.getD i []))) (En.getD i 0) (En.getD (i+1) 0-En.getD i 0)) s) (by omega) (by omega) (by omega) κ
     refine .inl ⟨2,.inr rfl,fun {τ} κ=>?_⟩
     rw [runE_succ]
     show L102_4_3.s0 R _ _ _=_
     unfold L102_4_3.s0
     simp only [g_,Int.toNat_natCast,Nat.mul_one,Nat.zero_add,List.drop_zero,List.take_length]
     rw [br_of (by simp;omega),show List.take n x=x by rw [←hxl,List.take_length],ck_of (by simp;omega),F71_spec (by omega) (by omega)]
     simp only [g_,sw_zero]
     rw [ck_of (by simp;omega),ck_of (by simp;omega)]
     unfold L102_8_4.b
     rw [L102_8_4_row C.hq (In.of wg) (In.of hx) (by rw [wg.1,hxl]) (by rw [wg.1];omega) a0 a1]
     simp only [g_,sw_zero,Int.toNat_natCast,Nat.mul_one,Nat.zero_add]
     rw [show wr .i64 ((i:Int)+1)=((i+1:Nat):Int) from wsucc (by omega)]
     simp only [Int.toNat_natCast]
     rw [ck_of (by simp [Er_len];omega),ck_of (by simp [Er_len];omega),ck_of (by simp [Er_len];omega),ck_of (by simp [Er_len];omega),Er_get,Er_get,hxl,S70_0_spec wy.1 C.wl C.bl (by omega) e1 e2]
     simp only [g_,sw_zero]
     rw [ck_of (by simp),e3]
     rw [hRj]
     simp only [g_,sw_zero,sw_one,sw_two,sw_succ]
     rw [show wr .i64 ((a:Int)+1)=((a+1:Nat):Int) from wsucc (by omega)]
     exact ih κ
    ·have ih:=fun {τ:Type} (κ:Nat→LS_→Option τ)=>L102_4_3_spec2 C hid R hR hx ht f (a+1) (foundD q (lostB lb) w G En (i+1) (vadd (fadd q) x (vmul (fmul q) (a:Int) (G.getD i []))) (t+far (lostB lb) w (vadd (fadd q) x (vmul (fmul q) (a:Int) (G.getD i []))) (En.getD i 0) (En.getD (i+1) 0-En.getD i 0)) s) (by omega) (by omega) (by omega) κ
     refine .inl ⟨2,.inr rfl,fun {τ} κ=>?_⟩
     rw [runE_succ]
     show L102_4_3.s0 R _ _ _=_
     unfold L102_4_3.s0
     simp only [g_,Int.toNat_natCast,Nat.mul_one,Nat.zero_add,List.drop_zero,List.take_length]
     rw [br_of (by simp;omega),show List.take n x=x by rw [←hxl,List.take_length],ck_of (by simp;omega),F71_spec (by omega) (by omega)]
     simp only [g_,sw_zero]
     rw [ck_of (by simp;omega),ck_of (by simp;omega)]
     unfold L102_8_4.b
     rw [L102_8_4_row C.hq (In.of wg) (In.of hx) (by rw [wg.1,hxl]) (by rw [wg.1];omega) a0 a1]
     simp only [g_,sw_zero,Int.toNat_natCast,Nat.mul_one,Nat.zero_add]
     rw [show wr .i64 ((i:Int)+1)=((i+1:Nat):Int) from wsucc (by omega)]
     simp only [Int.toNat_natCast]
     rw [ck_of (by simp [Er_len];omega),ck_of (by simp [Er_len];omega),ck_of (by simp [Er_len];omega),ck_of (by simp [Er_len];omega),Er_get,Er_get,hxl,S70_0_spec wy.1 C.wl C.bl (by omega) e1 e2]
     simp only [g_,sw_zero]
     rw [ck_of (by simp),e3]
     rw [hRj]
     simp only [g_,sw_zero,sw_one,sw_two,sw_succ]
     rw [show wr .i64 ((a:Int)+1)=((a+1:Nat):Int) from wsucc (by omega)]
     exact ih κ
   ·refine .inr ⟨old,fun {τ} κ=>?_⟩
    have ih:=L102_4_3_spec1 C hid R hR hx ht old f (a+1) (foundD q (lostB lb) w G En (i+1) (vadd (fadd q) x (vmul (fmul q) (a:Int) (G.getD i []))) (t+far (lostB lb) w (vadd (fadd q) x (vmul (fmul q) (a:Int) (G.getD i []))) (En.getD i 0) (En.getD (i+1) 0-En.getD i 0)) s) (by omega) (by omega) (by omega) κ
    rcases hj with rfl | rfl
    ·skip
     rw [runE_succ]
     show L102_4_3.s0 R _ _ _=_
     unfold L102_4_3.s0
     simp only [g_,Int.toNat_natCast,Nat.mul_one,Nat.zero_add,List.drop_zero,List.take_length]
     rw [br_of (by simp;omega),show List.take n x=x by rw [←hxl,List.take_length],ck_of (by simp;omega),F71_spec (by omega) (by omega)]
     simp only [g_,sw_zero]
     rw [ck_of (by simp;omega),ck_of (by simp;omega)]
     unfold L102_8_4.b
     rw [L102_8_4_row C.hq (In.of wg) (In.of hx) (by rw [wg.1,hxl]) (by rw [wg.1];omega) a0 a1]
     simp only [g_,sw_zero,Int.toNat_natCast,Nat.mul_one,Nat.zero_add]
     rw [show wr .i64 ((i:Int)+1)=((i+1:Nat):Int) from wsucc (by omega)]
     simp only [Int.toNat_natCast]
     rw [ck_of (by simp [Er_len];omega),ck_of (by simp [Er_len];omega),ck_of (by simp [Er_len];omega),ck_of (by simp [Er_len];omega),Er_get,Er_get,hxl,S70_0_spec wy.1 C.wl C.bl (by omega) e1 e2]
     simp only [g_,sw_zero]
     rw [ck_of (by simp),e3]
     rw [hRj]
     simp only [g_,sw_zero,sw_one,sw_two,sw_succ]
     rw [show wr .i64 ((a:Int)+1)=((a+1:Nat):Int) from wsucc (by omega)]
     exact ih
    ·skip
     rw [runE_succ]
     show L102_4_3.s0 R _ _ _=_
     unfold L102_4_3.s0
     simp only [g_,Int.toNat_natCast,Nat.mul_one,Nat.zero_add,List.drop_zero,List.take_length]
     rw [br_of (by simp;omega),show List.take n x=x by rw [←hxl,List.take_length],ck_of (by simp;omega),F71_spec (by omega) (by omega)]
     simp only [g_,sw_zero]
     rw [ck_of (by simp;omega),ck_of (by simp;omega)]
     unfold L102_8_4.b
     rw [L102_8_4_row C.hq (In.of wg) (In.of hx) (by rw [wg.1,hxl]) (by rw [wg.1];omega) a0 a1]
     simp only [g_,sw_zero,Int.toNat_natCast,Nat.mul_one,Nat.zero_add]
     rw [show wr .i64 ((i:Int)+1)=((i+1:Nat):Int) from wsucc (by omega)]
     simp only [Int.toNat_natCast]
     rw [ck_of (by simp [Er_len];omega),ck_of (by simp [Er_len];omega),ck_of (by simp [Er_len];omega),ck_of (by simp [Er_len];omega),Er_get,Er_get,hxl,S70_0_spec wy.1 C.wl C.bl (by omega) e1 e2]
     simp only [g_,sw_zero]
     rw [ck_of (by simp),e3]
     rw [hRj]
     simp only [g_,sw_zero,sw_one,sw_two,sw_succ]
     rw [show wr .i64 ((a:Int)+1)=((a+1:Nat):Int) from wsucc (by omega)]
     exact ih
  ·have:a=q:=by omega
   subst this
   refine .inl ⟨0,.inl rfl,fun {τ} κ=>?_⟩
   rw [restD_end,runE_succ]
   show L102_4_3.s0 R _ _ _=_
   unfold L102_4_3.s0
   simp only [g_,Int.toNat_natCast,Nat.mul_one,Nat.zero_add,List.drop_zero,List.take_length]
   rw [br_no (by simp)]
theorem S102_3_D (m:Nat) {τ:Type} (l:LS_) (k:Nat→LS_→Option τ):(S102_3.D (m+1)).b l k=S102_3.body (S102_3.D m) l k:=rfl
theorem S102_3_spec {q n:Nat} {G:List (List Int)} {w:List Int} {lb:List Bool} {En:List Nat} (C:Sr q n G w lb En):∀ (d i m:Nat) (x:List Int) (t:Nat) (s:Best),i+d=G.length→d<m→Wd q n x→t+d*n≤2^30→s.1.length+q^d≤2^30 →
  (∃ j,(j=0∨j=2∨j=4)∧∀ {τ:Type} (k:Nat→LS_→Option τ),(S102_3.D m).b [.I ((i:Nat):Int),.I ((t:Nat):Int),.N n,.L x,.I (s).2,.I q,.I n,.N G.length,.LL G,.I (fp q),.I (fe q),.N (fm q).length,.N n,.L w,.N n,.N (Er En).length,.I (s).2,.N (s).1.length,.L (fm q),.LB lb,.L (Er En),.LL (s).1] k=k j [.L x,.I (foundD q (lostB lb) w G En (i) x t s).2,.I q,.I n,.N G.length,.LL G,.I (fp q),.I (fe q),.N (fm q).length,.N n,.L w,.N n,.N (Er En).length,.I (foundD q (lostB lb) w G En (i) x t s).2,.N (foundD q (lostB lb) w G En (i) x t s).1.length,.L (fm q),.LB lb,.L (Er En),.LL (foundD q (lostB lb) w G En (i) x t s).1])∨∃ j old,(j=1∨j=3)∧∀ {τ:Type} (k:Nat→LS_→Option τ),(S102_3.D m).b [.I ((i:Nat):Int),.I ((t:Nat):Int),.N n,.L x,.I (s).2,.I q,.I n,.N G.length,.LL G,.I (fp q),.I (fe q),.N (fm q).length,.N n,.L w,.N n,.N (Er En).length,.I (s).2,.N (s).1.length,.L (fm q),.LB lb,.L (Er En),.LL (s).1] k=k j [.L x,.I (foundD q (lostB lb) w G En (i) x t s).2,.I q,.I n,.N G.length,.LL G,.I (fp q),.I (fe q),.N (fm q).length,.N n,.L w,.N n,.N (Er En).length,.I (foundD q (lostB lb) w G En (i) x t s).2,.N (foundD q (lostB lb) w G En (i) x t s).1.length,.L (fm q),.LB lb,.L (Er En),.LL old,.LL (foundD q (lostB lb) w G En (i) x t s).1]
 | d,i,0,x,t,s,h1,h2,hx,h3,h4=>by omega
 | 0,i,m+1,x,t,s,h1,h2,hx,h3,h4=>by
  have hxl:=hx.1
  have hf:=C.gr.few
  have n1:=C.n1
  rw [foundD_end (by omega)]
  by_cases h:(t:Int)>s.2
  ·rw [if_pos h]
   refine .inl ⟨0,.inl rfl,fun {τ} k=>?_⟩
   rw [S102_3_D]
   unfold S102_3.body
   simp only [g_,Int.toNat_natCast,Nat.mul_one,Nat.zero_add,List.drop_zero,List.take_length]
   rw [br_of (by simpa using h)]
  ·rw [if_neg h]
   have hg:i=G.length:=by omega
   unfold meet
   dsimp only
   rw [if_neg h]
   by_cases hl:(t:Int)<s.2
   ·rw [if_pos hl]
    refine .inr ⟨1,s.1,.inl rfl,fun {τ} k=>?_⟩
    rw [S102_3_D]
    unfold S102_3.body
    simp only [g_,Int.toNat_natCast,Nat.mul_one,Nat.zero_add,List.drop_zero,List.take_length]
    rw [br_no (by simp only [gtI_no];exact h),br_of (by subst hg;simp),br_of (by simpa using hl),show List.take n x=x by rw [←hxl,List.take_length],ck_of (by simp;omega)]
    rfl
   ·rw [if_neg hl]
    refine .inl ⟨2,.inr (.inl rfl),fun {τ} k=>?_⟩
    rw [S102_3_D]
    unfold S102_3.body
    simp only [g_,Int.toNat_natCast,Nat.mul_one,Nat.zero_add,List.drop_zero,List.take_length]
    rw [br_no (by simp only [gtI_no];exact h),br_of (by subst hg;simp),br_no (by simp only [ltI_no];exact hl),show List.take n x=x by rw [←hxl,List.take_length],ck_of (by simp;omega),ck_of (by simp at h4 ⊢;omega)]
    simp
 | d+1,i,m+1,x,t,s,h1,h2,hx,h3,h4=>by
  have hfu:=fuel_le
  have hqq:=qs_lt C.hq
  have el:=C.el
  rw [foundD_row (by omega) (by omega)]
  by_cases h:(t:Int)>s.2
  ·rw [if_pos h]
   refine .inl ⟨0,.inl rfl,fun {τ} k=>?_⟩
   rw [S102_3_D]
   unfold S102_3.body
   simp only [g_,Int.toNat_natCast,Nat.mul_one,Nat.zero_add,List.drop_zero,List.take_length]
   rw [br_of (by simpa using h)]
  ·rw [if_neg h]
   have hne:(i:Int)≠G.length:=by omega
   rcases L102_4_3_spec0 C h1 (S102_3.D m) (fun x t s a b c=>S102_3_spec C d (i+1) m x t s (by omega) (by omega) a b c) hx h3 fuel 0 s (by omega) (by omega) (by rw [Nat.pow_succ,Nat.mul_comm] at h4;simpa using h4) with ⟨e,he,ih⟩ | ⟨old,ih⟩
   ·rcases he with rfl | rfl
    ·refine .inl ⟨0,.inl rfl,fun {τ} k=>?_⟩
     rw [S102_3_D]
     unfold S102_3.body L102_4_3.b
     simp only [g_,Int.toNat_natCast,Nat.mul_one,Nat.zero_add,List.drop_zero,List.take_length]
     rw [br_no (by simp only [gtI_no];exact h),br_no (by simpa using hne)]
     exact ih _
    ·refine .inl ⟨4,.inr (.inr rfl),fun {τ} k=>?_⟩
     rw [S102_3_D]
     unfold S102_3.body L102_4_3.b
     simp only [g_,Int.toNat_natCast,Nat.mul_one,Nat.zero_add,List.drop_zero,List.take_length]
     rw [br_no (by simp only [gtI_no];exact h),br_no (by simpa using hne)]
     exact ih _
   ·refine .inr ⟨3,old,.inr rfl,fun {τ} k=>?_⟩
    rw [S102_3_D]
    unfold S102_3.body L102_4_3.b
    simp only [g_,Int.toNat_natCast,Nat.mul_one,Nat.zero_add,List.drop_zero,List.take_length]
    rw [br_no (by simp only [gtI_no];exact h),br_no (by simpa using hne)]
    exact ih _
theorem L102_4_2_spec1 {q n:Nat} {G:List (List Int)} {w:List Int} {lb:List Bool} {En:List Nat} (C:Sr q n G w lb En) {i d:Nat} (hid:i+(d+1)=G.length) (R:SDyn P S102_2.H) {x:List Int} (hx:Wd q n x) {t:Nat} (ht:t+(d+1)*n≤2^30):∀ (f a:Nat) (s:Best),a≤q→q<f+a→s.1.length+(q-a)*q^d≤2^30 →
  ∀ {τ:Type} (κ:Nat→LS_→Option τ),runE (L102_4_2 R) f κ 1 [.I i,.I t,.N n,.I q,.I ((a:Nat):Int),.L x,.I (s).2,.I q,.I n,.N G.length,.LL G,.I (fp q),.I (fe q),.N (fm q).length,.N n,.L w,.N n,.N (Er En).length,.I (s).2,.N (s).1.length,.L (fm q),.LB lb,.L (Er En),.LL (s).1]=κ 1 [.L x,.I (restD q (lostB lb) w G En i x t a s).2,.I q,.I n,.N G.length,.LL G,.I (fp q),.I (fe q),.N (fm q).length,.N n,.L w,.N n,.N (Er En).length,.I (restD q (lostB lb) w G En i x t a s).2,.N (restD q (lostB lb) w G En i x t a s).1.length,.L (fm q),.LB lb,.L (Er En),.LL (restD q (lostB lb) w G En i x t a s).1]
 | 0,a,s,h1,h2,h4=>by omega
 | f+1,a,s,h1,h2,h4=>by
  intro κ
  have hfu:=fuel_le
  have hi:i<G.length:=by omega
  by_cases ha:a<q
  ·have F:=fld q C.hq
   have hqq:=qs_lt C.hq
   have hf:=C.gr.few
   have n0:=C.n0
   have n1:=C.n1
   have wg:=C.gr.wd i hi
   have el:=C.el
   have e1:=C.em i hi
   have e2:=C.en (i+1) (by omega)
   have hxl:=hx.1
   have a0:(0:Int)≤(a:Int):=by omega
   have a1:((a:Nat):Int)<q:=by omega
   have wv:=Wd.vmul F a0 a1 wg
   have wy:=hx.vadd F wv
   have fl:=far_le (lostB lb) w (vadd (fadd q) x (vmul (fmul q) (a:Int) (G.getD i []))) (En.getD i 0) (En.getD (i+1) 0-En.getD i 0)
   have hmul:(d+1)*n=d*n+n:=by rw [Nat.add_mul,Nat.one_mul]
   have e3:wr .i64 ((t:Int)+((far (lostB lb) w (vadd (fadd q) x (vmul (fmul q) (a:Int) (G.getD i []))) (En.getD i 0) (En.getD (i+1) 0-En.getD i 0):Nat):Int))=((t+far (lostB lb) w (vadd (fadd q) x (vmul (fmul q) (a:Int) (G.getD i []))) (En.getD i 0) (En.getD (i+1) 0-En.getD i 0):Nat):Int):=by rw [wr64 (by omega) (by omega)];simp
   have hsub:(q-a)*q^d=q^d+(q-(a+1))*q^d:=by rw [show q-a=(q-(a+1))+1 by omega,Nat.add_mul,Nat.one_mul,Nat.add_comm]
   have fln:=foundD_len (q:=q) (lost:=lostB lb) (w:=w) (G:=G) (En:=En) d (i+1) (vadd (fadd q) x (vmul (fmul q) (a:Int) (G.getD i []))) (t+far (lostB lb) w (vadd (fadd q) x (vmul (fmul q) (a:Int) (G.getD i []))) (En.getD i 0) (En.getD (i+1) 0-En.getD i 0)) s (by omega) el
   have ih:=L102_4_2_spec1 C hid R hx ht f (a+1) (foundD q (lostB lb) w G En (i+1) (vadd (fadd q) x (vmul (fmul q) (a:Int) (G.getD i []))) (t+far (lostB lb) w (vadd (fadd q) x (vmul (fmul q) (a:Int) (G.getD i []))) (En.getD i 0) (En.getD (i+1) 0-En.getD i 0)) s) (by omega) (by omega) (by omega) κ
   rw [restD_succ ha]
   rw [runE_succ]
   show L102_4_2.s1 R _ _ _=_
   unfold L102_4_2.s1
   simp only [g_,Int.toNat_natCast,Nat.mul_one,Nat.zero_add,List.drop_zero,List.take_length]
   rw [br_of (by simp;omega),show List.take n x=x by rw [←hxl,List.take_length],ck_of (by simp;omega),F71_spec (by omega) (by omega)]
   simp only [g_,sw_zero]
   rw [ck_of (by simp;omega),ck_of (by simp;omega)]
   unfold L102_8_4.b
   rw [L102_8_4_row C.hq (In.of wg) (In.of hx) (by rw [wg.1,hxl]) (by rw [wg.1];omega) a0 a1]
   simp only [g_,sw_zero,Int.toNat_natCast,Nat.mul_one,Nat.zero_add]
   rw [show wr .i64 ((i:Int)+1)=((i+1:Nat):Int) from wsucc (by omega)]
   simp only [Int.toNat_natCast]
   rw [ck_of (by simp [Er_len];omega),ck_of (by simp [Er_len];omega),ck_of (by simp [Er_len];omega),ck_of (by simp [Er_len];omega),Er_get,Er_get,hxl,S70_0_spec wy.1 C.wl C.bl (by omega) e1 e2]
   simp only [g_,sw_zero]
   rw [ck_of (by simp),e3]
   unfold S102_3
   rcases S102_3_spec C d (i+1) fuel (vadd (fadd q) x (vmul (fmul q) (a:Int) (G.getD i []))) (t+far (lostB lb) w (vadd (fadd q) x (vmul (fmul q) (a:Int) (G.getD i []))) (En.getD i 0) (En.getD (i+1) 0-En.getD i 0)) s (by omega) (by omega) wy (by omega) (by omega) with ⟨j,hj,hRj⟩ | ⟨j,o,hj,hRj⟩
   ·rw [hRj]
    rcases hj with rfl | rfl | rfl
    all_goals
     simp only [g_,sw_zero,sw_one,sw_two,sw_succ]
     rw [show wr .i64 ((a:Int)+1)=((a+1:Nat):Int) from wsucc (by omega)]
     exact ih
   ·rw [hRj]
    rcases hj with rfl | rfl
    all_goals
     simp only [g_,sw_zero,sw_one,sw_two,sw_succ]
     rw [show wr .i64 ((a:Int)+1)=((a+1:Nat):Int) from wsucc (by omega)]
     exact ih
  ·have:a=q:=by omega
   subst this
   rw [restD_end,runE_succ]
   show L102_4_2.s1 R _ _ _=_
   unfold L102_4_2.s1
   simp only [g_,Int.toNat_natCast,Nat.mul_one,Nat.zero_add,List.drop_zero,List.take_length]
   rw [br_no (by simp)]
theorem L102_4_2_spec0 {q n:Nat} {G:List (List Int)} {w:List Int} {lb:List Bool} {En:List Nat} (C:Sr q n G w lb En) {r:Int} {i d:Nat} (hid:i+(d+1)=G.length) (hc:q^(d+1)≤2^30) (R:SDyn P S102_2.H)
    (hR:∀ (x:List Int) (t:Nat),Wd q n x→t+d*n≤2^30→(foundD q (lostB lb) w G En (i+1) x t ([],r)=([],r)∧∀ {τ:Type} (k:Nat→LS_→Option τ),R.b [.I ((i+1:Nat):Int),.I ((t:Nat):Int),.N n,.L x,.I r,.I q,.I n,.N G.length,.LL G,.I (fp q),.I (fe q),.N (fm q).length,.N n,.L w,.N n,.N (Er En).length,.I r,.L (fm q),.LB lb,.L (Er En)] k=k 0 [.L x,.I r,.I q,.I n,.N G.length,.LL G,.I (fp q),.I (fe q),.N (fm q).length,.N n,.L w,.N n,.N (Er En).length,.I r,.L (fm q),.LB lb,.L (Er En)])∨∃ j,(j=1∨j=2)∧∀ {τ:Type} (k:Nat→LS_→Option τ),R.b [.I ((i+1:Nat):Int),.I ((t:Nat):Int),.N n,.L x,.I r,.I q,.I n,.N G.length,.LL G,.I (fp q),.I (fe q),.N (fm q).length,.N n,.L w,.N n,.N (Er En).length,.I r,.L (fm q),.LB lb,.L (Er En)] k=k j [.L x,.I (foundD q (lostB lb) w G En (i+1) x t ([],r)).2,.I q,.I n,.N G.length,.LL G,.I (fp q),.I (fe q),.N (fm q).length,.N n,.L w,.N n,.N (Er En).length,.I (foundD q (lostB lb) w G En (i+1) x t ([],r)).2,.N (foundD q (lostB lb) w G En (i+1) x t ([],r)).1.length,.L (fm q),.LB lb,.L (Er En),.LL (foundD q (lostB lb) w G En (i+1) x t ([],r)).1])
    {x:List Int} (hx:Wd q n x) {t:Nat} (ht:t+(d+1)*n≤2^30):∀ (f a:Nat),a≤q→q<f+a →
    (restD q (lostB lb) w G En i x t a ([],r)=([],r)∧∀ {τ:Type} (κ:Nat→LS_→Option τ),runE (L102_4_2 R) f κ 0 [.I i,.I t,.N n,.I q,.I ((a:Nat):Int),.L x,.I r,.I q,.I n,.N G.length,.LL G,.I (fp q),.I (fe q),.N (fm q).length,.N n,.L w,.N n,.N (Er En).length,.I r,.L (fm q),.LB lb,.L (Er En)]=κ 0 [.L x,.I r,.I q,.I n,.N G.length,.LL G,.I (fp q),.I (fe q),.N (fm q).length,.N n,.L w,.N n,.N (Er En).length,.I r,.L (fm q),.LB lb,.L (Er En)])∨(∀ {τ:Type} (κ:Nat→LS_→Option τ),runE (L102_4_2 R) f κ 0 [.I i,.I t,.N n,.I q,.I ((a:Nat):Int),.L x,.I r,.I q,.I n,.N G.length,.LL G,.I (fp q),.I (fe q),.N (fm q).length,.N n,.L w,.N n,.N (Er En).length,.I r,.L (fm q),.LB lb,.L (Er En)]=κ 1 [.L x,.I (restD q (lostB lb) w G En i x t a ([],r)).2,.I q,.I n,.N G.length,.LL G,.I (fp q),.I (fe q),.N (fm q).length,.N n,.L w,.N n,.N (Er En).length,.I (restD q (lostB lb) w G En i x t a ([],r)).2,.N (restD q (lostB lb) w G En i x t a ([],r)).1.length,.L (fm q),.LB lb,.L (Er En),.LL (restD q (lostB lb) w G En i x t a ([],r)).1])
  | 0,a,h1,h2=>by omega
  | f+1,a,h1,h2=>by
    have hfu:=fuel_le
    have hi:i<G.length:=by omega
    by_cases ha:a<q
    · have F:=fld q C.hq
      have hqq:=qs_lt C.hq
      have hf:=C.gr.few
      have n0:=C.n0
      have n1:=C.n1
      have wg:=C.gr.wd i hi
      have el:=C.el
      have e1:=C.em i hi
      have e2:=C.en (i+1) (by omega)
      have hxl:=hx.1
      have a0:(0:Int)≤(a:Int):=by omega
      have a1:((a:Nat):Int)<q:=by omega
      have wv:=Wd.vmul F a0 a1 wg
      have wy:=hx.vadd F wv
      have fl:=far_le (lostB lb) w (vadd (fadd q) x (vmul (fmul q) (a:Int) (G.getD i []))) (En.getD i 0) (En.getD (i+1) 0-En.getD i 0)
      have hmul:(d+1)*n=d*n+n:=by rw [Nat.add_mul,Nat.one_mul]
      have e3:wr .i64 ((t:Int)+((far (lostB lb) w (vadd (fadd q) x (vmul (fmul q) (a:Int) (G.getD i []))) (En.getD i 0) (En.getD (i+1) 0-En.getD i 0):Nat):Int))=((t+far (lostB lb) w (vadd (fadd q) x (vmul (fmul q) (a:Int) (G.getD i []))) (En.getD i 0) (En.getD (i+1) 0-En.getD i 0):Nat):Int):=by rw [wr64 (by omega) (by omega)];simp
      have fln:=foundD_len (q:=q) (lost:=lostB lb) (w:=w) (G:=G) (En:=En) d (i+1) (vadd (fadd q) x (vmul (fmul q) (a:Int) (G.getD i []))) (t+far (lostB lb) w (vadd (fadd q) x (vmul (fmul q) (a:Int) (G.getD i []))) (En.getD i 0) (En.getD (i+1) 0-En.getD i 0)) ([],r) (by omega) el
      rw [List.length_nil,Nat.zero_add] at fln
      have hqd:q^(d+1)=q^d*q:=Nat.pow_succ ..
      have hsub:(q-(a+1))*q^d+q^d≤q^(d+1):=by
        have:(q-(a+1))*q^d+q^d=(q-(a+1)+1)*q^d:=by rw [Nat.add_mul,Nat.one_mul]
        rw [this,hqd,Nat.mul_comm (q^d)]
        exact Nat.mul_le_mul_right _ (by omega)
      rw [restD_succ ha]
      rcases hR (vadd (fadd q) x (vmul (fmul q) (a:Int) (G.getD i []))) (t+far (lostB lb) w (vadd (fadd q) x (vmul (fmul q) (a:Int) (G.getD i []))) (En.getD i 0) (En.getD (i+1) 0-En.getD i 0)) wy (by omega) with ⟨hz,hRj⟩ | ⟨j,hj,hRj⟩
      · rw [hz]
        rcases L102_4_2_spec0 C hid hc R hR hx ht f (a+1) (by omega) (by omega) with ⟨hz2,ih⟩ | ih
        · refine .inl ⟨hz2,fun {τ} κ=>?_⟩
          rw [runE_succ]
          show L102_4_2.s0 R _ _ _=_
          unfold L102_4_2.s0
          simp only [g_,Int.toNat_natCast,Nat.mul_one,Nat.zero_add,List.drop_zero,List.take_length]
          rw [br_of (by simp;omega),show List.take n x=x by rw [←hxl,List.take_length],ck_of (by simp;omega),F71_spec (by omega) (by omega)]
          simp only [g_,sw_zero]
          rw [ck_of (by simp;omega),ck_of (by simp;omega)]
          unfold L102_8_3.b
          rw [L102_8_3_row C.hq (In.of wg) (In.of hx) (by rw [wg.1,hxl]) (by rw [wg.1];omega) a0 a1]
          simp only [g_,sw_zero,Int.toNat_natCast,Nat.mul_one,Nat.zero_add]
          rw [show wr .i64 ((i:Int)+1)=((i+1:Nat):Int) from wsucc (by omega)]
          simp only [Int.toNat_natCast]
          rw [ck_of (by simp [Er_len];omega),ck_of (by simp [Er_len];omega),ck_of (by simp [Er_len];omega),ck_of (by simp [Er_len];omega),Er_get,Er_get,hxl,S70_0_spec wy.1 C.wl C.bl (by omega) e1 e2]
          simp only [g_,sw_zero]
          rw [ck_of (by simp),e3]
          rw [hRj]
          simp only [g_,sw_zero,sw_one,sw_two]
          rw [show wr .i64 ((a:Int)+1)=((a+1:Nat):Int) from wsucc (by omega)]
          exact ih κ
        · refine .inr fun {τ} κ=>?_
          rw [runE_succ]
          show L102_4_2.s0 R _ _ _=_
          unfold L102_4_2.s0
          simp only [g_,Int.toNat_natCast,Nat.mul_one,Nat.zero_add,List.drop_zero,List.take_length]
          rw [br_of (by simp;omega),show List.take n x=x by rw [←hxl,List.take_length],ck_of (by simp;omega),F71_spec (by omega) (by omega)]
          simp only [g_,sw_zero]
          rw [ck_of (by simp;omega),ck_of (by simp;omega)]
          unfold L102_8_3.b
          rw [L102_8_3_row C.hq (In.of wg) (In.of hx) (by rw [wg.1,hxl]) (by rw [wg.1];omega) a0 a1]
          simp only [g_,sw_zero,Int.toNat_natCast,Nat.mul_one,Nat.zero_add]
          rw [show wr .i64 ((i:Int)+1)=((i+1:Nat):Int) from wsucc (by omega)]
          simp only [Int.toNat_natCast]
          rw [ck_of (by simp [Er_len];omega),ck_of (by simp [Er_len];omega),ck_of (by simp [Er_len];omega),ck_of (by simp [Er_len];omega),Er_get,Er_get,hxl,S70_0_spec wy.1 C.wl C.bl (by omega) e1 e2]
          simp only [g_,sw_zero]
          rw [ck_of (by simp),e3]
          rw [hRj]
          simp only [g_,sw_zero,sw_one,sw_two]
          rw [show wr .i64 ((a:Int)+1)=((a+1:Nat):Int) from wsucc (by omega)]
          exact ih κ
      · have ih:=fun {τ:Type} (κ:Nat→LS_→Option τ)=>L102_4_2_spec1 C hid R hx ht f (a+1) (foundD q (lostB lb) w G En (i+1) (vadd (fadd q) x (vmul (fmul q) (a:Int) (G.getD i []))) (t+far (lostB lb) w (vadd (fadd q) x (vmul (fmul q) (a:Int) (G.getD i []))) (En.getD i 0) (En.getD (i+1) 0-En.getD i 0)) ([],r)) (by omega) (by omega) (by omega) κ
        refine .inr fun {τ} κ=>?_
        rw [runE_succ]
        show L102_4_2.s0 R _ _ _=_
        unfold L102_4_2.s0
        simp only [g_,Int.toNat_natCast,Nat.mul_one,Nat.zero_add,List.drop_zero,List.take_length]
        rw [br_of (by simp;omega),show List.take n x=x by rw [←hxl,List.take_length],ck_of (by simp;omega),F71_spec (by omega) (by omega)]
        simp only [g_,sw_zero]
        rw [ck_of (by simp;omega),ck_of (by simp;omega)]
        unfold L102_8_3.b
        rw [L102_8_3_row C.hq (In.of wg) (In.of hx) (by rw [wg.1,hxl]) (by rw [wg.1];omega) a0 a1]
        simp only [g_,sw_zero,Int.toNat_natCast,Nat.mul_one,Nat.zero_add]
        rw [show wr .i64 ((i:Int)+1)=((i+1:Nat):Int) from wsucc (by omega)]
        simp only [Int.toNat_natCast]
        rw [ck_of (by simp [Er_len];omega),ck_of (by simp [Er_len];omega),ck_of (by simp [Er_len];omega),ck_of (by simp [Er_len];omega),Er_get,Er_get,hxl,S70_0_spec wy.1 C.wl C.bl (by omega) e1 e2]
        simp only [g_,sw_zero]
        rw [ck_of (by simp),e3]
        rw [hRj]
        rcases hj with rfl | rfl
        all_goals
          simp only [g_,sw_zero,sw_one,sw_two]
          rw [show wr .i64 ((a:Int)+1)=((a+1:Nat):Int) from wsucc (by omega)]
          exact ih κ
    · have:a=q:=by omega
      subst this
      refine .inl ⟨restD_end,fun {τ} κ=>?_⟩
      rw [runE_succ]
      show L102_4_2.s0 R _ _ _=_
      unfold L102_4_2.s0
      simp only [g_,Int.toNat_natCast,Nat.mul_one,Nat.zero_add,List.drop_zero,List.take_length]
      rw [br_no (by simp)]
theorem S102_2_D (m:Nat) {τ:Type} (l:LS_) (k:Nat→LS_→Option τ):(S102_2.D (m+1)).b l k=S102_2.body (S102_2.D m) l k:=rfl
theorem S102_2_spec {q n:Nat} {G:List (List Int)} {w:List Int} {lb:List Bool} {En:List Nat} (C:Sr q n G w lb En) (r:Int) (hc:q^G.length≤2^30):∀ (d i m:Nat) (x:List Int) (t:Nat),i+d=G.length→d<m→Wd q n x→t+d*n≤2^30 →
  (foundD q (lostB lb) w G En (i) x t ([],r)=([],r)∧∀ {τ:Type} (k:Nat→LS_→Option τ),(S102_2.D m).b [.I ((i:Nat):Int),.I ((t:Nat):Int),.N n,.L x,.I r,.I q,.I n,.N G.length,.LL G,.I (fp q),.I (fe q),.N (fm q).length,.N n,.L w,.N n,.N (Er En).length,.I r,.L (fm q),.LB lb,.L (Er En)] k=k 0 [.L x,.I r,.I q,.I n,.N G.length,.LL G,.I (fp q),.I (fe q),.N (fm q).length,.N n,.L w,.N n,.N (Er En).length,.I r,.L (fm q),.LB lb,.L (Er En)])∨∃ j,(j=1∨j=2)∧∀ {τ:Type} (k:Nat→LS_→Option τ),(S102_2.D m).b [.I ((i:Nat):Int),.I ((t:Nat):Int),.N n,.L x,.I r,.I q,.I n,.N G.length,.LL G,.I (fp q),.I (fe q),.N (fm q).length,.N n,.L w,.N n,.N (Er En).length,.I r,.L (fm q),.LB lb,.L (Er En)] k=k j [.L x,.I (foundD q (lostB lb) w G En (i) x t ([],r)).2,.I q,.I n,.N G.length,.LL G,.I (fp q),.I (fe q),.N (fm q).length,.N n,.L w,.N n,.N (Er En).length,.I (foundD q (lostB lb) w G En (i) x t ([],r)).2,.N (foundD q (lostB lb) w G En (i) x t ([],r)).1.length,.L (fm q),.LB lb,.L (Er En),.LL (foundD q (lostB lb) w G En (i) x t ([],r)).1]
 | d,i,0,x,t,h1,h2,hx,h3=>by omega
 | 0,i,m+1,x,t,h1,h2,hx,h3=>by
  have hxl:=hx.1
  have hf:=C.gr.few
  have n1:=C.n1
  rw [foundD_end (by omega)]
  by_cases h:(t:Int)>r
  ·rw [if_pos h]
   refine .inl ⟨rfl,fun {τ} k=>?_⟩
   rw [S102_2_D]
   unfold S102_2.body
   simp only [g_,Int.toNat_natCast,Nat.mul_one,Nat.zero_add,List.drop_zero,List.take_length]
   rw [br_of (by simpa using h)]
  ·rw [if_neg h]
   have hg:i=G.length:=by omega
   unfold meet
   dsimp only
   rw [if_neg h]
   refine .inr ⟨1,.inl rfl,fun {τ} k=>?_⟩
   rw [S102_2_D]
   unfold S102_2.body
   simp only [g_,Int.toNat_natCast,Nat.mul_one,Nat.zero_add,List.drop_zero,List.take_length]
   by_cases hl:(t:Int)<r
   ·rw [if_pos hl,br_no (by simp only [gtI_no];exact h),br_of (by subst hg;simp),br_of (by simpa using hl),show List.take n x=x by rw [←hxl,List.take_length],ck_of (by simp;omega)]
    rfl
   ·rw [if_neg hl,br_no (by simp only [gtI_no];exact h),br_of (by subst hg;simp),br_no (by simp only [ltI_no];exact hl),show List.take n x=x by rw [←hxl,List.take_length],ck_of (by simp;omega)]
    rfl
 | d+1,i,m+1,x,t,h1,h2,hx,h3=>by
  have hfu:=fuel_le
  have hqq:=qs_lt C.hq
  have el:=C.el
  have hcd:q^(d+1)≤2^30:=Nat.le_trans (Nat.pow_le_pow_right (by omega) (by omega)) hc
  rw [foundD_row (by omega) (by omega)]
  by_cases h:(t:Int)>r
  ·rw [if_pos h]
   refine .inl ⟨rfl,fun {τ} k=>?_⟩
   rw [S102_2_D]
   unfold S102_2.body
   simp only [g_,Int.toNat_natCast,Nat.mul_one,Nat.zero_add,List.drop_zero,List.take_length]
   rw [br_of (by simpa using h)]
  ·rw [if_neg h]
   have hne:(i:Int)≠G.length:=by omega
   rcases L102_4_2_spec0 C h1 hcd (S102_2.D m) (fun x t a b=>S102_2_spec C r hc d (i+1) m x t (by omega) (by omega) a b) hx h3 fuel 0 (by omega) (by omega) with ⟨hz,ih⟩ | ih
   ·refine .inl ⟨hz,fun {τ} k=>?_⟩
    rw [S102_2_D]
    unfold S102_2.body L102_4_2.b
    simp only [g_,Int.toNat_natCast,Nat.mul_one,Nat.zero_add,List.drop_zero,List.take_length]
    rw [br_no (by simp only [gtI_no];exact h),br_no (by simpa using hne)]
    exact ih _
   ·refine .inr ⟨2,.inr rfl,fun {τ} k=>?_⟩
    rw [S102_2_D]
    unfold S102_2.body L102_4_2.b
    simp only [g_,Int.toNat_natCast,Nat.mul_one,Nat.zero_add,List.drop_zero,List.take_length]
    rw [br_no (by simp only [gtI_no];exact h),br_no (by simpa using hne)]
    exact ih _
end
end Go.Proofs.Ytbpjicbpcfkpfaa.Ai
namespace Go.Proofs.Ytbpjicbpcfkpfaa.Ai
open Go Ma
noncomputable section
theorem L70_3_2_spec {n:Nat} {x w:List Int} {lb:List Bool} (hx:x.length=n) (hw:w.length=n) (hb:lb.length=n) (hs:n<2^30) {v6:Int} {v7:Int} {v8:Nat} {v9:List (List Int)} {v10:Int} {v11:Int} {v12:Nat} {v16:Nat} {v18:List Int} {v20:List Int} {τ:Type} (κ:Nat→LS_→Option τ):∀ (f j:Nat),j≤n→n<f+j →
  runE L70_3_2 f κ 0 [.I 0,.I ((far (lostB lb) w x 0 j:Nat):Int),.N n,.L x,.I n,.I j,.I v6,.I v7,.N v8,.LL v9,.I v10,.I v11,.N v12,.N n,.L w,.N n,.N v16,.L v18,.LB lb,.L v20]=κ 0 [.I ((far (lostB lb) w x 0 n:Nat):Int),.I v6,.I v7,.N v8,.LL v9,.I v10,.I v11,.N v12,.N n,.L w,.N n,.N v16,.L v18,.LB lb,.L v20]
 | 0,j,h1,h2=>by omega
 | f+1,j,h1,h2=>by
  rw [runE_succ]
  show L70_3_2.s0 _ _ _=_
  unfold L70_3_2.s0
  simp only [g_,Int.toNat_natCast,Nat.mul_one,Nat.zero_add,List.drop_zero,List.take_length]
  by_cases hj:j<n
  ·have e1:wr .i64 ((0:Int)+(j:Int))=((j:Nat):Int):=by rw [wr64 (by omega) (by omega)];simp
   have fl:=far_le (lostB lb) w x 0 j
   have ih:=L70_3_2_spec hx hw hb hs (v6:=v6) (v7:=v7) (v8:=v8) (v9:=v9) (v10:=v10) (v11:=v11) (v12:=v12) (v16:=v16) (v18:=v18) (v20:=v20) κ f (j+1) (by omega) (by omega)
   rw [far_succ,Nat.zero_add] at ih
   have e2:wr .i64 (((far (lostB lb) w x 0 j:Nat):Int)+1)=((far (lostB lb) w x 0 j+1:Nat):Int):=wsucc (by omega)
   rw [br_of (by simp;omega),e1]
   simp only [Int.toNat_natCast]
   rw [ck_of (by simp;omega),ck_of (by simp;omega),ck_of (by simp;omega),ck_of (by simp;omega),e2,wsucc (j:=j) (by omega)]
   have hlo:lostB lb j=lb.getD j false:=rfl
   cases hl:lb.getD j false with
   | true =>
    rw [br_no (b:=!true) rfl]
    rw [hlo,hl] at ih
    exact ih
   | false =>
    rw [br_of (b:=!false) rfl,ck_of (by simp;omega),ck_of (by simp;omega)]
    rw [hlo,hl] at ih
    by_cases hd:x.getD j 0=w.getD j 0
    ·rw [br_no (by rw [hd];simp)]
     rw [hd] at ih
     simpa [-List.getD_eq_getElem?_getD] using ih
    ·rw [br_of (by simpa [-List.getD_eq_getElem?_getD] using hd)]
     have:(x.getD j 0 != w.getD j 0)=true:=by simpa [-List.getD_eq_getElem?_getD] using hd
     rw [this] at ih
     exact ih
  ·have:j=n:=by omega
   subst this
   rw [br_no (by simp)]
theorem S70_1_spec {n:Nat} {x w:List Int} {lb:List Bool} (hx:x.length=n) (hw:w.length=n) (hb:lb.length=n) (hs:n<2^30) {q N:Int} {K:Nat} {G:List (List Int)} {p e:Int} {mn en:Nat} {M E:List Int} {τ:Type} (k:Nat→LS_→Option τ) :
  S70_1 [.N n,.L x,.I 0,.I n,.I q,.I N,.N K,.LL G,.I p,.I e,.N mn,.N n,.L w,.N n,.N en,.L M,.LB lb,.L E] k=k 0 [.I ((far (lostB lb) w x 0 n:Nat):Int),.I q,.I N,.N K,.LL G,.I p,.I e,.N mn,.N n,.L w,.N n,.N en,.L M,.LB lb,.L E]:=by
 have hfu:=fuel_le
 unfold S70_1
 simp only [g_,Int.toNat_natCast,Nat.mul_one,Nat.zero_add,List.drop_zero,List.take_length]
 have ht:List.take n x=x:=by rw [←hx,List.take_length]
 rw [ck_of (by simp;omega),show Int.toNat 0=0 from rfl,Nat.sub_zero,List.drop_zero,ht]
 unfold L70_3_2.b
 exact L70_3_2_spec hx hw hb hs (fun j l319=>(sw (k 0 [.I (gI l319 0),.I (gI l319 1),.I (gI l319 2),.N (gN l319 3),.LL (gLL l319 4),.I (gI l319 5),.I (gI l319 6),.N (gN l319 7),.N (gN l319 8),.L (gL l319 9),.N (gN l319 10),.N (gN l319 11),.L (gL l319 12),.LB (gLB l319 13),.L (gL l319 14)]) (fun _=>none)) j) fuel 0 (by omega) (by omega)
def nearR (q n:Nat) (G:List (List Int)) (w g:List Int) (r:Int):List (List Int):=near (fun y=>far (lostG n g) w y 0 n) (winR q n G w g r)
theorem found_nearR {q n:Nat} {G:List (List Int)} {piv:Nat→Nat} (hc:Cd q n G) (h:Rref q n G piv) (w g:List Int) (r:Int) :
  (foundD q (lostG n g) w G (ends n piv G.length) 0 (List.replicate n 0) (far (lostG n g) w (List.replicate n 0) 0 ((ends n piv G.length).getD 0 0)) ([],r)).1=nearR q n G w g r ∧
  ∀ y∈(foundD q (lostG n g) w G (ends n piv G.length) 0 (List.replicate n 0) (far (lostG n g) w (List.replicate n 0) 0 ((ends n piv G.length).getD 0 0)) ([],r)).1,((far (lostG n g) w y 0 n:Nat):Int)=(foundD q (lostG n g) w G (ends n piv G.length) 0 (List.replicate n 0) (far (lostG n g) w (List.replicate n 0) 0 ((ends n piv G.length).getD 0 0)) ([],r)).2:=by
 have F:=fld q hc.fq
 have hq:=qs_lt hc.fq
 have S:=Rref.sr hc h (w:=List.replicate n 0) (by simp) (lb:=List.replicate n false) (by simp)
 have hz:=Wd.zeros (q:=q) (n:=n) (by omega)
 have e0:=S.en 0 (Nat.zero_le _)
 have key0:foundD q (lostG n g) w G (ends n piv G.length) 0 (List.replicate n 0) (far (lostG n g) w (List.replicate n 0) 0 ((ends n piv G.length).getD 0 0)) ([],r)=((words q (fadd q) (fmul q) G (List.replicate n 0)).map fun y=>(y,far (lostG n g) w y 0 n)).foldl meet ([],r):=by
  unfold foundD
  rw [List.drop_zero,List.drop_zero,dfsD_spec F (lostG n g) w G (ends n piv G.length) (List.replicate n 0) _ _ hc.rows.wd hz (ends_len _ _ _) S.em ends_last (fun i k j hi hik hk hj=>by
   rw [ends_get hi] at hj
   refine h.lead k j hk ?_
   by_cases e:i=k
   ·subst e;exact hj
   ·have:=h.mono i k (by omega) hk;omega)]
  generalize hE:(ends n piv G.length).getD 0 0=e at e0 ⊢
  congr 1
  refine List.map_congr_left fun y hy=>?_
  have hs:=words_same F (b:=e) e0 G _ hc.rows.wd (fun i j hi hj=>by
   refine h.lead i j hi ?_
   by_cases hk:0<G.length
   ·rw [←hE,ends_get hk] at hj
    by_cases e:i=0
    ·subst e;exact hj
    ·have:=h.mono 0 i (by omega) hi;omega
   ·omega) hz y hy
  have f1:far (lostG n g) w (List.replicate n 0) 0 e=far (lostG n g) w y 0 e:=far_congr _ _ _ _ _ _ fun j h1 h2=>(hs j (by omega)).symm
  have f2:=far_add (lostG n g) w y 0 e (n-e)
  rw [Nat.zero_add,show e+(n-e)=n by omega] at f2
  rw [f1,f2]
 rw [key0]
 have:=meet_near (fun y=>far (lostG n g) w y 0 n) r (words q (fadd q) (fmul q) G (List.replicate n 0)) [] r (by simp) (fun _=>rfl) (Int.le_refl _)
 exact this
theorem near_sub (d:List Int→Nat):∀ (L out:List (List Int)) (y:List Int),y∈L.foldl (nearStep d) out→y∈out∨y∈L
 | [],out,y,h=>.inl h
 | a::L,out,y,h=>by
  rcases near_sub d L _ y h with h | h
  ·unfold nearStep at h
   split at h
   ·exact .inr (by simpa using Or.inl (List.mem_singleton.1 h))
   ·split at h
    ·exact .inl h
    ·split at h
     ·exact .inr (by simpa using Or.inl (List.mem_singleton.1 h))
     ·rcases List.mem_append.1 h with h | h
      ·exact .inl h
      ·exact .inr (by simpa using Or.inl (List.mem_singleton.1 h))
  ·exact .inr (by simp [h])
theorem nearR_sub {q n:Nat} {G:List (List Int)} {w g:List Int} {r:Int} {y:List Int} (h:y∈nearR q n G w g r):y∈words q (fadd q) (fmul q) G (List.replicate n 0):=by
 rcases near_sub _ _ _ _ h with h | h
 ·simp at h
 ·exact (List.mem_filter.1 h).1
theorem S102_2_top {q n:Nat} {G:List (List Int)} {w:List Int} {lb:List Bool} {En:List Nat} (C:Sr q n G w lb En) (r:Int) (hc:q^G.length≤2^20) {x:List Int} (hx:Wd q n x) {t:Nat} (ht:t≤1024) :
  (foundD q (lostB lb) w G En 0 x t ([],r)=([],r)∧∀ {τ:Type} (k:Nat→LS_→Option τ),S102_2 [.I 0,.I ((t:Nat):Int),.N n,.L x,.I r,.I q,.I n,.N G.length,.LL G,.I (fp q),.I (fe q),.N (fm q).length,.N n,.L w,.N n,.N (Er En).length,.I r,.L (fm q),.LB lb,.L (Er En)] k=k 0 [.L x,.I r,.I q,.I n,.N G.length,.LL G,.I (fp q),.I (fe q),.N (fm q).length,.N n,.L w,.N n,.N (Er En).length,.I r,.L (fm q),.LB lb,.L (Er En)])∨∃ j,(j=1∨j=2)∧∀ {τ:Type} (k:Nat→LS_→Option τ),S102_2 [.I 0,.I ((t:Nat):Int),.N n,.L x,.I r,.I q,.I n,.N G.length,.LL G,.I (fp q),.I (fe q),.N (fm q).length,.N n,.L w,.N n,.N (Er En).length,.I r,.L (fm q),.LB lb,.L (Er En)] k=k j [.L x,.I (foundD q (lostB lb) w G En (0) x t ([],r)).2,.I q,.I n,.N G.length,.LL G,.I (fp q),.I (fe q),.N (fm q).length,.N n,.L w,.N n,.N (Er En).length,.I (foundD q (lostB lb) w G En (0) x t ([],r)).2,.N (foundD q (lostB lb) w G En (0) x t ([],r)).1.length,.L (fm q),.LB lb,.L (Er En),.LL (foundD q (lostB lb) w G En (0) x t ([],r)).1]:=by
 have hfu:=fuel_le
 have hf:=C.gr.few
 have n1:=C.n1
 have hm:G.length*n≤2^20*2^10:=Nat.mul_le_mul (by omega) (by omega)
 exact S102_2_spec C r (by omega) G.length 0 fuel x t (by omega) (by omega) hx (by
  have h20:G.length≤20:=by
   have hq:=qs_lt C.hq
   rcases Nat.lt_or_ge 20 G.length with hh | hh
   ·have h1:=Nat.pow_le_pow_right (n:=q) (by omega) (show 21≤G.length from hh)
    have h2:2^21≤q^21:=Nat.pow_le_pow_left hq.1 21
    omega
   ·exact hh
  have:G.length*n≤20*1024:=Nat.mul_le_mul h20 n1
  omega)
def F20c (n:Int) {τ:Type} (k:Nat→LS_→Option τ) (l:LS_):Option τ :=
 (br ((((gN l 14):Nat):Int)==(0:Int))
 (k 2 [])
 (br ((((gN l 14):Nat):Int)==(1:Int))
 (ck ((true&&(ltI (0:Int) (((gN l 14):Nat):Int)))&&true)
 (ck (true&&(ltN 0 (List.length (gLL l 18))))
 (S70_1 [.N (List.length (List.getD (gLL l 18) 0 [])),.L (List.getD (gLL l 18) 0 []),.I (0:Int),.I n,.I (gI l 2),.I (gI l 3),.N (gN l 4),.LL (gLL l 5),.I (gI l 6),.I (gI l 7),.N (gN l 8),.N (gN l 9),.L (gL l 10),.N (gN l 11),.N (gN l 12),.L (gL l 15),.LB (gLB l 16),.L (gL l 17)]
 (fun j l320=>(sw (ck (true&&(true&&(true&&(true&&(true&&((true&&(true&&(true&&(decide ((gL l 15)=(gL l320 12))))))&&(true&&((true&&(true&&(decide ((gLB l 16)=(gLB l320 13)))))&&((true&&(true&&((true&&(eqI (gI l 2) (gI l320 1)))&&((true&&(eqI (gI l 3) (gI l320 2)))&&(((eqM (gN l 4) (gN l320 3))&&(true&&(decide ((gLL l 5)=(gLL l320 4)))))&&((true&&(eqI (gI l 6) (gI l320 5)))&&((true&&(eqI (gI l 7) (gI l320 6)))&&((true&&(true&&(true&&((eqM (gN l 8) (gN l320 7))&&true))))&&(((eqM (gN l 9) (gN l320 8))&&(true&&(decide ((gL l 10)=(gL l320 9)))))&&((true&&(true&&(true&&((eqM (gN l 11) (gN l320 10))&&true))))&&((true&&(true&&(true&&((eqM (gN l 12) (gN l320 11))&&true))))&&true)))))))))))&&(true&&((true&&(true&&(true&&(decide ((gL l 17)=(gL l320 14))))))&&true)))))))))))
 (ck ((true&&(ltI (0:Int) (((gN l 14):Nat):Int)))&&true)
 (ck (true&&(ltN 0 (List.length (gLL l 18))))
 (k 3 [.I (gI l320 0),.N (List.length (List.getD (gLL l 18) 0 [])),.L (List.getD (gLL l 18) 0 [])]))))
 (fun _=>none)) j))))
 (ck ((true&&(ltI (0:Int) (((gN l 14):Nat):Int)))&&true)
 (ck (true&&(ltN 0 (List.length (gLL l 18))))
 (ck ((eqM (List.length (List.getD (gLL l 18) 0 [])) (List.length (List.getD (gLL l 18) 0 [])))&&true)
 (F71 [.L (List.getD (gLL l 18) 0 [])]
 (fun j l321=>(sw (k 4 [.I (gI l 13),.N (gN l321 0),.N (gN l 14),.L (gL l321 1),.LL (gLL l 18)])
 (fun _=>none)) j)))))))
theorem F20c_spec {q n:Nat} {G:List (List Int)} {w:List Int} {lb:List Bool} {En:List Nat} (C:Sr q n G w lb En) {s:Best} (hw:∀ y∈s.1,y.length=n) (hd:∀ y∈s.1,((far (lostB lb) w y 0 n:Nat):Int)=s.2) {x:List Int} {τ:Type} (k:Nat→LS_→Option τ) :
  F20c n k [.L x,.I (s).2,.I q,.I n,.N G.length,.LL G,.I (fp q),.I (fe q),.N (fm q).length,.N n,.L w,.N n,.N (Er En).length,.I (s).2,.N (s).1.length,.L (fm q),.LB lb,.L (Er En),.LL (s).1]=if s.1.length=0 then k 2 [] else if s.1.length=1 then k 3 [.I ((far (lostB lb) w (s.1.getD 0 []) 0 n:Nat):Int),.N (s.1.getD 0 []).length,.L (s.1.getD 0 [])] else k 4 [.I ((far (lostB lb) w (s.1.getD 0 []) 0 n:Nat):Int),.N (s.1.getD 0 []).length,.N s.1.length,.L (s.1.getD 0 []),.LL s.1]:=by
 have n0:=C.n0
 have n1:=C.n1
 unfold F20c
 simp only [g_,Int.toNat_natCast,Nat.mul_one,Nat.zero_add,List.drop_zero,List.take_length]
 by_cases h0:s.1.length=0
 ·rw [br_of (by rw [h0];rfl),if_pos h0]
 ·have hm:s.1.getD 0 []∈s.1:=by
   rw [List.getD_eq_getElem?_getD,List.getElem?_eq_getElem (by omega)]
   exact List.getElem_mem _
  have hl:=hw _ hm
  have hf:=hd _ hm
  generalize s.1.getD 0 []=y at hl hf ⊢
  generalize s.1=L at h0 ⊢
  rw [br_no (by simp;exact fun h=>h0 (by rw [h];rfl)),if_neg h0]
  by_cases h1:L.length=1
  ·rw [br_of (by rw [h1];rfl),if_pos h1,ck_of (by rw [h1];rfl),ck_of (by rw [h1];rfl),hl,S70_1_spec hl C.wl C.bl (by omega)]
   simp only [g_,sw_zero]
   rw [ck_of (by simp),ck_of (by rw [h1];rfl),ck_of (by rw [h1];rfl)]
  ·rw [br_no (by simp;omega),if_neg h1,ck_of (by simp;omega),ck_of (by simp;omega),ck_of (by simp),F71_spec (by omega) (by omega)]
   simp only [g_,sw_zero]
   rw [hf]
theorem F20_ok {q n:Nat} {G:List (List Int)} (hc:Cd q n G) {w g:List Int} (hr:isRight q n w g=true) (hg60:g.length<2^60) (r:Int) {τ:Type} (k:Nat→LS_→Option τ):F20 [.I q,.I n,.LL G,.L w,.L g,.I r] k =
  if (nearR q n G w g r).length=0 then k 2 [] else if (nearR q n G w g r).length=1 then k 3 [.I ((far (lostG n g) w ((nearR q n G w g r).getD 0 []) 0 n:Nat):Int),.N ((nearR q n G w g r).getD 0 []).length,.L ((nearR q n G w g r).getD 0 [])] else k 4 [.I ((far (lostG n g) w ((nearR q n G w g r).getD 0 []) 0 n:Nat):Int),.N ((nearR q n G w g r).getD 0 []).length,.N (nearR q n G w g r).length,.L ((nearR q n G w g r).getD 0 []),.LL (nearR q n G w g r)]:=by
 obtain ⟨piv,hp⟩:=hc.form
 have hG:=hc.rows
 have hq:=qs_lt hc.fq
 have hf:=hG.few
 have n0:=hc.n0
 have n1:=hc.n1
 have hcnt:=hc.count
 have hws:∀ i,(G.getD i []).length<2^60:=fun i=>by
  rcases Nat.lt_or_ge i G.length with h | h
  ·have:=(hG.wd i h).1;omega
  ·simp [List.getD_eq_getElem?_getD,h]
 unfold isRight at hr
 rw [Bool.and_eq_true] at hr
 have hw:=isWord_iff.1 hr.1
 have hg:=isGone_iff.1 hr.2
 have hwl:w.length=n:=by omega
 have hml:(mark g (List.replicate n false)).length=n:=by rw [mark_len];simp
 have S:=Rref.sr hc hp hwl hml
 have hz:=Wd.zeros (q:=q) (n:=n) (by omega)
 have hE:=Er_ends n piv G.length
 have e0:=S.en 0 (Nat.zero_le _)
 have hfw:=found_nearR hc hp w g r
 have hel:(Er (ends n piv G.length)).length=G.length+1:=by rw [Er_len,ends_len]
 have fl:=far_le (lostG n g) w (List.replicate n 0) 0 ((ends n piv G.length).getD 0 0)
 have common:F20 [.I q,.I n,.LL G,.L w,.L g,.I r] k=S102_2 [.I 0,.I ((far (lostG n g) w (List.replicate n 0) 0 ((ends n piv G.length).getD 0 0):Nat):Int),.N n,.L (List.replicate n 0),.I r,.I q,.I n,.N G.length,.LL G,.I (fp q),.I (fe q),.N (fm q).length,.N n,.L w,.N n,.N (Er (ends n piv G.length)).length,.I r,.L (fm q),.LB (mark g (List.replicate n false)),.L (Er (ends n piv G.length))]
   (fun j l=>(sw (k 2 []) (sw (F20c n k l) (sw (F20c n k l) (fun _=>none)))) j):=by
  unfold F20
  simp only [g_,Int.toNat_natCast,Nat.mul_one,Nat.zero_add,List.drop_zero,List.take_length]
  rw [ck_of (by simp),F37_spec hc.fq n (by omega) hws,validB_cd hc]
  simp only [sw_zero,gB_zero]
  rw [br_no (b:=!true) rfl,ck_of (by simp),F98_spec _ _ _ (by omega) hg60,show isRight q n w g=true from by unfold isRight;rw [hr.1,hr.2];rfl]
  simp only [sw_zero,gB_zero]
  rw [br_no (b:=!true) rfl,ck_of (by simp),F48_spec (by omega) (by omega) n G (by omega)]
  simp only [sw_zero,gI_zero]
  unfold cnt
  rw [if_pos (by omega),br_no (by simp only [gtI_no];omega)]
  unfold T99
  rw [tabM_of hc.fq]
  simp only [g_,sw_zero]
  rw [ck_of (by simp;omega)]
  unfold L65_10_1.b
  rw [L65_10_1_all (n:=n) (by omega) hg60 (fun i hi=>⟨(hg i (Nat.zero_le _) hi).1,(hg i (Nat.zero_le _) hi).2.1⟩) _ (by simp)]
  simp only [g_,sw_zero]
  unfold L65_15_1.b
  rw [L65_15_1_all hG (Rref.leads hp)]
  by_cases hk:G.length=0
  ·rw [if_pos hk]
   have hEz:Er (ends n piv G.length)=[(n:Int)]:=by rw [hE,hk];rfl
   have hen:(ends n piv G.length).getD 0 0=n:=by
    have:=@ends_last n piv G.length
    rw [hk] at this ⊢
    exact this
   simp only [g_,sw_zero,Int.toNat_natCast,List.drop_zero]
   rw [ck_of (by simp;omega),hwl,show List.getD (List.take 1 [(n:Int)]) 0 0=(n:Int) from rfl,S70_0_zero (by simp) hwl hml (by omega) (Nat.le_refl _)]
   simp only [g_,sw_zero]
   rw [ck_of (by simp),hen,hEz]
   rfl
  ·rw [if_neg hk]
   have hen:(pv piv G.length++List.take 1 [(n:Int)]).getD 0 0=(((ends n piv G.length).getD 0 0:Nat):Int):=by
    rw [←Er_get,hE];rfl
   have hEl:(pv piv G.length++List.take 1 [(n:Int)])=Er (ends n piv G.length):=hE.symm
   simp only [g_,sw_one,sw_zero,Int.toNat_natCast,List.drop_zero,pv_len]
   rw [ck_of (by simp [pv_len] <;> omega),ck_of (by simp <;> omega),ck_of (by simp <;> omega),ck_of (by simp),hwl,hen,hEl,S70_0_zero (by simp) hwl hml (by omega) e0]
   simp only [g_,sw_zero]
   rw [ck_of (by simp),hel]
   rfl
 rw [common]
 have hsub:∀ y∈(nearR q n G w g r),y.length=n:=fun y hy=>(words_wd (fld q hc.fq) G _ hc.rows.wd hz y (nearR_sub hy)).1
 rcases S102_2_top S r (by omega) hz (t:=far (lostG n g) w (List.replicate n 0) 0 ((ends n piv G.length).getD 0 0)) (by omega) with ⟨h1,h2⟩ | ⟨j,hj,h2⟩
 ·rw [h2,if_pos (by rw [←hfw.1];exact congrArg (fun s=>s.1.length) h1)]
  rfl
 ·rw [h2]
  have key:=F20c_spec (x:=List.replicate n 0) S (s:=foundD q (lostB (mark g (List.replicate n false))) w G (ends n piv G.length) 0 (List.replicate n 0) (far (lostG n g) w (List.replicate n 0) 0 ((ends n piv G.length).getD 0 0)) ([],r)) (fun y hy=>hsub y (by rw [←hfw.1];exact hy)) hfw.2 k
  rw [show (foundD q (lostB (mark g (List.replicate n false))) w G (ends n piv G.length) 0 (List.replicate n 0) (far (lostG n g) w (List.replicate n 0) 0 ((ends n piv G.length).getD 0 0)) ([],r)).1=(nearR q n G w g r) from hfw.1] at key
  rcases hj with rfl | rfl
  ·refine Eq.trans ?_ key
   rw [show (foundD q (lostB (mark g (List.replicate n false))) w G (ends n piv G.length) 0 (List.replicate n 0) (far (lostG n g) w (List.replicate n 0) 0 ((ends n piv G.length).getD 0 0)) ([],r)).1=(nearR q n G w g r) from hfw.1]
   rfl
  ·refine Eq.trans ?_ key
   rw [show (foundD q (lostB (mark g (List.replicate n false))) w G (ends n piv G.length) 0 (List.replicate n 0) (far (lostG n g) w (List.replicate n 0) 0 ((ends n piv G.length).getD 0 0)) ([],r)).1=(nearR q n G w g r) from hfw.1]
   rfl
def howL (L:List (List Int)):Int:=if L.length=0 then 4 else if L.length=1 then 1 else 2
def rad (d:List Int→Nat) (L:List (List Int)):Int:=if L.length=0 then 0 else ((d (L.getD 0 []):Nat):Int)
def tied (L:List (List Int)):List (List Int):=if L.length=0 then [] else if L.length=1 then [] else L
def T20 {τ:Type} (l:LS_) (k:Nat→LS_→Option τ):Option τ:=wrapB F20.E (.tup [pReply,pI]) l k
def T20.E:Ent P:=F20.E.wrap (.tup [pReply,pI])
theorem T20_none {ls:LS_} (h:∀ {τ:Type} (κ:Nat→LS_→Option τ),F20 ls κ=κ 2 []) {τ:Type} (k:Nat→LS_→Option τ):T20 ls k=k 0 [.I 4,.I 0,.L [],.LL [],.I 0] :=
 wrap_of (e:=F20.E) (p:=.tup [pReply,pI]) (j:=2) (l2:=[]) (c:=true) (ls':=[.I 4,.I 0,.L [],.LL [],.I 0]) (by intro τ κ;kernel_rfl) rfl (fun κ=>h κ)
theorem T20_one {ls:LS_} {t:Int} {x:List Int} (h:∀ {τ:Type} (κ:Nat→LS_→Option τ),F20 ls κ=κ 3 [.I t,.N x.length,.L x]) {τ:Type} (k:Nat→LS_→Option τ):T20 ls k=k 0 [.I 1,.I t,.L x,.LL [],.I 0] :=
 wrap_of (e:=F20.E) (p:=.tup [pReply,pI]) (j:=3) (l2:=[.I t,.N x.length,.L x]) (c:=(true&&(true&&(decide (x.length=x.length)&&(true&&true))))&&(true&&true)) (ls':=[.I 1,.I t,.L x,.LL [],.I 0]) (by intro τ κ;kernel_rfl) (by simp) (fun κ=>h κ)
theorem T20_many {ls:LS_} {t:Int} {x:List Int} {L:List (List Int)} (h:∀ {τ:Type} (κ:Nat→LS_→Option τ),F20 ls κ=κ 4 [.I t,.N x.length,.N L.length,.L x,.LL L]) {τ:Type} (k:Nat→LS_→Option τ):T20 ls k=k 0 [.I 2,.I t,.L x,.LL L,.I 0]:=by
 have:=wrap_of (e:=F20.E) (p:=.tup [pReply,pI]) (ls:=ls) (j:=4) (l2:=[.I t,.N x.length,.N L.length,.L x,.LL L]) (c:=(true&&(true&&(decide (x.length=(List.take (x.length*1) (List.drop 0 x)).length)&&(decide (L.length=(List.take (L.length*1) (List.drop 0 L)).length)&&true))))&&(true&&true)) (ls':=[.I 2,.I t,.L (List.take (x.length*1) (List.drop 0 x)),.LL (List.take (L.length*1) (List.drop 0 L)),.I 0]) (by intro τ κ;kernel_rfl) (by simp) (k:=k) (fun κ=>h κ)
 rw [Nat.mul_one,Nat.mul_one,List.drop_zero,List.drop_zero,List.take_length,List.take_length] at this
 exact this
theorem T20_ok {q n:Nat} {G:List (List Int)} (hc:Cd q n G) {w g:List Int} (hr:isRight q n w g=true) (hg60:g.length<2^60) (r:Int) {τ:Type} (k:Nat→LS_→Option τ):T20 [.I q,.I n,.LL G,.L w,.L g,.I r] k =
  k 0 [.I (howL (nearR q n G w g r)),.I (rad (fun y=>far (lostG n g) w y 0 n) (nearR q n G w g r)),.L ((nearR q n G w g r).getD 0 []),.LL (tied (nearR q n G w g r)),.I 0]:=by
 have h:=fun {τ:Type} (κ:Nat→LS_→Option τ)=>F20_ok hc hr hg60 r κ
 unfold howL rad tied
 generalize nearR q n G w g r=L at h ⊢
 by_cases h0:L.length=0
 ·simp only [if_pos h0] at h ⊢
  rw [show L=[] from List.length_eq_zero_iff.1 h0]
  exact T20_none h k
 ·simp only [if_neg h0] at h ⊢
  by_cases h1:L.length=1
  ·simp only [if_pos h1] at h ⊢
   exact T20_one h k
  ·simp only [if_neg h1] at h ⊢
   exact T20_many h k
end
end Go.Proofs.Ytbpjicbpcfkpfaa.Ai
namespace Go.Proofs.Ytbpjicbpcfkpfaa.Ai
open Go Go.RowKit
noncomputable section
variable {τ:Type} (t:Nat) (nx ex:Nat→LS_→Option τ) (l:LS_) (k κ:Nat→LS_→Option τ)
def F28.ps:List PV2:=[(PV2.agg [iI,iI,aM]),(PV2.agg [aI,aI]),pI]
def F28.sh:List PA:=[(PA.mk (PV3.v (PV2.agg [iI,iI,PV1.nilS,PV1.nilS])) []),(PA.mk (PV3.v (PV2.agg [iI,iI,(PV1.sl (PC0.i .i64)),(PV1.sl (PC0.m .i64))])) [])]
def F28.O:Orc P:=⟨[T20.E],[],[],40⟩
def F28:Option τ :=
 ck (((eqM (List.length (gLL l 2)) (List.length (gLL l 2)))&&true)&&(((eqM (List.length (gL l 3)) (List.length (gL l 3)))&&((eqM (List.length (gL l 4)) (List.length (gL l 4)))&&true))&&true))
 (T20 [.I (gI l 0),.I (gI l 1),.LL (gLL l 2),.L (gL l 3),.L (gL l 4),.I (gI l 5)]
 (fun j A=>(sw (br ((gI A 4) != 0)
 (k 0 [.I 0,.I 0])
 (k 1 [.I (gI A 0),.I (gI A 1),.N (List.length (gL A 2)),.L (gL A 2),.N (List.length (gLL A 3)),.LL (gLL A 3)]))
 (fun _=>none)) j))
theorem F28.eq:FEq F28.O 28 F28.ps F28.sh F28:=by intro τ l κ;kernel_rfl
def F28.E:Ent P:=mkF F28.eq
def T28 {τ:Type} (l:LS_) (k:Nat→LS_→Option τ):Option τ:=F28 l k
def T28.E:Ent P:=F28.E
def T23 {τ:Type} (l:LS_) (k:Nat→LS_→Option τ):Option τ:=F23 l k
def T23.E:Ent P:=F23.E
end
end Go.Proofs.Ytbpjicbpcfkpfaa.Ai
namespace Go.Proofs.Ytbpjicbpcfkpfaa.Ai
open Go Ma
noncomputable section
theorem F23_spec {a b a' b':Int} {C C':List Int} {L L':List (List Int)} (hC:C.length<2^60) (hs:L.length<2^60) (hr:∀ i,(L.getD i []).length<2^60) {τ:Type} (k:Nat→LS_→Option τ) :
  F23 [.I a,.I b,.L C,.LL L,.I a',.I b',.L C',.LL L'] k=k 0 [.B (decide (a=a'∧b=b'∧C=C'∧L=L'))]:=by
 unfold F23
 simp only [g_]
 by_cases h1:a=a'
 ·rw [br_of (by simpa using h1)]
  by_cases h2:b=b'
  ·rw [br_of (by simpa using h2),ck_of (by simp),F27_spec _ _ _ hC]
   simp only [sw_zero,gB_zero]
   by_cases h3:C=C'
   ·rw [decide_eq_true h3,br_of rfl,ck_of (by simp),F22_spec _ _ _ hs hr]
    simp only [sw_zero,gB_zero]
    congr 3
    simp [h1,h2,h3]
   ·rw [decide_eq_false h3,br_no rfl,decide_eq_false (fun h=>h3 h.2.2.1)]
  ·rw [br_no (by simpa using h2),decide_eq_false (fun h=>h2 h.2.1)]
 ·rw [br_no (by simpa using h1),decide_eq_false (fun h=>h1 h.1)]
theorem F28_of {q n:Int} {G:List (List Int)} {w g:List Int} {r a b e:Int} {C:List Int} {L:List (List Int)} (h:∀ {τ:Type} (k:Nat→LS_→Option τ),T20 [.I q,.I n,.LL G,.L w,.L g,.I r] k=k 0 [.I a,.I b,.L C,.LL L,.I e]) {τ:Type} (k:Nat→LS_→Option τ) :
  F28 [.I q,.I n,.LL G,.L w,.L g,.I r] k=if e=0 then k 1 [.I a,.I b,.N C.length,.L C,.N L.length,.LL L] else k 0 [.I 0,.I 0]:=by
 unfold F28
 simp only [g_]
 rw [ck_of (by simp),h]
 simp only [g_,sw_zero]
 by_cases he:e=0
 ·rw [if_pos he,br_no (by simpa using he)]
 ·rw [if_neg he,br_of (by simpa using he)]
end
end Go.Proofs.Ytbpjicbpcfkpfaa.Ai
