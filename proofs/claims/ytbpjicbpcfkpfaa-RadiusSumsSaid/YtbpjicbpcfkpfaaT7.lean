/-
Part 7 of 7 of the texts for one claim: P23 Xf4 Wd Wf Xi6 Xi5 P25 Wc Xf3 P26 P27 P24 Ma5 P28.
-/
import Derived.Test.YtbpjicbpcfkpfaaT6
set_option linter.unusedVariables false
set_option linter.unusedSimpArgs false
namespace Go.Proofs.Ytbpjicbpcfkpfaa.Ai
open Go Ma
noncomputable section
theorem okLs_cons {p:PV1} {ps:List PV1} {ls:LS_} (h:okLs (p::ps) ls):∃ x ls',ls=x::ls'∧okLeaf p x∧okLs ps ls':=by
 cases ls with
 | nil=>have:=h.1;simp at this
 | cons x ls' =>
  refine ⟨x,ls',rfl,h.2 0 (by simp),by have:=h.1;simpa using this,fun j hj=>?_⟩
  exact h.2 (j+1) (by simpa using hj)
theorem okLs_nil {ls:LS_} (h:okLs [] ls):ls=[]:=List.length_eq_zero_iff.1 h.1
theorem ok_int {k:IntKind} {x:Leaf} (h:okLeaf (.int k) x):∃ n,x=.I n∧wfI k n:=by
 unfold okLeaf at h
 split at h
 ·rename_i e;cases e
 ·rename_i k' n e;cases e;exact ⟨n,rfl,h⟩
 ·rename_i e;cases e
 ·rename_i e;cases e
 ·exact h.elim
theorem ok_arr {k:IntKind} {x:Leaf} (h:okLeaf (.arr (.i k)) x):∃ l,x=.L l∧l.length≤maxLen∧∀ n∈l,wfI k n:=by
 unfold okLeaf at h
 split at h
 ·rename_i e;cases e
 ·rename_i e;cases e
 ·rename_i k' l e;cases e;exact ⟨l,rfl,h.1,h.2⟩
 ·rename_i e;cases e
 ·exact h.elim
theorem wf_u8 {n:Int} (h:wfI .u8 n):0≤n∧n<256:=by
 unfold wfI at h
 simp [Lit.wf,IntKind.min,IntKind.max,IntKind.signed,IntKind.bits] at h
 omega
theorem wf_u16 {n:Int} (h:wfI .u16 n):0≤n∧n<65536:=by
 unfold wfI at h
 simp [Lit.wf,IntKind.min,IntKind.max,IntKind.signed,IntKind.bits] at h
 omega
theorem ok_bytes {x:Leaf} (h:okLeaf (.arr (.i .u8)) x):∃ l,x=.L l∧Bytes l:=by
 obtain ⟨l,e,h1,h2⟩:=ok_arr h
 refine ⟨l,e,by unfold maxLen at h1;omega,fun j=>?_⟩
 by_cases hj:j<l.length
 ·rw [List.getD_eq_getElem?_getD,List.getElem?_eq_getElem hj]
  exact wf_u8 (h2 _ (List.getElem_mem hj))
 ·rw [List.getD_eq_getElem?_getD,List.getElem?_eq_none (by omega)]
  decide
theorem raw34 {ps:List PV1} {ls:LS_} (h:okLs (.int .u8::.int .u8::.int .u8::.arr (.i .u8)::.int .u16::.arr (.i .u8)::.int .u16::ps) ls) :
  ∃ Q N K L num H gone ls',ls=.I Q::.I N::.I K::.L L::.I num::.L H::.I gone::ls'∧(0≤Q∧Q<256)∧(0≤N∧N<256)∧(0≤K∧K<256)∧Bytes L∧(0≤num∧num<65536)∧Bytes H∧okLs ps ls':=by
 obtain ⟨x0,l0,rfl,a0,g0⟩:=okLs_cons h
 obtain ⟨Q,rfl,h1⟩:=ok_int a0
 obtain ⟨x1,l1,rfl,a1,g1⟩:=okLs_cons g0
 obtain ⟨N,rfl,h2⟩:=ok_int a1
 obtain ⟨x2,l2,rfl,a2,g2⟩:=okLs_cons g1
 obtain ⟨K,rfl,h3⟩:=ok_int a2
 obtain ⟨x3,l3,rfl,a3,g3⟩:=okLs_cons g2
 obtain ⟨L,rfl,h4⟩:=ok_bytes a3
 obtain ⟨x4,l4,rfl,a4,g4⟩:=okLs_cons g3
 obtain ⟨num,rfl,h5⟩:=ok_int a4
 obtain ⟨x5,l5,rfl,a5,g5⟩:=okLs_cons g4
 obtain ⟨H,rfl,h6⟩:=ok_bytes a5
 obtain ⟨x6,l6,rfl,a6,g6⟩:=okLs_cons g5
 obtain ⟨gone,rfl,_⟩:=ok_int a6
 exact ⟨Q,N,K,L,num,H,gone,l6,rfl,wf_u8 h1,wf_u8 h2,wf_u8 h3,h4,wf_u16 h5,h6,g6⟩
structure Cs (q n:Nat) (G:List (List Int)) (s w g:List Int):Prop where
 cd:Cd q n G
 sent:s∈words q (fadd q) (fmul q) G (List.replicate n 0)
 wd:Wd q n w
 up:Up n g
theorem isRight_of {q n:Nat} {w g:List Int} (hw:Wd q n w) (hg:Up n g):isRight q n w g=true:=by
 unfold isRight
 rw [Bool.and_eq_true]
 exact ⟨isWord_iff.2 ⟨by rw [hw.1],fun i _ hi=>hw.2 i (by have:=hw.1;omega)⟩,hg.gone⟩
theorem Up.pos {n:Nat} {g:List Int} (h:Up n g):∀ k,k<g.length→0≤g.getD k 0:=fun k hk=>(h.2 k hk).1
theorem winR_eq {q n:Nat} {G:List (List Int)} {w g:List Int} (hg:∀ k,k<g.length→0≤g.getD k 0) (r:Int) :
  winR q n G w g r=(words q (fadd q) (fmul q) G (List.replicate n 0)).filter fun y=>decide (((far (lostI g) w y 0 n:Nat):Int)≤r):=by
 unfold winR
 congr 1
 funext y
 rw [far_eq hg]
section
variable {q n:Nat} {G:List (List Int)} {s w g:List Int}
theorem Cs.right (h:Cs q n G s w g):isRight q n w g=true:=isRight_of h.wd h.up
theorem Cs.gs (h:Cs q n G s w g):g.length<2^60:=by have:=h.up.1;have:=h.cd.n1;omega
theorem Cs.ws (h:Cs q n G s w g):∀ y∈words q (fadd q) (fmul q) G (List.replicate n 0),Wd q n y:=words_wd (fld q h.cd.fq) G _ h.cd.rows.wd (Wd.zeros (q:=q) (n:=n) (by have:=qs_lt h.cd.fq;omega))
theorem Cs.cnt (h:Cs q n G s w g):(words q (fadd q) (fmul q) G (List.replicate n 0)).length≤256:=by rw [words_len (n:=0) h.cd.fq];exact h.cd.count
end
theorem cd_c:Cd 2 3 [[1,1,1]] where
  fq:=by decide
  n0:=by decide
  n1:=by decide
  count:=by decide
  form:=⟨fun _=>0,
    { wd:=fun i hi=>by
        have:i=0:=by simpa using hi
        subst this
        refine ⟨rfl,fun j hj=>?_⟩
        rcases (show j=0∨j=1∨j=2 by omega) with rfl | rfl | rfl <;> decide
      lt:=fun i hi=>by decide
      mono:=fun i j hi hj=>by simp at hj;omega
      one:=fun i hi=>by
        have:i=0:=by simpa using hi
        subst this;rfl
      zero:=fun i k hi hk hne=>by
        simp at hi hk;omega
      lead:=fun i j hi hj=>by omega }⟩
theorem cd_two:Cd 2 2 [[1,1]] where
  fq:=by decide
  n0:=by decide
  n1:=by decide
  count:=by decide
  form:=⟨fun _=>0,
    { wd:=fun i hi=>by
        have:i=0:=by simpa using hi
        subst this
        refine ⟨rfl,fun j hj=>?_⟩
        rcases (show j=0∨j=1 by omega) with rfl | rfl <;> decide
      lt:=fun i hi=>by decide
      mono:=fun i j hi hj=>by simp at hj;omega
      one:=fun i hi=>by
        have:i=0:=by simpa using hi
        subst this;rfl
      zero:=fun i k hi hk hne=>by
        simp at hi hk;omega
      lead:=fun i j hi hj=>by omega }⟩
theorem ex1 {τ:Type} (k:Nat→LS_→Option τ):F28 [.I 2,.I 3,.LL [[1,1,1]],.L [0,1,1],.L [],.I 1] k=k 1 [.I 1,.I 1,.N 3,.L [1,1,1],.N 0,.LL []] :=
 (F28_of (fun {τ} κ=>T20_ok (q:=2) (n:=3) cd_c (w:=[0,1,1]) (g:=[]) (by kernel_rfl) (by decide) 1 κ) k).trans (by kernel_rfl)
theorem ex2 {τ:Type} (k:Nat→LS_→Option τ):F28 [.I 2,.I 3,.LL [[1,1,1]],.L [0,1,1],.L [0,1],.I 0] k=k 1 [.I 1,.I 0,.N 3,.L [1,1,1],.N 0,.LL []] :=
 (F28_of (fun {τ} κ=>T20_ok (q:=2) (n:=3) cd_c (w:=[0,1,1]) (g:=[0,1]) (by kernel_rfl) (by decide) 0 κ) k).trans (by kernel_rfl)
theorem ex3 {τ:Type} (k:Nat→LS_→Option τ):F28 [.I 2,.I 2,.LL [[1,1]],.L [0,1],.L [],.I 9] k=k 1 [.I 2,.I 1,.N 2,.L [0,0],.N 2,.LL [[0,0],[1,1]]] :=
 (F28_of (fun {τ} κ=>T20_ok (q:=2) (n:=2) cd_two (w:=[0,1]) (g:=[]) (by kernel_rfl) (by decide) 9 κ) k).trans (by kernel_rfl)
theorem ex4 {τ:Type} (k:Nat→LS_→Option τ):F28 [.I 2,.I 3,.LL [[1,1,1]],.L [0,1,1],.L [],.I 0] k=k 1 [.I 4,.I 0,.N 0,.L [],.N 0,.LL []] :=
 (F28_of (fun {τ} κ=>T20_ok (q:=2) (n:=3) cd_c (w:=[0,1,1]) (g:=[]) (by kernel_rfl) (by decide) 0 κ) k).trans (by kernel_rfl)
theorem ex5 {τ:Type} (k:Nat→LS_→Option τ):T18 [.I 2,.I 3,.LL [[1,1,1]],.L [0,1],.L [],.I 1] k=k 0 [.LL [],.I 1] :=
 T18_err0 (fun {τ} κ=>F18_wrong (q:=2) (by decide) 3 (by decide) (fun i=>by
  rcases i with _ | i
  ·decide
  ·simp) (by decide) (by decide) (by kernel_rfl) 1 κ) k
theorem short2 {L:List (List Int)} (h:∀ r∈L,r.length<2^60):∀ i,(L.getD i []).length<2^60:=fun i=>by
 by_cases hi:i<L.length
 ·rw [List.getD_eq_getElem?_getD,List.getElem?_eq_getElem hi]
  exact h _ (List.getElem_mem hi)
 ·rw [List.getD_eq_getElem?_getD,List.getElem?_eq_none (by omega)]
  decide
def T16 {τ:Type} (l:LS_) (k:Nat→LS_→Option τ):Option τ:=F16 l k
def T16.E:Ent P:=F16.E
theorem T16_spec {τ:Type} (k:Nat→LS_→Option τ):T16 [] k=k 0 [.B true]:=by
 unfold T16 F16 T28 T23
 rw [ex1]
 simp only [sw_succ,sw_zero]
 rw [ex2]
 simp only [sw_succ,sw_zero]
 rw [ex3]
 simp only [sw_succ,sw_zero]
 rw [ex5]
 simp only [g_,sw_succ,sw_zero]
 rw [ck_of (by simp),F23_spec (by decide) (by decide) (short2 (by simp)),decide_eq_true (by decide)]
 simp only [sw_succ,sw_zero,gB_zero]
 rw [br_of rfl,ck_of (by simp),F23_spec (by decide) (by decide) (short2 (by simp)),decide_eq_true (by decide)]
 simp only [sw_succ,sw_zero,gB_zero]
 rw [br_of rfl,ck_of (by simp),F23_spec (by decide) (by decide) (short2 (by simp)),decide_eq_true (by decide)]
 simp only [sw_succ,sw_zero,gB_zero]
 rw [br_of rfl,ex4]
 simp only [sw_succ,sw_zero,gI_zero]
 rw [br_of (show ((4:Int)==4)=true from rfl)]
 rfl
end
end Go.Proofs.Ytbpjicbpcfkpfaa.Ai
namespace Go.Proofs.Ytbpjicbpcfkpfaa.Ai
open Go Go.RowKit
noncomputable section
variable {τ:Type} (t:Nat) (nx ex:Nat→LS_→Option τ) (l:LS_) (k κ:Nat→LS_→Option τ)
def F24.ps:List PV2:=[(PV2.agg [iI,iI,aM]),(PV2.agg [aI,aI]),pI]
def F24.sh:List PA:=[(PA.mk (PV3.tup [qM,pB]) [])]
def F24.O:Orc P:=⟨[T18.E],[],[],40⟩
def F24:Option τ :=
 ck (((eqM (List.length (gLL l 2)) (List.length (gLL l 2)))&&true)&&(((eqM (List.length (gL l 3)) (List.length (gL l 3)))&&((eqM (List.length (gL l 4)) (List.length (gL l 4)))&&true))&&true))
 (T18 [.I (gI l 0),.I (gI l 1),.LL (gLL l 2),.L (gL l 3),.L (gL l 4),.I (gI l 5)]
 (fun j A=>(sw (k 0 [.N (List.length (gLL A 0)),.LL (gLL A 0),.B ((gI A 1)==0)])
 (fun _=>none)) j))
theorem F24.eq:FEq F24.O 24 F24.ps F24.sh F24:=by intro τ l κ;kernel_rfl
def F24.E:Ent P:=mkF F24.eq
end
end Go.Proofs.Ytbpjicbpcfkpfaa.Ai
namespace Go.Proofs.Ytbpjicbpcfkpfaa.Ai
open Go Ma
noncomputable section
def U28 {τ:Type} (l:LS_) (k:Nat→LS_→Option τ):Option τ:=wrapB F28.E (.v pReply) l k
def U28.E:Ent P:=F28.E.wrap (.v pReply)
theorem U28_of {q n:Int} {G:List (List Int)} {w g:List Int} {r a b:Int} {C:List Int} {L:List (List Int)} (h:∀ {τ:Type} (k:Nat→LS_→Option τ),T20 [.I q,.I n,.LL G,.L w,.L g,.I r] k=k 0 [.I a,.I b,.L C,.LL L,.I 0]) {τ:Type} (k:Nat→LS_→Option τ) :
  U28 [.I q,.I n,.LL G,.L w,.L g,.I r] k=k 0 [.I a,.I b,.L C,.LL L] :=
 wrap_of (e:=F28.E) (p:=.v pReply) (j:=1) (l2:=[.I a,.I b,.N C.length,.L C,.N L.length,.LL L]) (c:=true&&(true&&(true&&(true&&(true&&(decide (C.length=C.length)&&(decide (L.length=L.length)&&true))))))) (ls':=[.I a,.I b,.L C,.LL L]) (by intro τ κ;kernel_rfl) (by simp) (fun κ=>(F28_of h κ).trans (if_pos rfl))
theorem U28_ok {q n:Nat} {G:List (List Int)} {s w g:List Int} (C:Cs q n G s w g) (r:Int) {τ:Type} (k:Nat→LS_→Option τ):U28 [.I q,.I n,.LL G,.L w,.L g,.I r] k =
  k 0 [.I (howL (nearR q n G w g r)),.I (rad (fun y=>far (lostG n g) w y 0 n) (nearR q n G w g r)),.L ((nearR q n G w g r).getD 0 []),.LL (tied (nearR q n G w g r))] :=
 U28_of (fun {τ} κ=>T20_ok C.cd C.right C.gs r κ) k
def mn (d:List Int→Nat) (L:List (List Int)) (m:Nat):Nat:=L.foldl (fun m y=>min m (d y)) m
def T29 {τ:Type} (l:LS_) (k:Nat→LS_→Option τ):Option τ:=wrapB F29.E (.v pField) l k
def T29.E:Ent P:=F29.E.wrap (.v pField)
theorem T29_spec {q:Nat} (hq:q∈Qs) {τ:Type} (k:Nat→LS_→Option τ):T29 [.I q] k=k 0 [.I (fp q),.I (fe q),.L (fm q)]:=by
 have h:=fun {τ:Type} (κ:Nat→LS_→Option τ)=>F29_spec hq κ
 generalize fm q=M at h ⊢
 have:=wrap_of (e:=F29.E) (p:=.v pField) (j:=0) (l2:=[.I (fp q),.I (fe q),.N M.length,.L M]) (c:=true&&(true&&(true&&(true&&(true&&(decide (M.length=(List.take (M.length*1) (List.drop 0 M)).length)&&true)))))) (ls':=[.I (fp q),.I (fe q),.L (List.take (M.length*1) (List.drop 0 M))]) (by intro τ κ;kernel_rfl) (by simp) (k:=k) (fun κ=>h κ)
 rw [Nat.mul_one,List.drop_zero,List.take_length] at this
 exact this
end
end Go.Proofs.Ytbpjicbpcfkpfaa.Ai
namespace Go.Proofs.Ytbpjicbpcfkpfaa.Ai
open Go Go.RowKit
noncomputable section
variable {τ:Type} (t:Nat) (nx ex:Nat→LS_→Option τ) (l:LS_) (k κ:Nat→LS_→Option τ)
def io0:List PO:=[(oG [pI,pI,qM,qR,qR,qR,pI]),(oG [pI,pI,qR]),(oG [(rr 3),qR]),oI]
def L6_9.H:LHead:=⟨false,true,0,24585,24585,16262,8068,0,[(PS.mk (us 1 ((pK IntKind.u8)::(pK IntKind.u8)::us 4 (pB::(pp 0)::(pp 1)::qM::qR::(pp 2)::pI::us 176 []))) io0)],[((Out.exit 0),(PS.mk (us 2 ((pK IntKind.u8)::us 4 (pB::(pp 0)::(pp 1)::qM::qR::(pp 2)::us 177 []))) io0))]⟩
def L6_9.O:Orc P:=⟨[],[],[],40⟩
def L6_9.s0:Option τ :=
 br (ltI (gI l 7) (gN l 24))
 (ck (((leI 0 (gI l 7))&&(ltI (gI l 7) (gN l 24)))&&true)
 (ck (ltN ((Int.toNat (gI l 7))*1) (List.length (gL l 25)))
 (ck (((leI 0 (gI l 7))&&(ltI (gI l 7) (gN l 24)))&&true)
 (ck (ltN ((Int.toNat (gI l 7))*1) (List.length (gL l 25)))
 (ck (((leI 0 (List.getD (gL l 25) ((Int.toNat (gI l 7))*1) 0))&&(ltI (List.getD (gL l 25) ((Int.toNat (gI l 7))*1) 0) (((gN l 23):Nat):Int)))&&true)
 (ck (ltN (0+((Int.toNat (List.getD (gL l 25) ((Int.toNat (gI l 7))*1) 0))*1)) (List.length (gL l 26)))
 (ck (!((gI l 8)==0))
 (ck (((leI 0 (List.getD (gL l 25) ((Int.toNat (gI l 7))*1) 0))&&(ltI (List.getD (gL l 25) ((Int.toNat (gI l 7))*1) 0) (((gN l 23):Nat):Int)))&&true)
 (ck ((leN ((0+((Int.toNat (List.getD (gL l 25) ((Int.toNat (gI l 7))*1) 0))*1))+1) (List.length (gL l 26)))&&true)
 (nx 0 [.I (gI l 0),.I (gI l 1),.B (gB l 2),.N (gN l 3),.LL (gLL l 4),.N (gN l 5),.L (gL l 6),.I (wr .i64 ((gI l 7)+1)),.I (gI l 8),.I (gI l 9),.N (gN l 10),.LL (gLL l 11),.N (gN l 12),.L (gL l 13),.N (gN l 14),.L (gL l 15),.N (gN l 16),.L (gL l 17),.I (gI l 18),.I (gI l 19),.I (gI l 20),.N (gN l 21),.L (gL l 22),.N (gN l 23),.N (gN l 24),.L (gL l 25),.L (List.set (gL l 26) (0+((Int.toNat (List.getD (gL l 25) ((Int.toNat (gI l 7))*1) 0))*1)) (Int.tmod (wr .i64 ((List.getD (gL l 26) (0+((Int.toNat (List.getD (gL l 25) ((Int.toNat (gI l 7))*1) 0))*1)) 0)+(wr .i64 (gI l 0)))) (gI l 8)))]))))))))))
 (ex 0 [.I (gI l 1),.B (gB l 2),.N (gN l 3),.LL (gLL l 4),.N (gN l 5),.L (gL l 6),.I (gI l 8),.I (gI l 9),.N (gN l 10),.LL (gLL l 11),.N (gN l 12),.L (gL l 13),.N (gN l 14),.L (gL l 15),.N (gN l 16),.L (gL l 17),.I (gI l 18),.I (gI l 19),.I (gI l 20),.N (gN l 21),.L (gL l 22),.N (gN l 23),.N (gN l 24),.L (gL l 25),.L (gL l 26)])
theorem L6_9.e0:LEq L6_9.O L6_9.H 0 L6_9.s0:=by intro τ next κ l;kernel_rfl
def L6_9:LStep P Cf:=LStep.mk1 (by decide) L6_9.e0
def L6_9.b:Option τ:=runE L6_9 fuel κ t l
def L6_9.E:LEnt P:=LStep.E L6_9
def L6_22.H:LHead:=⟨false,true,0,24598,24598,3837888,1740736,0,[(PS.mk (us 7 (pB::(pp 0)::(pp 1)::qM::qR::us 3 (qM::us 1 (qM::us 1 (pI::pB::pI::us 168 []))))) [(oG [pI,pI,qM,qR,qR,qR,pI]),(oG [pI,pI,qR])])],[((Out.exit 4),(PS.mk (us 7 (pB::(pp 0)::(pp 1)::qM::qR::us 3 (qM::us 1 (qM::us 1 (pI::pB::us 169 []))))) [(oG [pI,pI,qM,qR,qR,qR,pI]),(oG [pI,pI,qR])]))]⟩
def L6_22.O:Orc P:=⟨[F30.E,F27.E],[],[],40⟩
def L6_22.s0:Option τ :=
 br (ltI (gI l 11) (gN l 7))
 (br (gB l 10)
 (nx 0 [.B (gB l 0),.N (gN l 1),.LL (gLL l 2),.N (gN l 3),.L (gL l 4),.N (gN l 5),.LL (gLL l 6),.N (gN l 7),.LL (gLL l 8),.I (gI l 9),.B true,.I (wr .i64 ((gI l 11)+1)),.I (gI l 12),.I (gI l 13),.N (gN l 14),.LL (gLL l 15),.N (gN l 16),.L (gL l 17),.N (gN l 18),.L (gL l 19),.N (gN l 20),.L (gL l 21),.I (gI l 22),.I (gI l 23),.I (gI l 24),.N (gN l 25),.L (gL l 26)])
 (ck (((leI 0 (gI l 11))&&(ltI (gI l 11) (gN l 7)))&&true)
 (ck (ltN ((Int.toNat (gI l 11))*1) (List.length (gLL l 8)))
 (ck (((leI 0 (gI l 9))&&(ltI (gI l 9) (gN l 5)))&&true)
 (ck (ltN ((Int.toNat (gI l 9))*1) (List.length (gLL l 6)))
 (ck (((eqM (gN l 25) (List.length (gL l 26)))&&true)&&((eqM (List.length (List.getD (gLL l 6) ((Int.toNat (gI l 9))*1) [])) (List.length (List.getD (gLL l 6) ((Int.toNat (gI l 9))*1) [])))&&((eqM (gN l 3) (List.length (gL l 4)))&&true)))
 (F30 [.I (gI l 23),.I (gI l 24),.L (gL l 26),.L (List.getD (gLL l 6) ((Int.toNat (gI l 9))*1) []),.L (gL l 4)]
 (fun j A=>(sw (ck ((eqM (List.length (List.getD (gLL l 8) ((Int.toNat (gI l 11))*1) [])) (List.length (List.getD (gLL l 8) ((Int.toNat (gI l 11))*1) [])))&&((eqM (gN A 0) (List.length (List.take ((gN A 0)*1) (List.drop 0 (gL A 1)))))&&true))
 (F27 [.L (List.getD (gLL l 8) ((Int.toNat (gI l 11))*1) []),.L (List.take ((gN A 0)*1) (List.drop 0 (gL A 1)))]
 (fun j B=>(sw (nx 0 [.B (gB l 0),.N (gN l 1),.LL (gLL l 2),.N (gN l 3),.L (gL l 4),.N (gN l 5),.LL (gLL l 6),.N (gN l 7),.LL (gLL l 8),.I (gI l 9),.B (gB B 0),.I (wr .i64 ((gI l 11)+1)),.I (gI l 12),.I (gI l 13),.N (gN l 14),.LL (gLL l 15),.N (gN l 16),.L (gL l 17),.N (gN l 18),.L (gL l 19),.N (gN l 20),.L (gL l 21),.I (gI l 22),.I (gI l 23),.I (gI l 24),.N (gN l 25),.L (gL l 26)])
 (fun _=>none)) j)))
 (fun _=>none)) j))))))))
 (ex 0 [.B (gB l 0),.N (gN l 1),.LL (gLL l 2),.N (gN l 3),.L (gL l 4),.N (gN l 5),.LL (gLL l 6),.N (gN l 7),.LL (gLL l 8),.I (gI l 9),.B (gB l 10),.I (gI l 12),.I (gI l 13),.N (gN l 14),.LL (gLL l 15),.N (gN l 16),.L (gL l 17),.N (gN l 18),.L (gL l 19),.N (gN l 20),.L (gL l 21),.I (gI l 22),.I (gI l 23),.I (gI l 24),.N (gN l 25),.L (gL l 26)])
theorem L6_22.e0:LEq L6_22.O L6_22.H 0 L6_22.s0:=by intro τ next κ l;kernel_rfl
def L6_22:LStep P Cf:=LStep.mk1 (by decide) L6_22.e0
def L6_22.b:Option τ:=runE L6_22 fuel κ t l
def L6_22.E:LEnt P:=LStep.E L6_22
def L6_18.H:LHead:=⟨false,true,0,24594,24594,692160,1472,0,[(PS.mk (us 7 (pB::(pp 0)::(pp 1)::qM::qR::us 3 (qM::us 1 (qM::us 1 (pI::us 170 []))))) [(oG [pI,pI,qM,qR,qR,qR,pI]),(oG [pI,pI,qR])])],[(Out.ret,(PS.mk (us 6 (pB::pB::(pp 0)::us 1 (qM::us 179 []))) [(oG [pI,pI,qM,qR,qR,qR,pI])])),((Out.exit 2),(PS.mk (us 7 (pB::(pp 0)::us 1 (qM::us 179 []))) [(oG [pI,pI,qM,qR,qR,qR,pI])]))]⟩
def L6_18.O:Orc P:=⟨[],[L6_22.E],[],40⟩
def L6_18.s0:Option τ :=
 br (ltI (gI l 9) (gN l 5))
 (L6_22.b 0 [.B (gB l 0),.N (gN l 1),.LL (gLL l 2),.N (gN l 3),.L (gL l 4),.N (gN l 5),.LL (gLL l 6),.N (gN l 7),.LL (gLL l 8),.I (gI l 9),.B false,.I 0,.I (gI l 10),.I (gI l 11),.N (gN l 12),.LL (gLL l 13),.N (gN l 14),.L (gL l 15),.N (gN l 16),.L (gL l 17),.N (gN l 18),.L (gL l 19),.I (gI l 20),.I (gI l 21),.I (gI l 22),.N (gN l 23),.L (gL l 24)]
 (fun j A=>(sw (br (!(gB A 10))
 (ex 0 [.B false,.B (gB A 0),.N (gN A 1),.LL (gLL A 2),.I (gI A 11),.I (gI A 12),.N (gN A 13),.LL (gLL A 14),.N (gN A 15),.L (gL A 16),.N (gN A 17),.L (gL A 18),.N (gN A 19),.L (gL A 20),.I (gI A 21)])
 (nx 0 [.B (gB A 0),.N (gN A 1),.LL (gLL A 2),.N (gN A 3),.L (gL A 4),.N (gN A 5),.LL (gLL A 6),.N (gN A 7),.LL (gLL A 8),.I (wr .i64 ((gI A 9)+1)),.I (gI A 11),.I (gI A 12),.N (gN A 13),.LL (gLL A 14),.N (gN A 15),.L (gL A 16),.N (gN A 17),.L (gL A 18),.N (gN A 19),.L (gL A 20),.I (gI A 21),.I (gI A 22),.I (gI A 23),.N (gN A 24),.L (gL A 25)]))
 (fun _=>none)) j))
 (ex 1 [.B (gB l 0),.N (gN l 1),.LL (gLL l 2),.I (gI l 10),.I (gI l 11),.N (gN l 12),.LL (gLL l 13),.N (gN l 14),.L (gL l 15),.N (gN l 16),.L (gL l 17),.N (gN l 18),.L (gL l 19),.I (gI l 20)])
theorem L6_18.e0:LEq L6_18.O L6_18.H 0 L6_18.s0:=by intro τ next κ l;kernel_rfl
def L6_18:LStep P Cf:=LStep.mk1 (by decide) L6_18.e0
def L6_18.b:Option τ:=runE L6_18 fuel κ t l
def L6_18.E:LEnt P:=LStep.E L6_18
def L6_29.H:LHead:=⟨false,true,0,24605,24605,12584320,4195712,0,[(PS.mk (us 7 (pB::(pp 0)::us 1 (qM::us 11 ((pp 1)::pI::us 166 [])))) [(oG [pI,pI,qM,qR,qR,qR,pI]),(oG [qR,nS])]),(PS.mk (us 7 (pB::(pp 0)::us 1 (qM::us 11 ((pp 1)::pI::us 166 [])))) [(oG [pI,pI,qM,qR,qR,qR,pI]),(oG [qR,(rr 2)]),oI])],[((Out.exit 6),(PS.mk (us 7 (pB::(pp 0)::us 1 (qM::us 11 ((pp 1)::us 167 [])))) [(oG [pI,pI,qM,qR,qR,qR,pI]),(oG [qR,nS])])),((Out.exit 6),(PS.mk (us 7 (pB::(pp 0)::us 1 (qM::us 11 ((pp 1)::us 167 [])))) [(oG [pI,pI,qM,qR,qR,qR,pI]),(oG [qR,(rr 2)]),oI]))]⟩
def L6_29.O:Orc P:=⟨[],[],[],40⟩
def L6_29.s0:Option τ :=
 br (ltI (gI l 3) (gI l 5))
 (nx 1 [.B (gB l 0),.N (gN l 1),.LL (gLL l 2),.I (wr .i64 ((gI l 3)+1)),.I (gI l 4),.I (gI l 5),.N (gN l 6),.LL (gLL l 7),.N (gN l 8),.L (gL l 9),.N (gN l 10),.L (gL l 11),.N (gN l 12),.L (gL l 13),.I (gI l 14),.N (gN l 15),.L (gL l 16),.N 1,.L (List.take 1 (List.drop 0 [(gI l 3)]))])
 (ex 0 [.B (gB l 0),.N (gN l 1),.LL (gLL l 2),.I (gI l 4),.I (gI l 5),.N (gN l 6),.LL (gLL l 7),.N (gN l 8),.L (gL l 9),.N (gN l 10),.L (gL l 11),.N (gN l 12),.L (gL l 13),.I (gI l 14),.N (gN l 15),.L (gL l 16)])
theorem L6_29.e0:LEq L6_29.O L6_29.H 0 L6_29.s0:=by intro τ next κ l;kernel_rfl
def L6_29.s1:Option τ :=
 br (ltI (gI l 3) (gI l 5))
 (ck (((((eqM (List.length (gL l 18)) ((gN l 17)*1))&&true)&&(eqM 1 1))&&(leN (((gN l 17)+1)*9) 1099511627776))&&true)
 (nx 1 [.B (gB l 0),.N (gN l 1),.LL (gLL l 2),.I (wr .i64 ((gI l 3)+1)),.I (gI l 4),.I (gI l 5),.N (gN l 6),.LL (gLL l 7),.N (gN l 8),.L (gL l 9),.N (gN l 10),.L (gL l 11),.N (gN l 12),.L (gL l 13),.I (gI l 14),.N (gN l 15),.L (gL l 16),.N ((gN l 17)+1),.L ((gL l 18)++(List.take 1 (List.drop 0 [(gI l 3)])))]))
 (ex 1 [.B (gB l 0),.N (gN l 1),.LL (gLL l 2),.I (gI l 4),.I (gI l 5),.N (gN l 6),.LL (gLL l 7),.N (gN l 8),.L (gL l 9),.N (gN l 10),.L (gL l 11),.N (gN l 12),.L (gL l 13),.I (gI l 14),.N (gN l 15),.L (gL l 16),.N (gN l 17),.L (gL l 18)])
theorem L6_29.e1:LEq L6_29.O L6_29.H 1 L6_29.s1:=by intro τ next κ l;kernel_rfl
def L6_29:LStep P Cf:=LStep.mk2 (by decide) L6_29.e0 L6_29.e1
def L6_29.b:Option τ:=runE L6_29 fuel κ t l
def L6_29.E:LEnt P:=LStep.E L6_29
def F6.ps:List PV2:=[pRaw34,(pK IntKind.u8),(pK IntKind.u8)]
def F6.sh:List PA:=[(PA.mk (PV3.v pB) [])]
def F6.O:Orc P:=⟨[T16.E,T17.E,T29.E,T25.E,F30.E,F24.E,F22.E,U28.E],[L6_9.E,L6_18.E,L6_29.E],[],40⟩
def F6:Option τ :=
 T16 []
 (fun j A=>(sw (br (!(gB A 0))
 (k 0 [.B false])
 (ck (((eqM (List.length (gL l 3)) (List.length (gL l 3)))&&((eqM (List.length (gL l 5)) (List.length (gL l 5)))&&true))&&true)
 (T17 [.I (gI l 0),.I (gI l 1),.I (gI l 2),.L (gL l 3),.I (gI l 4),.L (gL l 5),.I (gI l 6)]
 (fun j B=>(sw (T29 [.I (gI B 0)]
 (fun j C=>(sw (ck (((eqM (List.length (gLL B 2)) (List.length (gLL B 2)))&&true)&&true)
 (T25 [.I (gI B 0),.I (gI B 1),.LL (gLL B 2)]
 (fun j D=>(sw (ck (!((((List.length (gLL D 0)):Nat):Int)==0))
 (ck (((leI 0 (Int.tmod (wr .i64 (gI l 7)) (((List.length (gLL D 0)):Nat):Int)))&&(ltI (Int.tmod (wr .i64 (gI l 7)) (((List.length (gLL D 0)):Nat):Int)) (((List.length (gLL D 0)):Nat):Int)))&&true)
 (ck (ltN ((Int.toNat (Int.tmod (wr .i64 (gI l 7)) (((List.length (gLL D 0)):Nat):Int)))*1) (List.length (gLL D 0)))
 (ck (((eqM (List.length (gL C 2)) (List.length (gL C 2)))&&true)&&((eqM (List.length (gL B 4)) (List.length (gL B 4)))&&((eqM (List.length (List.getD (gLL D 0) ((Int.toNat (Int.tmod (wr .i64 (gI l 7)) (((List.length (gLL D 0)):Nat):Int)))*1) [])) (List.length (List.getD (gLL D 0) ((Int.toNat (Int.tmod (wr .i64 (gI l 7)) (((List.length (gLL D 0)):Nat):Int)))*1) [])))&&true)))
 (F30 [.I (gI C 0),.I (gI C 1),.L (gL C 2),.L (gL B 4),.L (List.getD (gLL D 0) ((Int.toNat (Int.tmod (wr .i64 (gI l 7)) (((List.length (gLL D 0)):Nat):Int)))*1) [])]
 (fun j E=>(sw (L6_9.b 0 [.I (gI l 7),.I (gI l 8),.B (gB A 0),.N (List.length (gLL D 0)),.LL (gLL D 0),.N (List.length (List.getD (gLL D 0) ((Int.toNat (Int.tmod (wr .i64 (gI l 7)) (((List.length (gLL D 0)):Nat):Int)))*1) [])),.L (List.getD (gLL D 0) ((Int.toNat (Int.tmod (wr .i64 (gI l 7)) (((List.length (gLL D 0)):Nat):Int)))*1) []),.I 0,.I (gI B 0),.I (gI B 1),.N (List.length (gLL B 2)),.LL (gLL B 2),.N (List.length (gL B 3)),.L (gL B 3),.N (List.length (gL B 4)),.L (gL B 4),.N (List.length (gL B 5)),.L (gL B 5),.I (gI B 6),.I (gI C 0),.I (gI C 1),.N (List.length (gL C 2)),.L (gL C 2),.N (gN E 0),.N (List.length (gL B 5)),.L (gL B 5),.L (gL E 1)]
 (fun j F=>(sw (ck (((eqM (gN F 8) (List.length (gLL F 9)))&&true)&&(((eqM (gN F 12) (List.length (gL F 13)))&&((eqM (gN F 14) (List.length (gL F 15)))&&true))&&true))
 (F24 [.I (gI F 6),.I (gI F 7),.LL (gLL F 9),.L (gL F 13),.L (gL F 15),.I (wr .i64 (Int.tmod (gI F 0) 12))]
 (fun j G=>(sw (ck (((eqM (gN F 8) (List.length (gLL F 9)))&&true)&&(((eqM (gN F 21) (List.length (List.take ((gN F 21)*1) (List.drop 0 (gL F 24)))))&&((eqM (gN F 22) (List.length (gL F 23)))&&true))&&true))
 (F24 [.I (gI F 6),.I (gI F 7),.LL (gLL F 9),.L (List.take ((gN F 21)*1) (List.drop 0 (gL F 24))),.L (gL F 23),.I (wr .i64 (Int.tmod (gI F 0) 12))]
 (fun j H=>(sw (br (!(gB G 2))
 (k 0 [.B false])
 (br (!(gB H 2))
 (k 0 [.B false])
 (br ((((gN G 0):Nat):Int) != (((gN H 0):Nat):Int))
 (k 0 [.B false])
 (L6_18.b 0 [.B (gB F 1),.N (gN F 2),.LL (gLL F 3),.N (gN F 4),.L (gL F 5),.N (gN G 0),.LL (gLL G 1),.N (gN H 0),.LL (gLL H 1),.I 0,.I (gI F 6),.I (gI F 7),.N (gN F 8),.LL (gLL F 9),.N (gN F 10),.L (gL F 11),.N (gN F 12),.L (gL F 13),.N (gN F 14),.L (gL F 15),.I (gI F 16),.I (gI F 17),.I (gI F 18),.N (gN F 19),.L (gL F 20)]
 (fun j M=>(sw (k 0 [.B (gB M 0)])
 (sw (L6_29.b 0 [.B (gB M 0),.N (gN M 1),.LL (gLL M 2),.I 0,.I (gI M 3),.I (gI M 4),.N (gN M 5),.LL (gLL M 6),.N (gN M 7),.L (gL M 8),.N (gN M 9),.L (gL M 10),.N (gN M 11),.L (gL M 12),.I (gI M 13),.N (gN M 9),.L (gL M 10)]
 (fun j N=>(sw (ck (((eqM (gN N 5) (List.length (gLL N 6)))&&true)&&(((eqM (gN N 14) (List.length (gL N 15)))&&true)&&true))
 (F24 [.I (gI N 3),.I (gI N 4),.LL (gLL N 6),.L (gL N 15),.L [],.I 0]
 (fun j Q=>(sw (br (gB Q 2)
 (ck ((eqM (gN Q 0) (List.length (gLL Q 1)))&&((eqM (gN N 1) (List.length (gLL N 2)))&&true))
 (F22 [.LL (gLL Q 1),.LL (gLL N 2)]
 (fun j S=>(sw (br (gB S 0)
 (ck (((eqM (gN N 5) (List.length (gLL N 6)))&&true)&&(((eqM (gN N 14) (List.length (gL N 15)))&&true)&&true))
 (U28 [.I (gI N 3),.I (gI N 4),.LL (gLL N 6),.L (gL N 15),.L [],.I 0]
 (fun j T=>(sw (br ((gI T 1)==0)
 (k 0 [.B (gB N 0)])
 (k 0 [.B false]))
 (fun _=>none)) j)))
 (k 0 [.B false]))
 (fun _=>none)) j)))
 (k 0 [.B false]))
 (fun _=>none)) j)))
 (sw (ck (((eqM (gN N 5) (List.length (gLL N 6)))&&true)&&(((eqM (gN N 14) (List.length (gL N 15)))&&((eqM (gN N 16) (List.length (List.take ((gN N 16)*1) (List.drop 0 (gL N 17)))))&&true))&&true))
 (F24 [.I (gI N 3),.I (gI N 4),.LL (gLL N 6),.L (gL N 15),.L (List.take ((gN N 16)*1) (List.drop 0 (gL N 17))),.I 0]
 (fun j Q=>(sw (br (gB Q 2)
 (ck ((eqM (gN Q 0) (List.length (gLL Q 1)))&&((eqM (gN N 1) (List.length (gLL N 2)))&&true))
 (F22 [.LL (gLL Q 1),.LL (gLL N 2)]
 (fun j S=>(sw (br (gB S 0)
 (ck (((eqM (gN N 5) (List.length (gLL N 6)))&&true)&&(((eqM (gN N 14) (List.length (gL N 15)))&&((eqM (gN N 16) (List.length (List.take ((gN N 16)*1) (List.drop 0 (gL N 17)))))&&true))&&true))
 (U28 [.I (gI N 3),.I (gI N 4),.LL (gLL N 6),.L (gL N 15),.L (List.take ((gN N 16)*1) (List.drop 0 (gL N 17))),.I 0]
 (fun j T=>(sw (br ((gI T 1)==0)
 (k 0 [.B (gB N 0)])
 (k 0 [.B false]))
 (fun _=>none)) j)))
 (k 0 [.B false]))
 (fun _=>none)) j)))
 (k 0 [.B false]))
 (fun _=>none)) j)))
 (fun _=>none))) j))
 (fun _=>none))) j)))))
 (fun _=>none)) j)))
 (fun _=>none)) j)))
 (fun _=>none)) j))
 (fun _=>none)) j))))))
 (fun _=>none)) j)))
 (fun _=>none)) j))
 (fun _=>none)) j))))
 (fun _=>none)) j)
theorem F6.eq:FEq F6.O 6 F6.ps F6.sh F6:=by intro τ l κ;kernel_rfl
def F6.E:Ent P:=mkF F6.eq
end
end Go.Proofs.Ytbpjicbpcfkpfaa.Ai
namespace Go.Proofs.Ytbpjicbpcfkpfaa.Ai
open Go Go.RowKit
noncomputable section
variable {τ:Type} (t:Nat) (nx ex:Nat→LS_→Option τ) (l:LS_) (k κ:Nat→LS_→Option τ)
end
end Go.Proofs.Ytbpjicbpcfkpfaa.Ai
namespace Go.Proofs.Ytbpjicbpcfkpfaa.Ai
open Go Ma
noncomputable section
theorem winR_len {q n:Nat} {G:List (List Int)} (hc:Cd q n G) (w g:List Int) (r:Int):(winR q n G w g r).length≤256 :=
 Nat.le_trans (List.length_filter_le _ _) (by rw [words_len (n:=n) hc.fq];exact hc.count)
def T19 {τ:Type} (l:LS_) (k:Nat→LS_→Option τ):Option τ:=wrapB F19.E (.tup [pM,pI]) l k
def T19.E:Ent P:=F19.E.wrap (.tup [pM,pI])
def T21 {τ:Type} (l:LS_) (k:Nat→LS_→Option τ):Option τ:=wrapB F21.E (.tup [pReply,pI]) l k
def T21.E:Ent P:=F21.E.wrap (.tup [pReply,pI])
end
end Go.Proofs.Ytbpjicbpcfkpfaa.Ai
namespace Go.Proofs.Ytbpjicbpcfkpfaa.Ai
open Go Go.RowKit
noncomputable section
variable {τ:Type} (t:Nat) (nx ex:Nat→LS_→Option τ) (l:LS_) (k κ:Nat→LS_→Option τ)
def F3.ps:List PV2:=[pRaw34,pI,pNoisy]
def F3.sh:List PA:=[(PA.mk (PV3.v pB) [])]
def F3.O:Orc P:=⟨[T16.E,T17.E,T18.E,T19.E,T20.E,T21.E,F22.E,F23.E],[],[],40⟩
def F3:Option τ :=
 T16 []
 (fun j A=>(sw (br (!(gB A 0))
 (k 0 [.B false])
 (br (gtI (((List.length (gL l 8)):Nat):Int) 40)
 (k 0 [.B (gB A 0)])
 (br (gtI (((List.length (gL l 9)):Nat):Int) 40)
 (k 0 [.B (gB A 0)])
 (ck (((eqM (List.length (gL l 3)) (List.length (gL l 3)))&&((eqM (List.length (gL l 5)) (List.length (gL l 5)))&&true))&&true)
 (T17 [.I (gI l 0),.I (gI l 1),.I (gI l 2),.L (gL l 3),.I (gI l 4),.L (gL l 5),.I (gI l 6)]
 (fun j B=>(sw (ck (((eqM (List.length (gLL B 2)) (List.length (gLL B 2)))&&true)&&(((eqM (List.length (gL B 4)) (List.length (gL B 4)))&&((eqM (List.length (gL B 5)) (List.length (gL B 5)))&&true))&&true))
 (T18 [.I (gI B 0),.I (gI B 1),.LL (gLL B 2),.L (gL B 4),.L (gL B 5),.I (gI l 7)]
 (fun j C=>(sw (ck (((eqM (List.length (gLL B 2)) (List.length (gLL B 2)))&&true)&&(((eqM (List.length (gL B 4)) (List.length (gL B 4)))&&((eqM (List.length (gL B 5)) (List.length (gL B 5)))&&true))&&true))
 (T19 [.I (gI B 0),.I (gI B 1),.LL (gLL B 2),.L (gL B 4),.L (gL B 5),.I (gI l 7)]
 (fun j D=>(sw (ck (((eqM (List.length (gLL B 2)) (List.length (gLL B 2)))&&true)&&(((eqM (List.length (gL B 4)) (List.length (gL B 4)))&&((eqM (List.length (gL B 5)) (List.length (gL B 5)))&&true))&&true))
 (T20 [.I (gI B 0),.I (gI B 1),.LL (gLL B 2),.L (gL B 4),.L (gL B 5),.I (gI l 7)]
 (fun j E=>(sw (ck (((eqM (List.length (gLL B 2)) (List.length (gLL B 2)))&&true)&&(((eqM (List.length (gL B 4)) (List.length (gL B 4)))&&((eqM (List.length (gL B 5)) (List.length (gL B 5)))&&true))&&true))
 (T21 [.I (gI B 0),.I (gI B 1),.LL (gLL B 2),.L (gL B 4),.L (gL B 5),.I (gI l 7)]
 (fun j F=>(sw (br ((gI C 1) != (gI D 1))
 (k 0 [.B false])
 (br ((gI E 4) != (gI F 4))
 (k 0 [.B false])
 (ck ((eqM (List.length (gLL C 0)) (List.length (gLL C 0)))&&((eqM (List.length (gLL D 0)) (List.length (gLL D 0)))&&true))
 (F22 [.LL (gLL C 0),.LL (gLL D 0)]
 (fun j G=>(sw (br (!(gB G 0))
 (k 0 [.B false])
 (ck (((eqM (List.length (gL E 2)) (List.length (gL E 2)))&&((eqM (List.length (gLL E 3)) (List.length (gLL E 3)))&&true))&&(((eqM (List.length (gL F 2)) (List.length (gL F 2)))&&((eqM (List.length (gLL F 3)) (List.length (gLL F 3)))&&true))&&true))
 (F23 [.I (gI E 0),.I (gI E 1),.L (gL E 2),.LL (gLL E 3),.I (gI F 0),.I (gI F 1),.L (gL F 2),.LL (gLL F 3)]
 (fun j H=>(sw (br (!(gB H 0))
 (k 0 [.B false])
 (ck (((eqM (List.length (gLL B 2)) (List.length (gLL B 2)))&&true)&&(((eqM (List.length (gL l 8)) (List.length (gL l 8)))&&((eqM (List.length (gL l 9)) (List.length (gL l 9)))&&true))&&true))
 (T20 [.I (gI B 0),.I (gI B 1),.LL (gLL B 2),.L (gL l 8),.L (gL l 9),.I (gI l 7)]
 (fun j M=>(sw (ck (((eqM (List.length (gLL B 2)) (List.length (gLL B 2)))&&true)&&(((eqM (List.length (gL l 8)) (List.length (gL l 8)))&&((eqM (List.length (gL l 9)) (List.length (gL l 9)))&&true))&&true))
 (T21 [.I (gI B 0),.I (gI B 1),.LL (gLL B 2),.L (gL l 8),.L (gL l 9),.I (gI l 7)]
 (fun j N=>(sw (ck (((eqM (List.length (gLL B 2)) (List.length (gLL B 2)))&&true)&&(((eqM (List.length (gL l 8)) (List.length (gL l 8)))&&((eqM (List.length (gL l 9)) (List.length (gL l 9)))&&true))&&true))
 (T18 [.I (gI B 0),.I (gI B 1),.LL (gLL B 2),.L (gL l 8),.L (gL l 9),.I (gI l 7)]
 (fun j Q=>(sw (br ((gI M 4)==(gI N 4))
 (br ((gI Q 1)==(gI N 4))
 (ck (((eqM (List.length (gL M 2)) (List.length (gL M 2)))&&((eqM (List.length (gLL M 3)) (List.length (gLL M 3)))&&true))&&(((eqM (List.length (gL N 2)) (List.length (gL N 2)))&&((eqM (List.length (gLL N 3)) (List.length (gLL N 3)))&&true))&&true))
 (F23 [.I (gI M 0),.I (gI M 1),.L (gL M 2),.LL (gLL M 3),.I (gI N 0),.I (gI N 1),.L (gL N 2),.LL (gLL N 3)]
 (fun j S=>(sw (br (gB S 0)
 (k 0 [.B (gB A 0)])
 (k 0 [.B false]))
 (fun _=>none)) j)))
 (k 0 [.B false]))
 (k 0 [.B false]))
 (fun _=>none)) j)))
 (fun _=>none)) j)))
 (fun _=>none)) j))))
 (fun _=>none)) j))))
 (fun _=>none)) j)))))
 (fun _=>none)) j)))
 (fun _=>none)) j)))
 (fun _=>none)) j)))
 (fun _=>none)) j)))
 (fun _=>none)) j))))))
 (fun _=>none)) j)
theorem F3.eq:FEq F3.O 3 F3.ps F3.sh F3:=by intro τ l κ;kernel_rfl
def F3.E:Ent P:=mkF F3.eq
end
end Go.Proofs.Ytbpjicbpcfkpfaa.Ai
namespace Go.Proofs.Ytbpjicbpcfkpfaa.Ai
open Go Ma
noncomputable section
section
variable {q n:Nat} {G:List (List Int)} {s w g:List Int}
end
end
end Go.Proofs.Ytbpjicbpcfkpfaa.Ai
namespace Go.Proofs.Ytbpjicbpcfkpfaa.Ai
open Go Ma
noncomputable section
theorem F24_spec {q n:Nat} {G:List (List Int)} {s w g:List Int} (h:Cs q n G s w g) (r:Int) {τ:Type} (k:Nat→LS_→Option τ):F24 [.I q,.I n,.LL G,.L w,.L g,.I r] k=k 0 [.N (winR q n G w g r).length,.LL (winR q n G w g r),.B true]:=by
 unfold F24
 simp only [g_]
 rw [ck_of (by simp),T18_ok h.cd h.right h.gs]
 rfl
end
end Go.Proofs.Ytbpjicbpcfkpfaa.Ai
namespace Go.Proofs.Ytbpjicbpcfkpfaa.Ma
section
variable {q n:Nat} {add mul:Int→Int→Int} {neg inv:Int→Int}
theorem vadd_comm (F:Fld q add mul neg inv) {a b:List Int} (ha:Wd q n a) (hb:Wd q n b):vadd add a b=vadd add b a:=by
 have e:=ha.1.trans hb.1.symm
 refine ext_getD (by rw [vadd_len e,vadd_len e.symm,e]) fun j hj=>?_
 rw [vadd_len e,ha.1] at hj
 have x:=ha.2 j hj
 have y:=hb.2 j hj
 rw [vadd_get e (by rw [ha.1];exact hj),vadd_get e.symm (by rw [hb.1];exact hj),F.add_comm _ _ x.1 x.2 y.1 y.2]
theorem vadd_assoc (F:Fld q add mul neg inv) {a b c:List Int} (ha:Wd q n a) (hb:Wd q n b) (hc:Wd q n c):vadd add (vadd add a b) c=vadd add a (vadd add b c):=by
 have ab:=ha.vadd F hb
 have bc:=hb.vadd F hc
 have l1:=ab.vadd F hc
 have l2:=ha.vadd F bc
 refine ext_getD (by rw [l1.1,l2.1]) fun j hj=>?_
 rw [l1.1] at hj
 have x:=ha.2 j hj
 have y:=hb.2 j hj
 have z:=hc.2 j hj
 rw [vadd_get (by rw [ab.1,hc.1]) (by rw [ab.1];exact hj),vadd_get (by rw [ha.1,hb.1]) (by rw [ha.1];exact hj),vadd_get (by rw [ha.1,bc.1]) (by rw [ha.1];exact hj),vadd_get (by rw [hb.1,hc.1]) (by rw [hb.1];exact hj),F.add_assoc _ _ _ x.1 x.2 y.1 y.2 z.1 z.2]
theorem zero_vadd (F:Fld q add mul neg inv) {a:List Int} (ha:Wd q n a):vadd add (List.replicate n 0) a=a:=by
 have e:(List.replicate n (0:Int)).length=a.length:=by rw [List.length_replicate,ha.1]
 refine ext_getD (by rw [vadd_len e,e]) fun j hj=>?_
 rw [vadd_len e,e,ha.1] at hj
 have x:=ha.2 j hj
 rw [vadd_get e (by rw [e,ha.1];exact hj),show (List.replicate n (0:Int)).getD j 0=0 by simp [List.getD_eq_getElem?_getD,hj],F.zero_add _ x.1 x.2]
theorem zeros_wd (F:Fld q add mul neg inv):Wd q n (List.replicate n 0):=⟨by simp,fun j hj=>by
 have:=F.one_lt
 rw [show (List.replicate n (0:Int)).getD j 0=0 by simp [List.getD_eq_getElem?_getD,hj]]
 omega⟩
theorem vmul_add (F:Fld q add mul neg inv) {g:List Int} (hg:Wd q n g) {a b:Int} (a0:0≤a) (a1:a<q) (b0:0≤b) (b1:b<q):vadd add (vmul mul a g) (vmul mul b g)=vmul mul (add a b) g:=by
 have ha:=Wd.vmul F a0 a1 hg
 have hb:=Wd.vmul F b0 b1 hg
 have ab:=F.add_in a b a0 a1 b0 b1
 have hab:=Wd.vmul F ab.1 ab.2 hg
 refine ext_getD (by rw [(ha.vadd F hb).1,hab.1]) fun j hj=>?_
 rw [(ha.vadd F hb).1] at hj
 have x:=hg.2 j hj
 rw [vadd_get (by rw [ha.1,hb.1]) (by rw [ha.1];exact hj),vmul_get (by rw [hg.1];exact hj),vmul_get (by rw [hg.1];exact hj),vmul_get (by rw [hg.1];exact hj),
  F.mul_comm a _ a0 a1 x.1 x.2,F.mul_comm b _ b0 b1 x.1 x.2,F.mul_comm (add a b) _ ab.1 ab.2 x.1 x.2,F.distrib _ _ _ x.1 x.2 a0 a1 b0 b1]
theorem add_cancel (F:Fld q add mul neg inv) {a b c:Int} (ha:0≤a∧a<q) (hb:0≤b∧b<q) (hc:0≤c∧c<q) (h:add a c=add b c):a=b:=by
 have hn:=F.neg_in c hc.1 hc.2
 have e:∀ x:Int,0≤x∧x<q→add (add x c) (neg c)=x:=fun x hx=>by
  rw [F.add_assoc _ _ _ hx.1 hx.2 hc.1 hc.2 hn.1 hn.2,F.add_neg c hc.1 hc.2,F.add_comm x 0 hx.1 hx.2 (by omega) (by have:=F.one_lt;omega),F.zero_add x hx.1 hx.2]
 rw [←e a ha,←e b hb,h]
theorem far_vadd (F:Fld q add mul neg inv) (lost:Nat→Bool) {w y v:List Int} (hw:Wd q n w) (hy:Wd q n y) (hv:Wd q n v):∀ k,k≤n→far lost (vadd add w v) (vadd add y v) 0 k=far lost w y 0 k
 | 0,_=>rfl
 | k+1,hk=>by
  rw [far_succ,far_succ,far_vadd F lost hw hy hv k (by omega),Nat.zero_add]
  have a:=hw.2 k (by omega)
  have b:=hy.2 k (by omega)
  have c:=hv.2 k (by omega)
  rw [vadd_get (by rw [hy.1,hv.1]) (by rw [hy.1];omega),vadd_get (by rw [hw.1,hv.1]) (by rw [hw.1];omega)]
  by_cases h:y.getD k 0=w.getD k 0
  ·rw [h]
   simp
  ·have:add (y.getD k 0) (v.getD k 0)≠add (w.getD k 0) (v.getD k 0):=fun e=>h (add_cancel F b a c e)
   have e1:(add (y.getD k 0) (v.getD k 0) != add (w.getD k 0) (v.getD k 0))=true:=by simpa using this
   have e2:(y.getD k 0 != w.getD k 0)=true:=by simpa using h
   rw [e1,e2]
theorem words_shift (F:Fld q add mul neg inv):∀ (G:List (List Int)) (z v:List Int),(∀ i,i<G.length→Wd q n (G.getD i []))→Wd q n z→Wd q n v→words q add mul G (vadd add z v)=(words q add mul G z).map fun y=>vadd add y v
 | [],z,v,_,_,_=>rfl
 | g::gs,z,v,hG,hz,hv=>by
  have hg:Wd q n g:=by simpa using hG 0 (by simp)
  unfold words
  rw [List.map_flatMap]
  unfold List.flatMap
  refine congrArg List.flatten (List.map_congr_left fun a ha=>?_)
  have ha':a<q:=by simpa using ha
  have hag:=Wd.vmul F (c:=((a:Nat):Int)) (by omega) (by exact_mod_cast ha') hg
  rw [vadd_assoc F hz hv hag,vadd_comm F hv hag,←vadd_assoc F hz hag hv]
  exact words_shift F gs _ v (fun i hi=>by simpa using hG (i+1) (by simpa using hi)) (hz.vadd F hag) hv
theorem sum_perm {l m:List Nat} (h:l.Perm m):l.sum=m.sum:=by
 induction h with
 | nil=>rfl
 | cons x _ ih=>rw [List.sum_cons,List.sum_cons,ih]
 | swap x y l=>simp only [List.sum_cons];omega
 | trans _ _ h1 h2=>rw [h1,h2]
theorem count_shift (F:Fld q add mul neg inv) (P:∀ c:Nat,c<q→((List.range q).map fun (a:Nat)=>add (a:Int) (c:Int)).Perm ((List.range q).map fun (a:Nat)=>(a:Int))):∀ (G:List (List Int)) (z v:List Int) (p:List Int→Bool),(∀ i,i<G.length→Wd q n (G.getD i []))→Wd q n z→v∈words q add mul G (List.replicate n 0) →
  ((words q add mul G z).countP fun y=>p (vadd add y v))=(words q add mul G z).countP p
 | [],z,v,p,_,hz,hv=>by
  unfold words at hv
  rw [List.mem_singleton] at hv
  subst hv
  unfold words
  rw [List.countP_singleton,List.countP_singleton,vadd_comm F hz (zeros_wd F),zero_vadd F hz]
 | g::gs,z,v,p,hG,hz,hv=>by
  have hg:Wd q n g:=by simpa using hG 0 (by simp)
  have hG':∀ i,i<gs.length→Wd q n (gs.getD i []):=fun i hi=>by simpa using hG (i+1) (by simpa using hi)
  unfold words at hv
  obtain ⟨c,hc,hv⟩:=List.mem_flatMap.1 hv
  have hc':c<q:=by simpa using hc
  have c1:((c:Nat):Int)<q:=by exact_mod_cast hc'
  have hu:=Wd.vmul F (c:=((c:Nat):Int)) (by omega) c1 hg
  have hz0:=zeros_wd F (n:=n)
  rw [words_shift F gs _ _ hG' hz0 hu] at hv
  obtain ⟨v',hv',rfl⟩:=List.mem_map.1 hv
  have wv':=words_wd F gs _ hG' hz0 v' hv'
  have key:∀ a:Nat,a<q→((words q add mul gs (vadd add z (vmul mul (a:Int) g))).countP fun y=>p (vadd add y (vadd add v' (vmul mul (c:Int) g))))=(words q add mul gs (vadd add z (vmul mul (add (a:Int) (c:Int)) g))).countP p:=by
   intro a ha
   have a1:((a:Nat):Int)<q:=by exact_mod_cast ha
   have hag:=Wd.vmul F (c:=((a:Nat):Int)) (by omega) a1 hg
   have hza:=hz.vadd F hag
   have e1:((words q add mul gs (vadd add z (vmul mul (a:Int) g))).countP fun y=>p (vadd add y (vadd add v' (vmul mul (c:Int) g))))=(words q add mul gs (vadd add z (vmul mul (a:Int) g))).countP fun y=>(fun x=>p (vadd add x (vmul mul (c:Int) g))) (vadd add y v'):=by
    refine List.countP_congr fun y hy=>?_
    have wy:=words_wd F gs _ hG' hza y hy
    show p (vadd add y (vadd add v' (vmul mul (c:Int) g)))=true↔p (vadd add (vadd add y v') (vmul mul (c:Int) g))=true
    rw [vadd_assoc F wy wv' hu]
   rw [e1,count_shift F P gs _ v' (fun x=>p (vadd add x (vmul mul (c:Int) g))) hG' hza hv',←vmul_add F hg (by omega) a1 (by omega) c1,←vadd_assoc F hz hag hu,words_shift F gs _ _ hG' hza hu,List.countP_map]
   rfl
  unfold words
  rw [List.countP_flatMap,List.countP_flatMap]
  have l1:((List.range q).map (List.countP (fun y=>p (vadd add y (vadd add v' (vmul mul (c:Int) g)))) ∘ fun (a:Nat)=>words q add mul gs (vadd add z (vmul mul (a:Int) g))))=((List.range q).map fun (a:Nat)=>add (a:Int) (c:Int)).map fun x=>(words q add mul gs (vadd add z (vmul mul x g))).countP p:=by
   rw [List.map_map]
   exact List.map_congr_left fun a ha=>key a (by simpa using ha)
  have l2:((List.range q).map (List.countP p ∘ fun (a:Nat)=>words q add mul gs (vadd add z (vmul mul (a:Int) g))))=((List.range q).map fun (a:Nat)=>(a:Int)).map fun x=>(words q add mul gs (vadd add z (vmul mul x g))).countP p:=by
   rw [List.map_map]
   rfl
  rw [l1,l2]
  exact sum_perm ((P c hc').map _)
theorem words_closed (F:Fld q add mul neg inv) (P:∀ c:Nat,c<q→((List.range q).map fun (a:Nat)=>add (a:Int) (c:Int)).Perm ((List.range q).map fun (a:Nat)=>(a:Int))) {G:List (List Int)} (hG:∀ i,i<G.length→Wd q n (G.getD i [])) {x v:List Int} (hx:x∈words q add mul G (List.replicate n 0)) (hv:v∈words q add mul G (List.replicate n 0)):vadd add x v∈words q add mul G (List.replicate n 0):=by
 have h:=count_shift F P G (List.replicate n 0) v (fun y=>decide (y=vadd add x v)) hG (zeros_wd F) hv
 have h1:0<(words q add mul G (List.replicate n 0)).countP fun y=>decide (vadd add y v=vadd add x v):=List.countP_pos_iff.2 ⟨x,hx,by simp⟩
 rw [h] at h1
 obtain ⟨y,hy,e⟩:=List.countP_pos_iff.1 h1
 have e:=of_decide_eq_true e
 rw [←e];exact hy
end
theorem turn {q:Nat} (hq:q∈Qs):∀ c:Nat,c<q→((List.range q).map fun (a:Nat)=>fadd q (a:Int) (c:Int)).Perm ((List.range q).map fun (a:Nat)=>(a:Int)):=by
 have:(Qs.all fun q=>(List.range q).all fun (c:Nat)=>((List.range q).map fun (a:Nat)=>fadd q (a:Int) (c:Int)).isPerm ((List.range q).map fun (a:Nat)=>(a:Int)))=true:=by decide +kernel
 intro c hc
 have h:=List.all_eq_true.1 (List.all_eq_true.1 this q hq) c (by simpa using hc)
 exact List.isPerm_iff.1 h
end Go.Proofs.Ytbpjicbpcfkpfaa.Ma
namespace Go.Proofs.Ytbpjicbpcfkpfaa.Ai
open Go Ma
noncomputable section
theorem L6_9_spec {q n:Nat} (hq:1<q) (hq2:q<2^20) {kk:Int} (hk:0≤kk∧kk<256) {g:List Int} (hg:Up n g) (hn:n≤10) (rr E p e:Int) (W G:List (List Int)) (x s w M:List Int) {m:Nat} (hm:m=n):∀ (f i:Nat) (v:List Int),i≤g.length→g.length<f+i→Wd q n v →
  ∃ v',Wd q n v'∧(∀ j,j<n→lostI g j=false→v'.getD j 0=v.getD j 0)∧∀ {τ:Type} (κ:Nat→LS_→Option τ),runE L6_9 f κ 0 [.I kk,.I rr,.B true,.N W.length,.LL W,.N x.length,.L x,.I i,.I q,.I n,.N G.length,.LL G,.N s.length,.L s,.N w.length,.L w,.N g.length,.L g,.I E,.I p,.I e,.N M.length,.L M,.N m,.N g.length,.L g,.L v]
   = κ 0 [.I rr,.B true,.N W.length,.LL W,.N x.length,.L x,.I q,.I n,.N G.length,.LL G,.N s.length,.L s,.N w.length,.L w,.N g.length,.L g,.I E,.I p,.I e,.N M.length,.L M,.N m,.N g.length,.L g,.L v']
 | 0,i,v,h1,h2,hv=>by omega
 | f+1,i,v,h1,h2,hv=>by
  have hgl:=hg.1
  have vl:=hv.1
  by_cases hj:i<g.length
  ·have gi:=hg.2 i hj
   unfold Gn at gi
   obtain ⟨c,hc,hcn⟩:∃ c:Nat,g.getD i 0=c∧c<n:=⟨(g.getD i 0).toNat,by omega,by omega⟩
   have vc:=hv.2 c hcn
   have t:=tmod_in (a:=v.getD c 0+kk) (b:=(q:Int)) (by omega) (by omega)
   obtain ⟨v',hv',hs,h⟩:=L6_9_spec hq hq2 hk hg hn rr E p e W G x s w M hm f (i+1) (v.set c (Int.tmod (v.getD c 0+kk) q)) (by omega) (by omega) (Wd.set hv t.1 t.2)
   refine ⟨v',hv',fun j hjn hl=>?_,fun {τ} κ=>?_⟩
   ·rw [hs j hjn hl,List.getD_eq_getElem?_getD,List.getElem?_set,List.getD_eq_getElem?_getD]
    by_cases hcj:c=j
    ·exfalso
     subst hcj
     have:lostI g c=true:=by
      unfold lostI
      rw [List.contains_iff_mem,←hc,List.getD_eq_getElem?_getD,List.getElem?_eq_getElem hj]
      exact List.getElem_mem hj
     rw [this] at hl
     cases hl
    ·rw [if_neg hcj,←List.getD_eq_getElem?_getD]
   ·rw [runE_succ]
    show L6_9.s0 _ _ _=_
    unfold L6_9.s0
    simp only [g_,Int.toNat_natCast,Nat.mul_one,Nat.zero_add]
    rw [br_of (by simp;omega),ck_of (by simp;omega),ck_of (by simp;omega),ck_of (by simp;omega),ck_of (by simp;omega),hc,Int.toNat_natCast]
    rw [ck_of (by simp;omega),ck_of (by simp;omega),ck_of (by simp;omega),ck_of (by simp;omega),ck_of (by simp;omega),wsucc (j:=i) (by omega),wr64 (n:=kk) (by omega) (by omega),wr64 (n:=v.getD c 0+kk) (by omega) (by omega)]
    exact h κ
  ·refine ⟨v,hv,fun _ _ _=>rfl,fun {τ} κ=>?_⟩
   rw [runE_succ]
   show L6_9.s0 _ _ _=_
   unfold L6_9.s0
   simp only [g_,Int.toNat_natCast,Nat.mul_one,Nat.zero_add]
   rw [br_no (by simp;omega)]
theorem far_same (lost:Nat→Bool) {w w' x:List Int}:∀ k,(∀ j,j<k→lost j=false→w'.getD j 0=w.getD j 0)→far lost w' x 0 k=far lost w x 0 k
 | 0,_=>rfl
 | k+1,h=>by
  rw [far_succ,far_succ,far_same lost k (fun j hj=>h j (by omega)),Nat.zero_add]
  cases hl:lost k with
  | true=>rfl
  | false=>rw [h k (by omega) hl]
theorem L6_22_spec {q n:Nat} {G:List (List Int)} {s w g:List Int} (h:Cs q n G s w g) {x:List Int} (hx:Wd q n x) {A B:List (List Int)} (hA:∀ y∈A,Wd q n y) (hB:∀ y∈B,Wd q n y) (hAl:A.length<2^30) (hBl:B.length<2^30) (W:List (List Int)) (E:Int) {i:Nat} (hi:i<A.length) {τ:Type} (κ:Nat→LS_→Option τ):∀ (f j:Nat) (b:Bool),j≤B.length→B.length<f+j →
  runE L6_22 f κ 0 [.B true,.N W.length,.LL W,.N x.length,.L x,.N A.length,.LL A,.N B.length,.LL B,.I i,.B b,.I j,.I q,.I n,.N G.length,.LL G,.N s.length,.L s,.N w.length,.L w,.N g.length,.L g,.I E,.I (fp q),.I (fe q),.N (fm q).length,.L (fm q)]
   = κ 0 [.B true,.N W.length,.LL W,.N x.length,.L x,.N A.length,.LL A,.N B.length,.LL B,.I i,.B (b || (B.drop j).any fun y=>decide (y=vadd (fadd q) (A.getD i []) x)),.I q,.I n,.N G.length,.LL G,.N s.length,.L s,.N w.length,.L w,.N g.length,.L g,.I E,.I (fp q),.I (fe q),.N (fm q).length,.L (fm q)]
 | 0,j,b,h1,h2=>by omega
 | f+1,j,b,h1,h2=>by
  have n1:=h.cd.n1
  have F:=fld q h.cd.fq
  rw [runE_succ]
  show L6_22.s0 _ _ _=_
  unfold L6_22.s0
  simp only [g_,Int.toNat_natCast,Nat.mul_one]
  by_cases hj:j<B.length
  ·rw [br_of (by simp;omega),drop_cons [] hj,List.any_cons]
   cases b with
   | true =>
    rw [br_of rfl,wsucc (j:=j) (by omega),L6_22_spec h hx hA hB hAl hBl W E hi κ f (j+1) true (by omega) (by omega),Bool.true_or,Bool.true_or]
   | false =>
    have ha:A.getD i []∈A:=by
     rw [List.getD_eq_getElem?_getD,List.getElem?_eq_getElem hi]
     exact List.getElem_mem hi
    have hb:B.getD j []∈B:=by
     rw [List.getD_eq_getElem?_getD,List.getElem?_eq_getElem hj]
     exact List.getElem_mem hj
    have wa:=hA _ ha
    have wb:=hB _ hb
    have ws:=wa.vadd F hx
    rw [br_no rfl,ck_of (by simp;omega),ck_of (by simp;omega),ck_of (by simp;omega),ck_of (by simp;omega),ck_of (by simp),F30_spec h.cd.fq (In.of wa) (In.of hx) (by rw [wa.1,hx.1]) (by rw [wa.1];omega)]
    simp only [sw_zero,gN_zero,gL_succ,gL_zero,Nat.mul_one,List.drop_zero]
    rw [show List.take (A.getD i []).length (vadd (fadd q) (A.getD i []) x)=vadd (fadd q) (A.getD i []) x by rw [wa.1,←ws.1,List.take_length],ck_of (by rw [wa.1,ws.1];simp),F27_spec _ _ _ (by rw [wb.1];omega)]
    simp only [sw_zero,gB_zero]
    rw [wsucc (j:=j) (by omega),L6_22_spec h hx hA hB hAl hBl W E hi κ f (j+1) _ (by omega) (by omega),Bool.false_or]
  ·rw [br_no (by simp;omega),List.drop_eq_nil_of_le (show B.length≤j by omega)]
   simp
theorem L6_18_spec {q n:Nat} {G:List (List Int)} {s w g:List Int} (h:Cs q n G s w g) {x:List Int} (hx:Wd q n x) {A B:List (List Int)} (hA:∀ y∈A,Wd q n y) (hB:∀ y∈B,Wd q n y) (hAl:A.length<2^30) (hBl:B.length<2^30) (hAB:∀ y∈A,vadd (fadd q) y x∈B) (W:List (List Int)) (E:Int) {τ:Type} (κ:Nat→LS_→Option τ):∀ (f i:Nat),i≤A.length→A.length<f+i →
  runE L6_18 f κ 0 [.B true,.N W.length,.LL W,.N x.length,.L x,.N A.length,.LL A,.N B.length,.LL B,.I i,.I q,.I n,.N G.length,.LL G,.N s.length,.L s,.N w.length,.L w,.N g.length,.L g,.I E,.I (fp q),.I (fe q),.N (fm q).length,.L (fm q)]
   = κ 1 [.B true,.N W.length,.LL W,.I q,.I n,.N G.length,.LL G,.N s.length,.L s,.N w.length,.L w,.N g.length,.L g,.I E]
 | 0,i,h1,h2=>by omega
 | f+1,i,h1,h2=>by
  have hfu:=fuel_le
  rw [runE_succ]
  show L6_18.s0 _ _ _=_
  unfold L6_18.s0
  simp only [g_]
  by_cases hi:i<A.length
  ·have ha:A.getD i []∈A:=by
    rw [List.getD_eq_getElem?_getD,List.getElem?_eq_getElem hi]
    exact List.getElem_mem hi
   have hany:(B.any fun y=>decide (y=vadd (fadd q) (A.getD i []) x))=true:=List.any_eq_true.2 ⟨_,hAB _ ha,by simp⟩
   rw [br_of (by simp;omega)]
   unfold L6_22.b
   refine (L6_22_spec h hx hA hB hAl hBl W E hi _ fuel 0 false (by omega) (by omega)).trans ?_
   rw [List.drop_zero,hany,Bool.false_or]
   simp only [g_,sw_zero]
   rw [br_no (b:=!true) rfl,wsucc (j:=i) (by omega)]
   exact L6_18_spec h hx hA hB hAl hBl hAB W E κ f (i+1) (by omega) (by omega)
  ·rw [br_no (by simp;omega)]
def allC (n:Nat):List Int:=(List.range n).map fun (i:Nat)=>(i:Int)
theorem allC_len (n:Nat):(allC n).length=n:=by simp [allC]
theorem allC_succ (n:Nat):allC (n+1)=allC n++[((n:Nat):Int)]:=by
 unfold allC
 rw [List.range_succ,List.map_append]
 rfl
theorem allC_up:∀ n,Up n (allC n)
 | 0=>Up.nil
 | n+1=>by rw [allC_succ];exact (allC_up n).add
theorem L6_29_spec1 {n:Nat} (hn:n≤10) (W G:List (List Int)) (s w g:List Int) (q E:Int) {τ:Type} (κ:Nat→LS_→Option τ):∀ (f i:Nat),i≤n→n<f+i →
  runE L6_29 f κ 1 [.B true,.N W.length,.LL W,.I i,.I q,.I n,.N G.length,.LL G,.N s.length,.L s,.N w.length,.L w,.N g.length,.L g,.I E,.N w.length,.L w,.N i,.L (allC i)]
   = κ 1 [.B true,.N W.length,.LL W,.I q,.I n,.N G.length,.LL G,.N s.length,.L s,.N w.length,.L w,.N g.length,.L g,.I E,.N w.length,.L w,.N n,.L (allC n)]
 | 0,i,h1,h2=>by omega
 | f+1,i,h1,h2=>by
  rw [runE_succ]
  show L6_29.s1 _ _ _=_
  unfold L6_29.s1
  simp only [g_,Nat.mul_one,List.drop_zero]
  by_cases hi:i<n
  ·have ih:=L6_29_spec1 hn W G s w g q E κ f (i+1) (by omega) (by omega)
   rw [allC_succ] at ih
   rw [br_of (by simp;omega),ck_of (by rw [allC_len];simp;omega),wsucc (j:=i) (by omega)]
   exact ih
  ·have:i=n:=by omega
   subst this
   rw [br_no (by simp)]
theorem L6_29_all {n:Nat} (h0:1≤n) (hn:n≤10) (W G:List (List Int)) (s w g:List Int) (q E:Int) {τ:Type} (κ:Nat→LS_→Option τ) :
  runE L6_29 fuel κ 0 [.B true,.N W.length,.LL W,.I 0,.I q,.I n,.N G.length,.LL G,.N s.length,.L s,.N w.length,.L w,.N g.length,.L g,.I E,.N w.length,.L w]
   = κ 1 [.B true,.N W.length,.LL W,.I q,.I n,.N G.length,.LL G,.N s.length,.L s,.N w.length,.L w,.N g.length,.L g,.I E,.N w.length,.L w,.N n,.L (allC n)]:=by
 have hfu:=fuel_le
 obtain ⟨f,hf⟩:∃ f,fuel=f+1:=⟨fuel-1,by omega⟩
 rw [hf,runE_succ]
 show L6_29.s0 _ _ _=_
 unfold L6_29.s0
 simp only [g_]
 rw [br_of (by simp;omega)]
 exact L6_29_spec1 hn W G s w g q E κ f 1 (by omega) (by omega)
theorem far_all {n:Nat} (w x:List Int):∀ k,k≤n→far (lostI (allC n)) w x 0 k=0
 | 0,_=>rfl
 | k+1,h=>by
  have:lostI (allC n) k=true:=by
   unfold lostI allC
   rw [List.contains_iff_mem]
   exact List.mem_map.2 ⟨k,by simp;omega,rfl⟩
  rw [far_succ,far_all w x k (by omega)]
  simp only [Nat.zero_add]
  rw [this]
  rfl
theorem far_moved {q n:Nat} {G:List (List Int)} {s w g:List Int} (h:Cs q n G s w g) {x v y:List Int} (hx:Wd q n x) (hv:Wd q n v) (hs:∀ j,j<n→lostI g j=false→v.getD j 0=(vadd (fadd q) w x).getD j 0) (hy:Wd q n y):far (lostI g) v (vadd (fadd q) y x) 0 n=far (lostI g) w y 0 n:=by
 rw [far_same (lostI g) n hs,far_vadd (fld q h.cd.fq) (lostI g) h.wd hy hx n (Nat.le_refl _)]
theorem count_moved {q n:Nat} {G:List (List Int)} {s w g:List Int} (h:Cs q n G s w g) {x v:List Int} (hx:x∈words q (fadd q) (fmul q) G (List.replicate n 0)) (hv:Wd q n v) (hs:∀ j,j<n→lostI g j=false→v.getD j 0=(vadd (fadd q) w x).getD j 0) (r:Int):(winR q n G v g r).length=(winR q n G w g r).length:=by
 have F:=fld q h.cd.fq
 rw [winR_eq h.up.pos,winR_eq h.up.pos,←List.countP_eq_length_filter,←List.countP_eq_length_filter,←count_shift F (turn h.cd.fq) G _ x _ h.cd.rows.wd (Wd.zeros (q:=q) (n:=n) (by have:=qs_lt h.cd.fq;omega)) hx]
 refine List.countP_congr fun y hy=>?_
 rw [far_moved h (h.ws x hx) hv hs (h.ws y hy)]
theorem sub_moved {q n:Nat} {G:List (List Int)} {s w g:List Int} (h:Cs q n G s w g) {x v:List Int} (hx:x∈words q (fadd q) (fmul q) G (List.replicate n 0)) (hv:Wd q n v) (hs:∀ j,j<n→lostI g j=false→v.getD j 0=(vadd (fadd q) w x).getD j 0) (r:Int):∀ y∈winR q n G w g r,vadd (fadd q) y x∈winR q n G v g r:=by
 intro y hy
 have F:=fld q h.cd.fq
 rw [winR_eq h.up.pos] at hy ⊢
 obtain ⟨h1,h2⟩:=List.mem_filter.1 hy
 refine List.mem_filter.2 ⟨words_closed F (turn h.cd.fq) h.cd.rows.wd h1 hx,?_⟩
 rw [far_moved h (h.ws x hx) hv hs (h.ws y h1)]
 exact h2
theorem winR_all {q n:Nat} {G:List (List Int)} (w:List Int):winR q n G w (allC n) 0=words q (fadd q) (fmul q) G (List.replicate n 0):=by
 rw [winR_eq (allC_up n).pos]
 refine List.filter_eq_self.2 fun y _=>?_
 rw [far_all w y n (Nat.le_refl _)]
 rfl
theorem winR_sub {q n:Nat} {G:List (List Int)} {s w g:List Int} (h:Cs q n G s w g) {r:Int}:∀ y∈winR q n G w g r,y∈words q (fadd q) (fmul q) G (List.replicate n 0):=by
 intro y hy
 rw [winR_eq h.up.pos] at hy
 exact (List.mem_filter.1 hy).1
theorem F6_true {ls:LS_} (h:okLs [.int .u8,.int .u8,.int .u8,.arr (.i .u8),.int .u16,.arr (.i .u8),.int .u16,.int .u8,.int .u8] ls) {τ:Type} (k:Nat→LS_→Option τ):F6 ls k=k 0 [.B true]:=by
 have hfu:=fuel_le
 obtain ⟨Q,N,K,L,num,H,gone,l1,rfl,hQ,hN,hK,hL,hu,hH,h1⟩:=raw34 h
 obtain ⟨x1,l2,rfl,a1,h2⟩:=okLs_cons h1
 obtain ⟨kk,rfl,b1⟩:=ok_int a1
 obtain ⟨x2,l3,rfl,a2,h3⟩:=okLs_cons h2
 obtain ⟨rr,rfl,b2⟩:=ok_int a2
 have hkk:=wf_u8 b1
 have hrr:=wf_u8 b2
 obtain rfl:=okLs_nil h3
 obtain ⟨q,n,G,s,w,g,hc,hs,hw,hg,hT⟩:=T17_spec gone hQ hN hK hL hu hH
 have C:Cs q n G s w g:=⟨hc,hs,hw,hg⟩
 have F:=fld q hc.fq
 have hq:=qs_lt hc.fq
 have hr:=tmod_in (a:=rr) (b:=12) hrr.1 (by omega)
 have hcnt:=C.cnt
 have hW:=C.ws
 have n0:=hc.n0
 have n1:=hc.n1
 have hpos:0<(words q (fadd q) (fmul q) G (List.replicate n 0)).length:=by
  rw [words_len (n:=n) hc.fq];exact Nat.pow_pos (by omega)
 have ix:=tmod_in (a:=kk) (b:=((words q (fadd q) (fmul q) G (List.replicate n 0)).length:Int)) hkk.1 (by omega)
 obtain ⟨i,hi,hin⟩:∃ i:Nat,Int.tmod kk ((words q (fadd q) (fmul q) G (List.replicate n 0)).length:Int)=i∧i<(words q (fadd q) (fmul q) G (List.replicate n 0)).length:=⟨(Int.tmod kk ((words q (fadd q) (fmul q) G (List.replicate n 0)).length:Int)).toNat,by omega,by omega⟩
 have hx:(words q (fadd q) (fmul q) G (List.replicate n 0)).getD i []∈words q (fadd q) (fmul q) G (List.replicate n 0):=by
  rw [List.getD_eq_getElem?_getD,List.getElem?_eq_getElem hin]
  exact List.getElem_mem _
 generalize hxd:(words q (fadd q) (fmul q) G (List.replicate n 0)).getD i []=x at hx
 have wx:=hW x hx
 have wwx:=hw.vadd F wx
 have hgl:=hg.1
 have wl:=hw.1
 obtain ⟨v,hv,hvs,h9⟩:=L6_9_spec hq.1 (by omega) hkk hg n1 rr ((far (lostI g) w s 0 n:Nat):Int) (fp q) (fe q) (words q (fadd q) (fmul q) G (List.replicate n 0)) G x s w (fm q) wl fuel 0 (vadd (fadd q) w x) (by omega) (by omega) wwx
 have Cv:Cs q n G s v g:=⟨hc,hs,hv,hg⟩
 have Ca:Cs q n G s w (allC n):=⟨hc,hs,hw,allC_up n⟩
 have lA:=winR_len hc w g (rr.tmod 12)
 have lB:=winR_len hc v g (rr.tmod 12)
 have vl:=hv.1
 unfold F6
 rw [T16_spec]
 simp only [g_,sw_zero]
 rw [br_no (b:=!true) rfl,ck_of (by simp),hT]
 simp only [g_,sw_zero]
 rw [T29_spec hc.fq]
 simp only [g_,sw_zero]
 rw [ck_of (by simp),T25_spec hc.fq hc.rows (by have:=hc.count;omega)]
 simp only [sw_zero,gLL_zero]
 rw [wr64 (n:=kk) (by omega) (by omega),hi,Int.toNat_natCast,Nat.mul_one,hxd]
 rw [ck_of (by simp;exact fun e=>by rw [e] at hpos;simp at hpos),ck_of (by simp;omega),ck_of (by simp;omega),ck_of (by simp),F30_spec hc.fq (In.of hw) (In.of wx) (by rw [wl,wx.1]) (by omega)]
 simp only [sw_zero,gN_zero,gL_succ,gL_zero]
 unfold L6_9.b
 refine (h9 _).trans ?_
 simp only [g_,sw_zero,Nat.mul_one,List.drop_zero]
 rw [show List.take w.length v=v by rw [wl,←vl,List.take_length],wr64 (n:=rr.tmod 12) (by omega) (by omega)]
 rw [ck_of (by simp),F24_spec C]
 simp only [g_,sw_zero]
 rw [ck_of (by simp [wl,vl]),F24_spec Cv]
 simp only [g_,sw_zero]
 rw [br_no (b:=!true) rfl,br_no (b:=!true) rfl,br_no (by rw [count_moved C hx hv hvs];simp)]
 unfold L6_18.b
 refine (L6_18_spec C wx (fun y hy=>hW y (winR_sub C y hy)) (fun y hy=>hW y (winR_sub Cv y hy)) (by omega) (by omega) (sub_moved C hx hv hvs _) _ _ _ fuel 0 (by omega) (by omega)).trans ?_
 simp only [g_,sw_one,sw_zero]
 unfold L6_29.b
 refine (L6_29_all n0 n1 _ G s w g q _ _).trans ?_
 simp only [g_,sw_one,sw_zero,Nat.mul_one,List.drop_zero]
 rw [show List.take n (allC n)=allC n from List.take_of_length_le (by rw [allC_len];exact Nat.le_refl _)]
 rw [ck_of (by simp [allC_len]),F24_spec Ca]
 simp only [g_,sw_zero]
 rw [br_of rfl,ck_of (by simp),winR_all,F22_spec _ _ _ (by omega) (short2 fun y hy=>by rw [(hW y hy).1];omega),decide_eq_true rfl]
 simp only [sw_zero,gB_zero]
 rw [br_of rfl,ck_of (by simp [allC_len]),U28_ok Ca]
 simp only [sw_zero,gI_zero,gI_succ]
 rw [br_of (by
  have hf:∀ y,far (lostG n (allC n)) w y 0 n=0:=fun y=>by rw [far_eq Ca.up.pos];exact far_all w y n (Nat.le_refl _)
  unfold rad
  split
  ·rfl
  ·simp only [hf];rfl)]
theorem law6 (ls:LS_) (h:okLs ([PV2.agg [.int .u8,.int .u8,.int .u8,.arr (.i .u8),.int .u16,.arr (.i .u8),.int .u16],PV2.v (.int .u8),PV2.v (.int .u8)].flatMap cells2) ls):CS P 6 (fL2 ls [PV2.agg [.int .u8,.int .u8,.int .u8,.arr (.i .u8),.int .u16,.arr (.i .u8),.int .u16],PV2.v (.int .u8),PV2.v (.int .u8)] 0) ⟨.bool true,[]⟩ :=
 F_ok F6.eq ((F6_true h _).trans (by kernel_rfl))
end
end Go.Proofs.Ytbpjicbpcfkpfaa.Ai
