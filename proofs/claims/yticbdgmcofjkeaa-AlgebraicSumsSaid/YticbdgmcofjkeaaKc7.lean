/-
Part 7 of 7 of the texts for one claim: PoC Po6 Xkh Wt5 PoD Xki Xkd Wt4 Wt6 PoE Xkj Wt7 PoF Xkf PoG Xkk Wt8 PoH Xwl PoI PoJ.
-/
import Derived.Test.YticbdgmcofjkeaaKc6
set_option linter.unusedVariables false
set_option linter.unusedSimpArgs false
namespace Go.Proofs.Yticbdgmcofjkeaa.Ai
open Go Ma Go.RowKit
noncomputable section
theorem evI_cong {q:Nat} {add mul:Int→Int→Int} {neg inv:Int→Int} (F:Fld q add mul neg inv) {a b:List Int} (ha:InQ q a) (hb:InQ q b) (h:∀ j,a.getD j 0=b.getD j 0) {x:Int} (hx:0≤x∧x<q):evI add mul a x=evI add mul b x:=by
 rw [←tE_lv (F:=F) ha,←tE_lv (F:=F) hb,←tE_val (F:=F) hx,ev_lv,ev_lv]
 congr 1
 refine pv_cf _ _ _ fun i=>El.ext ?_
 rw [←lv_get,←lv_get,tE_lv ha,tE_lv hb,h]
def isQ (x:Int):Bool:=okq x&&decide (3≤x)
theorem isQ_of {x:Int} (h:isQ x=true):∃ q:Nat,q∈Qs∧3≤q∧x=q:=by
 unfold isQ at h
 rw [Bool.and_eq_true] at h
 obtain ⟨p,hp,e⟩:=okq_of h.1
 have:=of_decide_eq_true h.2
 exact ⟨p,hp,by omega,e⟩
theorem qs16 {q:Nat} (hq:q∈Qs):q≤16:=by
 have:Qs.all (fun q=>decide (q≤16))=true:=by decide +kernel
 exact of_decide_eq_true (List.all_eq_true.1 this q hq)
section
variable {q:Nat}
theorem T276_ok (hq:q∈Qs) (h3:3≤q) {τ:Type} (k:Nat→LS_→Option τ):T276 [.I q] k=k 0 [.I (fp q),.I (fe q),.L (fm q),.I q,.B true]:=by
 have h16:=qs16 hq
 have h:∀ {σ:Type} (κ:Nat→LS_→Option σ),F276 [.I q] κ=κ 0 [.I (fp q),.I (fe q),.N (fm q).length,.I q,.B true,.L (fm q)]:=fun {σ} κ=>by
  unfold F276 T99
  simp only [gI_zero,h_]
  rw [tabM_of hq]
  simp only [g_,sw_zero,h_]
  rw [br_of (by simp;omega),show leI (q:Int) 16=true by simp [leI];omega]
 generalize fm q=M at h ⊢
 have:=wrap_of (e:=F276.E) (p:=.tup [qOver,pB]) (ls:=[.I q]) (j:=0) (l2:=[.I (fp q),.I (fe q),.N M.length,.I q,.B true,.L M]) (c:=(true&&(true&&(decide (M.length=(List.take (M.length*1) (List.drop 0 M)).length)&&(true&&true))))&&(true&&true)) (ls':=[.I (fp q),.I (fe q),.L (List.take (M.length*1) (List.drop 0 M)),.I q,.B true]) (by intro τ κ;kernel_rfl) (by simp) (k:=k) (fun κ=>h κ)
 rw [Nat.mul_one,List.drop_zero,List.take_length] at this
 exact this
theorem T276_no {x:Int} (hx:isQ x=false):∃ (a b:Int) (M:List Int),∀ {τ:Type} (k:Nat→LS_→Option τ),T276 [.I x] k=k 0 [.I a,.I b,.L M,.I x,.B false]:=by
 by_cases hi:isq x=true
 ·have e0:∀ {σ:Type} (κ:Nat→LS_→Option σ),T99 [.I x] κ=κ 0 [.I (fp x.toNat),.I (fe x.toNat),.N (fm x.toNat).length,.L (fm x.toNat)]:=fun {σ} κ=>by
   unfold T99 tabM
   simp only [gI_zero,h_]
   rw [br_of hi]
  by_cases h3:3≤x
  ·have h16:leI x 16=false:=by
    unfold leI
    rw [decide_eq_false_iff_not]
    intro h16
    have hk:okq x=false:=by
     unfold isQ at hx
     rw [Bool.and_eq_false_iff] at hx
     rcases hx with h | h
     ·exact h
     ·rw [decide_eq_false_iff_not] at h;exact absurd h3 h
    rcases okq_no hk with ⟨p,hp,e⟩ | h
    ·have:=qb_gt hp;omega
    ·rw [h] at hi;cases hi
   refine ⟨fp x.toNat,fe x.toNat,fm x.toNat,fun {τ} k=>?_⟩
   have h:∀ {σ:Type} (κ:Nat→LS_→Option σ),F276 [.I x] κ=κ 0 [.I (fp x.toNat),.I (fe x.toNat),.N (fm x.toNat).length,.I x,.B false,.L (fm x.toNat)]:=fun {σ} κ=>by
    unfold F276
    simp only [gI_zero,h_]
    rw [e0]
    simp only [g_,sw_zero,h_]
    rw [br_of (by simp;omega),h16]
   generalize fm x.toNat=M at h ⊢
   have:=wrap_of (e:=F276.E) (p:=.tup [qOver,pB]) (ls:=[.I x]) (j:=0) (l2:=[.I (fp x.toNat),.I (fe x.toNat),.N M.length,.I x,.B false,.L M]) (c:=(true&&(true&&(decide (M.length=(List.take (M.length*1) (List.drop 0 M)).length)&&(true&&true))))&&(true&&true)) (ls':=[.I (fp x.toNat),.I (fe x.toNat),.L (List.take (M.length*1) (List.drop 0 M)),.I x,.B false]) (by intro τ κ;kernel_rfl) (by simp) (k:=k) (fun κ=>h κ)
   rw [Nat.mul_one,List.drop_zero,List.take_length] at this
   exact this
  ·refine ⟨fp x.toNat,fe x.toNat,fm x.toNat,fun {τ} k=>?_⟩
   have h:∀ {σ:Type} (κ:Nat→LS_→Option σ),F276 [.I x] κ=κ 1 [.I (fp x.toNat),.I (fe x.toNat),.N (fm x.toNat).length,.I x,.L (fm x.toNat)]:=fun {σ} κ=>by
    unfold F276
    simp only [gI_zero,h_]
    rw [e0]
    simp only [g_,sw_zero,h_]
    rw [br_no (by simp;omega)]
   generalize fm x.toNat=M at h ⊢
   have:=wrap_of (e:=F276.E) (p:=.tup [qOver,pB]) (ls:=[.I x]) (j:=1) (l2:=[.I (fp x.toNat),.I (fe x.toNat),.N M.length,.I x,.L M]) (c:=(true&&(true&&(decide (M.length=(List.take (M.length*1) (List.drop 0 M)).length)&&(true&&true))))&&(true&&true)) (ls':=[.I (fp x.toNat),.I (fe x.toNat),.L (List.take (M.length*1) (List.drop 0 M)),.I x,.B false]) (by intro τ κ;kernel_rfl) (by simp) (k:=k) (fun κ=>h κ)
   rw [Nat.mul_one,List.drop_zero,List.take_length] at this
   exact this
 ·refine ⟨0,0,[],fun {τ} k=>?_⟩
  have h:∀ {σ:Type} (κ:Nat→LS_→Option σ),F276 [.I x] κ=κ 2 [.I x]:=fun {σ} κ=>by
   unfold F276 T99 tabM
   simp only [gI_zero,h_]
   rw [br_no (by simpa using hi)]
   rfl
  exact wrap_of (e:=F276.E) (p:=.tup [qOver,pB]) (j:=2) (l2:=[.I x]) (c:=true) (ls':=[.I 0,.I 0,.L [],.I x,.B false]) (by intro τ κ;kernel_rfl) rfl (fun κ=>h κ)
def inB (q:Int) (l:List Int):Bool:=!(List.range l.length).any fun j=>decide (l.getD j 0<0) || decide (q≤l.getD j 0)
theorem inB_iff {q:Int} {l:List Int}:inB q l=true↔∀ j,j<l.length→0≤l.getD j 0∧l.getD j 0<q:=by
 unfold inB
 rw [Bool.not_eq_true',List.any_eq_false]
 constructor
 ·intro h j hj
  have:=h j (List.mem_range.2 hj)
  simp only [Bool.or_eq_true,decide_eq_true_eq] at this
  omega
 ·intro h j hj
  have:=h j (List.mem_range.1 hj)
  simp only [Bool.or_eq_true,decide_eq_true_eq]
  omega
theorem T278_spec {l:List Int} (hs:l.length<2^60) (a b q:Int) (M:List Int) {τ:Type} (k:Nat→LS_→Option τ):T278 [.I a,.I b,.L M,.I q,.L l] k=k 0 [.B (inB q l)]:=by
 unfold T278 F278 L100_2_5.b
 simp only [g_,h_]
 refine (run_any L100_2_5 L100_2_5.s0 0 (fun _ _ _=>rfl) _ (fun j=>[.N l.length,.L l,.I 0,.I (l.length:Nat),.I (j:Nat),.I a,.I b,.N M.length,.L M,.I q]) l.length (fun j=>decide (l.getD j 0<0) || decide (q≤l.getD j 0)) (k 0 [.B false]) (k 0 [.B true]) (by omega) (fun j hj next=>?_) (fun next=>?_)).trans ?_
 ·unfold L100_2_5.s0
  simp only [g_,Int.toNat_natCast,Nat.mul_one,h_]
  rw [br_of (by simp;omega),ck_of (by simp <;> omega),ck_of (by simp <;> omega),wsucc (by omega)]
  by_cases e:l.getD j 0<0
  ·rw [br_of (by simpa [ltI,-List.getD_eq_getElem?_getD] using e),if_pos (by simp [e,-List.getD_eq_getElem?_getD])];simp [geI]
  ·rw [br_no (by simpa [ltI,-List.getD_eq_getElem?_getD] using e)]
   by_cases e2:q≤l.getD j 0
   ·rw [br_of (by simpa [geI,-List.getD_eq_getElem?_getD] using e2),if_pos (by simp [e2,-List.getD_eq_getElem?_getD])];simp [geI]
   ·rw [br_no (by simpa [geI,-List.getD_eq_getElem?_getD] using e2),if_neg (by simp [e,e2,-List.getD_eq_getElem?_getD])]
 ·unfold L100_2_5.s0
  simp only [g_,h_]
  rw [br_no (by simp)]
  rfl
 ·unfold inB
  cases (List.range l.length).any fun j=>decide (l.getD j 0<0) || decide (q≤l.getD j 0) <;> rfl
theorem pcI_in {q:Nat} (F:Fld q (fadd q) (fmul q) (fneg q) (finv q)) {x c:Int} (hx:0≤x∧x<q) (hc:0≤c∧c<q):∀ i,0≤pcI (fmul q) x c i∧pcI (fmul q) x c i<q
 | 0=>hc
 | i+1=>by have:=pcI_in F hx hc i;exact F.mul_in _ _ this.1 this.2 hx.1 hx.2
theorem T290_spec (hq:q∈Qs) {x c:Int} (hx:0≤x∧x<q) (hc:0≤c∧c<q) {m:Nat} (hm:m<2^20) (u:Int) {τ:Type} (k:Nat→LS_→Option τ) :
  T290 [.I (fp q),.I (fe q),.L (fm q),.I u,.I x,.I c,.I m] k=k 0 [.N m,.L (pwI (fmul q) x c m)]:=by
 have F:=fld q hq
 unfold T290 F290 L290_3.b
 simp only [g_,Int.toNat_natCast,h_]
 rw [ck_of (by simp;omega)]
 have h0:List.replicate m (0:Int)=fil m (pcI (fmul q) x c) (fun _=>0) 0:=by rw [fil_zero,map_zero]
 rw [h0]
 refine (run_for L290_3 L290_3.s0 0 (fun _ _ _=>rfl) _ (fun j=>[.I x,.I (pcI (fmul q) x c j),.N m,.I (m:Nat),.I (j:Nat),.I (fp q),.I (fe q),.N (fm q).length,.L (fm q),.I u,.L (fil m (pcI (fmul q) x c) (fun _=>0) j)]) m (k 0 [.N m,.L (pwI (fmul q) x c m)]) (by omega) (fun j hj next=>?_) (fun next=>?_))
 ·unfold L290_3.s0
  simp only [g_,Int.toNat_natCast,Nat.mul_one,Nat.zero_add,h_]
  rw [br_of (by simp;omega),ck_of (by simp;omega),ck_of (by simp [fil_len];omega),ck_of (by simp),T104_of hq (pcI_in F hx hc j) hx]
  simp only [sw_zero,gI_zero,h_]
  rw [wsucc (by omega),fil_set]
  rfl
 ·unfold L290_3.s0
  simp only [g_,h_]
  rw [br_no (by simp),fil_full]
  rfl
theorem T277_spec (hq:q∈Qs) {m:List Int} (hm:InQ q m) (hs:m.length<2^20) {τ:Type} (k:Nat→LS_→Option τ) :
  T277 [.I (fp q),.I (fe q),.L (fm q),.I q,.L m] k=k 0 [.L (wordI q (fadd q) (fmul q) m)]:=by
 have F:=fld q hq
 have h1:=F.one_lt
 have h16:=qs16 hq
 have ht:=trimI_in hm
 have htl:=trimI_le m
 have e1:wr .i64 ((q:Int)-1)=((q-1:Nat):Int):=by rw [wr64 (by omega) (by omega)];omega
 have h:∀ {σ:Type} (κ:Nat→LS_→Option σ),F277 [.I (fp q),.I (fe q),.L (fm q),.I q,.L m] κ=κ 0 [.N (q-1),.L (wordI q (fadd q) (fmul q) m)]:=fun {σ} κ=>by
  unfold F277 L277_3.b
  simp only [g_,e1,Int.toNat_natCast,h_]
  rw [ck_of (by simp;omega)]
  have h0:List.replicate (q-1) (0:Int)=fil (q-1) (fun i=>evI (fadd q) (fmul q) m ((i+1:Nat):Int)) (fun _=>0) 0:=by rw [fil_zero,map_zero]
  rw [h0]
  refine (run_for L277_3 L277_3.s0 0 (fun _ _ _=>rfl) _ (fun j=>[.N m.length,.L m,.N (q-1),.I ((q-1:Nat):Int),.I (j:Nat),.I (fp q),.I (fe q),.N (fm q).length,.L (fm q),.I q,.L (fil (q-1) (fun i=>evI (fadd q) (fmul q) m ((i+1:Nat):Int)) (fun _=>0) j)]) (q-1) (κ 0 [.N (q-1),.L (wordI q (fadd q) (fmul q) m)]) (by omega) (fun j hj next=>?_) (fun next=>?_))
  ·unfold L277_3.s0
   simp only [g_,Int.toNat_natCast,Nat.mul_one,Nat.zero_add,h_]
   rw [br_of (by simp;omega),ck_of (by simp),T288_spec (by omega)]
   simp only [sw_zero,gL_zero,h_]
   rw [ck_of (by simp),wsucc (by omega),T287_spec hq ht (by omega) (by omega)]
   simp only [sw_zero,gI_zero,h_]
   rw [ck_of (by simp;omega),ck_of (by simp [fil_len];omega),evI_cong F ht hm (trimI_get m) (by omega),fil_set (f:=fun i=>evI (fadd q) (fmul q) m ((i+1:Nat):Int))]
  ·unfold L277_3.s0
   simp only [g_,h_]
   rw [br_no (by simp),fil_full]
   rfl
 have wl:(wordI q (fadd q) (fmul q) m).length=q-1:=wordI_len
 generalize wordI q (fadd q) (fmul q) m=W at h wl ⊢
 have:=wrap_of (e:=F277.E) (p:=.v pR) (ls:=[.I (fp q),.I (fe q),.L (fm q),.I q,.L m]) (j:=0) (l2:=[.N (q-1),.L W]) (c:=decide (q-1=(List.take ((q-1)*1) (List.drop 0 W)).length)) (ls':=[.L (List.take ((q-1)*1) (List.drop 0 W))]) (by intro τ κ;kernel_rfl) (by simp;omega) (k:=k) (fun κ=>h κ)
 rw [Nat.mul_one,List.drop_zero,←wl,List.take_length] at this
 exact this
def goneB (n:Nat) (g:List Int):Bool:=!(List.range g.length).any fun j=>decide (g.getD j 0≤if j=0 then -1 else g.getD (j-1) 0) || decide ((n:Int)≤g.getD j 0)
theorem goneB_step {n:Nat} {g:List Int} (h:goneB n g=true):∀ j,j<g.length→(if j=0 then -1 else g.getD (j-1) 0)<g.getD j 0∧g.getD j 0<n:=by
 unfold goneB at h
 rw [Bool.not_eq_true',List.any_eq_false] at h
 intro j hj
 have:=h j (List.mem_range.2 hj)
 simp only [Bool.or_eq_true,decide_eq_true_eq] at this
 omega
theorem goneB_nn {n:Nat} {g:List Int} (h:goneB n g=true):∀ j,j<g.length→0≤g.getD j 0
 | 0,hj=>by have:=(goneB_step h 0 hj).1;rw [if_pos rfl] at this;omega
 | j+1,hj=>by
  have:=(goneB_step h (j+1) hj).1
  have ih:=goneB_nn h j (by omega)
  rw [if_neg (by omega),Nat.add_sub_cancel] at this
  omega
theorem goneB_inc {n:Nat} {g:List Int} (h:goneB n g=true):∀ d i,i+(d+1)<g.length→g.getD i 0<g.getD (i+(d+1)) 0
 | 0,i,hi=>by
  have:=(goneB_step h (i+1) hi).1
  rw [if_neg (by omega),Nat.add_sub_cancel] at this
  exact this
 | d+1,i,hi=>by
  have h1:=goneB_inc h d i (by omega)
  have:=(goneB_step h (i+(d+1+1)) hi).1
  rw [if_neg (by omega),show i+(d+1+1)-1=i+(d+1) by omega] at this
  omega
theorem nlost_cons {x:Int} {g:List Int} (h0:0≤x) (hx:x∉g):∀ k,nlost (lostI (x::g)) k=nlost (lostI g) k+if x.toNat<k then 1 else 0
 | 0=>rfl
 | k+1=>by
  rw [nlost,nlost,nlost_cons h0 hx k]
  by_cases e:x=(k:Nat)
  ·have e1:lostI (x::g) k=true:=by unfold lostI;simp [e]
   have e2:lostI g k=false:=by
    unfold lostI
    rw [Bool.eq_false_iff]
    intro hc
    exact hx (by rw [e];simpa using hc)
   have a1:(if x.toNat<k then 1 else 0)=(0:Nat):=if_neg (by omega)
   have a2:(if x.toNat<k+1 then 1 else 0)=(1:Nat):=if_pos (by omega)
   rw [e1,e2,a1,a2];rfl
  ·have e1:lostI (x::g) k=lostI g k:=by
    unfold lostI
    rw [List.contains_cons,show (((k:Nat):Int)==x)=false from beq_eq_false_iff_ne.2 (fun h=>e h.symm),Bool.false_or]
   rw [e1]
   have:x.toNat≠k:=by omega
   have a3:(if x.toNat<k+1 then 1 else 0)=(if x.toNat<k then 1 else 0:Nat):=by
    by_cases e2:x.toNat<k
    ·rw [if_pos e2,if_pos (by omega)]
    ·rw [if_neg e2,if_neg (by omega)]
   rw [a3];omega
theorem nlost_all:∀ {g:List Int} {n:Nat},g.Nodup→(∀ x∈g,0≤x∧x<n)→nlost (lostI g) n=g.length
 | [],n,_,_=>by
  induction n with
  | zero=>rfl
  | succ n ih=>rw [nlost,ih (by simp)];rfl
 | x::g,n,hn,h=>by
  have hx:=h x (by simp)
  rw [nlost_cons hx.1 (List.nodup_cons.1 hn).1,nlost_all (List.nodup_cons.1 hn).2 fun y hy=>h y (by simp [hy]),if_pos (by omega),List.length_cons]
theorem goneB_lost {n:Nat} {g:List Int} (h:goneB n g=true):nlost (lostI g) n=g.length:=by
 refine nlost_all ?_ fun x hx=>?_
 ·rw [List.nodup_iff_pairwise_ne,List.pairwise_iff_getElem]
  intro i j hi hj hij e
  have:=goneB_inc h (j-i-1) i (by omega)
  rw [show i+(j-i-1+1)=j by omega,List.getD_eq_getElem?_getD,List.getD_eq_getElem?_getD,List.getElem?_eq_getElem hi,List.getElem?_eq_getElem hj] at this
  simp only [Option.getD_some] at this
  omega
 ·obtain ⟨i,hi,rfl⟩:=List.getElem_of_mem hx
  have h1:=goneB_nn h i hi
  have h2:=(goneB_step h i hi).2
  rw [List.getD_eq_getElem?_getD,List.getElem?_eq_getElem hi] at h1 h2
  exact ⟨h1,h2⟩
def rightB (q:Int) (w g:List Int):Bool:=decide ((w.length:Int)=q-1)&&(inB q w&&goneB w.length g)
theorem T279_spec {q:Int} (hq:0≤q∧q<2^20) {w g:List Int} (hw:w.length<2^60) (hg:g.length<2^60) (a b:Int) (M:List Int) {τ:Type} (k:Nat→LS_→Option τ):T279 [.I a,.I b,.L M,.I q,.L w,.L g] k=k 0 [.B (rightB q w g)]:=by
 unfold T279 F279
 simp only [g_,h_]
 rw [wr64 (by omega) (by omega)]
 unfold rightB
 by_cases hl:(w.length:Int)=q-1
 ·rw [br_no (by simpa using hl),ck_of (by simp),decide_eq_true hl,show F278=T278 from rfl,T278_spec hw]
  simp only [sw_zero,gB_zero,h_]
  cases hi:inB q w with
  | false=>rw [br_of (b:=!false) rfl];rfl
  | true =>
   rw [br_no (b:=!true) rfl]
   unfold L279_5.b
   refine (run_any L279_5 L279_5.s0 0 (fun _ _ _=>rfl) _ (fun j=>[.B false,.I (if j=0 then -1 else g.getD (j-1) 0),.N g.length,.L g,.I (g.length:Nat),.I (j:Nat),.N w.length,.L w,.N g.length,.L g]) g.length (fun j=>decide (g.getD j 0≤if j=0 then -1 else g.getD (j-1) 0) || decide ((w.length:Int)≤g.getD j 0)) (k 0 [.B false]) (k 0 [.B true]) (by omega) (fun j hj next=>?_) (fun next=>?_)).trans ?_
   ·unfold L279_5.s0
    simp only [g_,Int.toNat_natCast,Nat.mul_one,h_]
    rw [br_of (by simp;omega),ck_of (by simp <;> omega),ck_of (by simp <;> omega),wsucc (by omega)]
    generalize (if j=0 then (-1:Int) else g.getD (j-1) 0)=last
    by_cases e:g.getD j 0≤last
    ·rw [br_of (by simpa [leI,-List.getD_eq_getElem?_getD] using e),if_pos (by simp [e,-List.getD_eq_getElem?_getD])];rfl
    ·rw [br_no (by simpa [leI,-List.getD_eq_getElem?_getD] using e)]
     by_cases e2:(w.length:Int)≤g.getD j 0
     ·rw [br_of (by simpa [geI,-List.getD_eq_getElem?_getD] using e2),if_pos (by simp [e2,-List.getD_eq_getElem?_getD])];rfl
     ·rw [br_no (by simpa [geI,-List.getD_eq_getElem?_getD] using e2),if_neg (by simp [e,e2,-List.getD_eq_getElem?_getD]),if_neg (by omega),Nat.add_sub_cancel]
   ·unfold L279_5.s0
    simp only [g_,h_]
    rw [br_no (by simp)]
    rfl
   ·unfold goneB
    cases (List.range g.length).any fun j=>decide (g.getD j 0≤if j=0 then -1 else g.getD (j-1) 0) || decide ((w.length:Int)≤g.getD j 0) <;> rfl
 ·rw [br_of (by simpa using hl),decide_eq_false hl];rfl
end
end
end Go.Proofs.Yticbdgmcofjkeaa.Ai
namespace Go.Proofs.Yticbdgmcofjkeaa.Ai
open Go Ma Go.RowKit
noncomputable section
theorem padI_full {a:List Int} {i:Nat} (h:i<a.length):padI a i=a:=by
 unfold padI
 rw [show i+1-a.length=0 by omega];simp
theorem padI_one (a:List Int) {i:Nat} (h:a.length≤i):padI (a++[0]) i=padI a i:=by
 unfold padI
 rw [List.append_assoc]
 congr 1
 rw [List.length_append,List.length_singleton,show i+1-a.length=(i+1-(a.length+1))+1 by omega,List.replicate_succ]
 rfl
theorem withI_full {add:Int→Int→Int} {a:List Int} {i:Nat} {c:Int} (h:i<a.length):withI add a i c=a.set i (add (a.getD i 0) c):=by unfold withI;rw [padI_full h]
theorem L301_1_spec1 (c p e:Int) (n:Nat) (m:List Int) {i:Nat} (hi:i<2^30) {τ:Type} (κ:Nat→LS_→Option τ):∀ (f:Nat) (a:List Int),i+1-a.length<f→a.length<2^31 →
  runE L301_1 f κ 1 [.N a.length,.I i,.I c,.I p,.I e,.N n,.L m,.L a]=κ 1 [.N (padI a i).length,.I i,.I c,.I p,.I e,.N n,.L m,.L (padI a i)]
 | 0,a,h,h2=>by omega
 | f+1,a,h,h2=>by
  rw [runE_succ]
  show L301_1.s1 _ _ _=_
  unfold L301_1.s1
  simp only [g_,Nat.mul_one,h_]
  by_cases hl:a.length≤i
  ·rw [br_of (by simp;omega),ck_of (by simp;omega)]
   have:=L301_1_spec1 c p e n m hi κ f (a++[0]) (by simp;omega) (by simp;omega)
   rw [padI_one a hl,List.length_append,List.length_singleton] at this
   exact this
  ·rw [br_no (by simp;omega),padI_full (by omega)]
section
variable {q:Nat}
theorem S301_0_spec (hq:q∈Qs) {i:Nat} (hi:i<2^30) {c:Int} (hc:0≤c∧c<q) {τ:Type} (k:Nat→LS_→Option τ) :
  S301_0 [.I (fp q),.I (fe q),.N (fm q).length,.L (fm q),.I i,.I c] k=k 0 [.N (i+1),.L (withI (fadd q) [] i c)]:=by
 obtain ⟨f,hf,hf2⟩:=fuel_pred
 have F:=fld q hq
 have one:=F.one_lt
 have pl:(padI [] i).length=i+1:=by rw [padI_len];simp
 unfold S301_0 L301_1.b
 simp only [g_,h_]
 rw [hf,runE_succ,show ∀ (a b:Nat→LS_→Option τ) (l:LS_),L301_1.step a b 0 l=L301_1.s0 a b l from fun _ _ _=>rfl]
 unfold L301_1.s0
 simp only [g_,h_]
 rw [br_of (by simp)]
 refine (L301_1_spec1 c (fp q) (fe q) (fm q).length (fm q) hi _ f [0] (by simp;omega) (by simp)).trans ?_
 rw [show padI [0] i=padI [] i from padI_one [] (Nat.zero_le i)]
 simp only [g_,sw_one,sw_zero,Int.toNat_natCast,Nat.mul_one,Nat.zero_add,h_]
 rw [ck_of (by simp;omega),ck_of (by simp;omega),ck_of (by simp),padI_get,T103_of hq (by simp;omega) hc]
 simp only [sw_zero,gI_zero,h_]
 rw [ck_of (by simp;omega),ck_of (by simp;omega),pl]
 rfl
theorem S301_1_spec (hq:q∈Qs) {a:List Int} {n i:Nat} (hn:n=a.length) (hi:i<a.length) (hl:a.length<2^30) (ha:InQ q a) {c:Int} (hc:0≤c∧c<q) {τ:Type} (k:Nat→LS_→Option τ) :
  S301_1 [.I (fp q),.I (fe q),.N (fm q).length,.L (fm q),.N n,.I i,.I c,.L a] k=k 0 [.N n,.L (withI (fadd q) a i c)]:=by
 subst hn
 obtain ⟨f,hf,hf2⟩:=fuel_pred
 have h:=ha i hi
 unfold S301_1 L301_1_1.b
 simp only [g_,h_]
 rw [hf,runE_succ,show ∀ (a b:Nat→LS_→Option τ) (l:LS_),L301_1_1.step a b 0 l=L301_1_1.s0 a b l from fun _ _ _=>rfl]
 unfold L301_1_1.s0
 simp only [g_,h_]
 rw [br_no (by simp;omega)]
 simp only [g_,sw_zero,Int.toNat_natCast,Nat.mul_one,Nat.zero_add,h_]
 rw [ck_of (by simp;omega),ck_of (by simp;omega),ck_of (by simp),T103_of hq h hc]
 simp only [sw_zero,gI_zero,h_]
 rw [ck_of (by simp;omega),ck_of (by simp;omega),withI_full hi]
theorem L302_2_spec (hq:q∈Qs) {c:Int} (hc:0≤c∧c<q) {n:Nat} {b to:List Int} (hb:InQ q b) (ht:InQ q to) (hl:n+b.length≤to.length) (hs:to.length<2^30) {τ:Type} (κ:Nat→LS_→Option τ):∀ (f j:Nat),j≤b.length→b.length-j<f →
  runE L302_2 f κ 0 [.N to.length,.I c,.I n,.N b.length,.I b.length,.I j,.L (scT (fadd q) (fmul q) c n b to j),.L b,.I (fp q),.I (fe q),.N (fm q).length,.L (fm q)] =
   κ 0 [.N to.length,.L (scT (fadd q) (fmul q) c n b to b.length),.L b,.I (fp q),.I (fe q),.N (fm q).length,.L (fm q)]
 | 0,j,h1,h2=>by omega
 | f+1,j,h1,h2=>by
  have F:=fld q hq
  rw [runE_succ]
  show L302_2.s0 _ _ _=_
  unfold L302_2.s0
  simp only [g_,Int.toNat_natCast,Nat.mul_one,Nat.zero_add,h_]
  by_cases hj:j<b.length
  ·have hbj:=hb j hj
   have hm:=F.mul_in _ _ hc.1 hc.2 hbj.1 hbj.2
   have sl:(scT (fadd q) (fmul q) c n b to j).length=to.length:=scT_len _ _ _ _ _ _ j (by omega)
   rw [br_of (by simp;omega),ck_of (by simp;omega),ck_of (by simp;omega),ck_of (by simp),T104_of hq hc hbj]
   simp only [sw_zero,gI_zero,h_]
   have e1:wr .i64 ((j:Int)+(n:Int))=((j+n:Nat):Int):=by rw [wr64 (by omega) (by omega)];omega
   rw [e1,S301_1_spec hq sl.symm (by omega) (by omega) (scT_in F hb ht hc j) hm]
   simp only [sw_zero,gN_zero,gL_succ,gL_zero,h_]
   rw [wsucc (by omega)]
   exact L302_2_spec hq hc hb ht hl hs κ f (j+1) (by omega) (by omega)
  ·have:j=b.length:=by omega
   subst this
   rw [br_no (by simp)]
theorem S302_0_spec (hq:q∈Qs) {c:Int} (hc:0≤c∧c<q) {n:Nat} {b to:List Int} (hb:InQ q b) (ht:InQ q to) (hl:n+b.length≤to.length) (hs:to.length<2^30) {tl:Nat} (htl:tl=to.length) {τ:Type} (k:Nat→LS_→Option τ) :
  S302_0 [.I (fp q),.I (fe q),.N (fm q).length,.L (fm q),.N tl,.I c,.I n,.N b.length,.L to,.L b] k=k 0 [.N tl,.L (scT (fadd q) (fmul q) c n b to b.length),.L b]:=by
 subst htl
 have hf:=fuel_le
 unfold S302_0 L302_2.b
 simp only [g_,h_]
 refine (L302_2_spec hq hc hb ht hl hs _ fuel 0 (by omega) (by omega)).trans ?_
 simp only [sw_zero,gN_zero,gL_succ,gL_zero,h_]
theorem L292_9_spec1 (hq:q∈Qs) {b r0:List Int} {i0:Int} {t0:Nat} (hb:InQ q b) (hr:InQ q r0) (hi:0≤i0∧i0<q) (hb0:0<b.length) (ht:t0+b.length=r0.length+1) (hs:r0.length<2^20) {τ:Type} (κ:Nat→LS_→Option τ) :
  ∀ (f s:Nat),1≤s→s≤t0→t0-s<f →
  runE L292_9 f κ 1 [.N b.length,.N r0.length,.N t0,.I i0,.I ((t0:Int)-1-s),.L b,.I (fp q),.I (fe q),.N (fm q).length,.L (fm q),.I (fp q),.I (fe q),.N (fm q).length,.L (fm q),.L (dvT (fadd q) (fmul q) (fneg q) b i0 r0 t0 s).2,.L (dvT (fadd q) (fmul q) (fneg q) b i0 r0 t0 s).1] =
   κ 1 [.N r0.length,.N t0,.L (dvT (fadd q) (fmul q) (fneg q) b i0 r0 t0 t0).2,.L (dvT (fadd q) (fmul q) (fneg q) b i0 r0 t0 t0).1]
 | 0,s,h0,h1,h2=>by omega
 | f+1,s,h0,h1,h2=>by
  have F:=fld q hq
  rw [runE_succ]
  show L292_9.s1 _ _ _=_
  unfold L292_9.s1
  simp only [g_,h_]
  by_cases hj:s<t0
  ·obtain ⟨t,htt⟩:∃ t,t0-1-s=t:=⟨_,rfl⟩
   have e0:(t0:Int)-1-s=(t:Nat):=by omega
   have e1:wr .i64 (wr .i64 ((t:Int)+(b.length:Int))-1)=((t+b.length-1:Nat):Int):=by
    rw [wr64 (n:=(t:Int)+(b.length:Int)) (by omega) (by omega),wr64 (by omega) (by omega)];omega
   obtain ⟨iq,ir⟩:=dvT_in F (t0:=t0) hb hr hi s
   have lr:=dvT_len (add:=fadd q) (mul:=fmul q) (neg:=fneg q) (i0:=i0) (show t0+b.length≤r0.length+1 by omega) hb0 s h1
   have lq:=dvT_qlen (add:=fadd q) (mul:=fmul q) (neg:=fneg q) (b:=b) (i0:=i0) (r0:=r0) s h1
   rw [if_neg (by omega)] at lq
   have hx:=in_get F ir (t+b.length-1)
   have hm:=F.mul_in _ _ hx.1 hx.2 hi.1 hi.2
   have hn:=F.neg_in _ hm.1 hm.2
   have ih:=L292_9_spec1 hq hb hr hi hb0 ht hs κ f (s+1) (by omega) (by omega) (by omega)
   rw [dvT,htt] at ih
   rw [e0,e1]
   generalize dvT (fadd q) (fmul q) (fneg q) b i0 r0 t0 s=D at iq ir lr lq hx hm hn ih ⊢
   simp only [Int.toNat_natCast,Nat.mul_one,Nat.zero_add]
   rw [br_of (by simp),ck_of (by simp;omega),ck_of (by simp;omega),ck_of (by simp),T104_of hq hx hi]
   simp only [sw_zero,gI_zero,h_]
   rw [S301_1_spec hq lq.symm (by omega) (by omega) iq hm]
   simp only [sw_zero,gN_zero,gL_succ,gL_zero,h_]
   rw [ck_of (by simp),T83_of hq hm]
   simp only [sw_zero,gI_zero,h_]
   rw [S302_0_spec hq hn hb ir (by omega) (by omega) lr.symm]
   simp only [sw_zero,gN_zero,gL_succ,gL_zero,h_]
   have e2:wr .i64 ((t:Int)-1)=(t0:Int)-1-((s+1:Nat):Int):=by rw [wr64 (by omega) (by omega)];omega
   rw [e2]
   exact ih
  ·have:s=t0:=by omega
   subst this
   rw [br_no (by simp;omega)]
theorem L292_9_spec (hq:q∈Qs) {b r0:List Int} {i0:Int} {t0:Nat} (hb:InQ q b) (hr:InQ q r0) (hi:0≤i0∧i0<q) (hb0:0<b.length) (ht:t0=r0.length+1-b.length) (hs:r0.length<2^20) (hsb:b.length<2^20) {τ:Type} (κ:Nat→LS_→Option τ) :
  L292_9.b 0 [.N b.length,.N r0.length,.I i0,.I (wr .i64 ((r0.length:Int)-(b.length:Int))),.L b,.I (fp q),.I (fe q),.N (fm q).length,.L (fm q),.I (fp q),.I (fe q),.N (fm q).length,.L (fm q),.L r0] κ =
   if t0=0 then κ 0 [.N r0.length,.L r0] else κ 1 [.N r0.length,.N t0,.L (dvT (fadd q) (fmul q) (fneg q) b i0 r0 t0 t0).2,.L (dvT (fadd q) (fmul q) (fneg q) b i0 r0 t0 t0).1]:=by
 obtain ⟨f,hf,hf2⟩:=fuel_pred
 have F:=fld q hq
 unfold L292_9.b
 rw [hf,runE_succ,show ∀ (a b:Nat→LS_→Option τ) (l:LS_),L292_9.step a b 0 l=L292_9.s0 a b l from fun _ _ _=>rfl]
 unfold L292_9.s0
 simp only [g_,h_]
 rw [wr64 (n:=(r0.length:Int)-(b.length:Int)) (by omega) (by omega)]
 by_cases h0:t0=0
 ·rw [if_pos h0,br_no (by simp;omega)]
 ·rw [if_neg h0]
  obtain ⟨t,htt⟩:∃ t,t0-1=t:=⟨_,rfl⟩
  have e0:(r0.length:Int)-(b.length:Int)=(t:Nat):=by omega
  have e1:wr .i64 (wr .i64 ((t:Int)+(b.length:Int))-1)=((t+b.length-1:Nat):Int):=by
    rw [wr64 (n:=(t:Int)+(b.length:Int)) (by omega) (by omega),wr64 (by omega) (by omega)];omega
  have hx:=in_get F hr (t+b.length-1)
  have hm:=F.mul_in _ _ hx.1 hx.2 hi.1 hi.2
  have hn:=F.neg_in _ hm.1 hm.2
  have ih:=L292_9_spec1 hq hb hr hi hb0 (t0:=t0) (by omega) hs κ f 1 (by omega) (by omega) (by omega)
  rw [dvT,show t0-1-0=t by omega] at ih
  rw [e0,e1]
  simp only [Int.toNat_natCast,Nat.mul_one,Nat.zero_add]
  rw [br_of (by simp),ck_of (by simp;omega),ck_of (by simp;omega),ck_of (by simp),T104_of hq hx hi]
  simp only [sw_zero,gI_zero,h_]
  rw [S301_0_spec hq (by omega) hm]
  simp only [sw_zero,gN_zero,gL_succ,gL_zero,h_]
  rw [ck_of (by simp),T83_of hq hm]
  simp only [sw_zero,gI_zero,h_]
  rw [S302_0_spec hq hn hb hr (by omega) (by omega) rfl]
  simp only [sw_zero,gN_zero,gL_succ,gL_zero,h_]
  have e2:wr .i64 ((t:Int)-1)=(t0:Int)-1-((1:Nat):Int):=by rw [wr64 (by omega) (by omega)];omega
  rw [e2,show t+1=t0 by omega]
  exact ih
theorem F292_spec (hq:q∈Qs) {A B:List Int} (hA:InQ q A) (hB:InQ q B) (sA:A.length<2^20) (sB:B.length<2^20) {b r0:List Int} {t0:Nat} (eb:trimI B=b) (er:trimI A=r0) (et:t0=r0.length+1-b.length) {D:List Int×List Int} (eD:dvT (fadd q) (fmul q) (fneg q) b (finv q (b.getD (b.length-1) 0)) r0 t0 t0=D) {τ:Type} (k:Nat→LS_→Option τ) :
  F292 [.I (fp q),.I (fe q),.L (fm q),.L A,.L B] k=if b=[] then k 0 [] else
   (if trimI D.1=[] then (if trimI D.2=[] then k 4 [.N 0,.N 0] else k 3 [.N 0,.N (trimI D.2).length,.L (trimI D.2)])
   else (if trimI D.2=[] then k 2 [.N (trimI D.1).length,.N 0,.L (trimI D.1)] else k 1 [.N (trimI D.1).length,.N (trimI D.2).length,.L (trimI D.1),.L (trimI D.2)])):=by
 obtain ⟨f,hf,hf2⟩:=fuel_pred
 have F:=fld q hq
 have bi:InQ q b:=eb▸trimI_in hB
 have ri:InQ q r0:=er▸trimI_in hA
 have lb:=trimI_le B
 have lr:=trimI_le A
 rw [eb] at lb
 rw [er] at lr
 have t00:trimI ([]:List Int)=[]:=rfl
 unfold F292
 simp only [g_,h_]
 rw [ck_of (by simp),F288_spec (by omega),eb]
 by_cases hb0:b=[]
 ·rw [if_pos hb0,if_pos hb0]
  simp only [sw_one,sw_zero,gN_zero,h_]
  rw [br_of (by simp)]
 ·have hbp:0<b.length:=List.length_pos_iff.2 hb0
  have hlast:b.getD (b.length-1) 0≠0:=by
   have:=trimI_last (a:=B) (by rw [eb];exact hb0)
   rw [eb] at this
   rw [←eb,trimI_get,eb];exact this
  have hbl:=in_get F bi (b.length-1)
  have hinv:=F.inv_in _ hbl.1 hbl.2
  have e1:wr .i64 ((b.length:Int)-1)=((b.length-1:Nat):Int):=by rw [wr64 (by omega) (by omega)];omega
  rw [if_neg hb0,if_neg hb0]
  simp only [sw_zero,gN_zero,gL_succ,gL_zero,h_]
  rw [br_no (by simp;omega),ck_of (by simp),F288_spec (by omega),er]
  by_cases hr0:r0=[]
  ·have ht0:t0=0:=by rw [et,hr0];simp;omega
   subst ht0
   subst hr0
   have:D=([],[]):=by rw [←eD];rfl
   subst this
   rw [if_pos rfl]
   simp only [sw_one,sw_zero,gN_zero,e1,Int.toNat_natCast,Nat.mul_one,Nat.zero_add,h_]
   rw [ck_of (by simp;omega),ck_of (by simp;omega),ck_of (by simp),T116_of hq hbl hlast]
   simp only [sw_zero,gI_zero,h_]
   unfold L292_9_1.b
   rw [hf,runE_succ,show ∀ (a b:Nat→LS_→Option τ) (l:LS_),L292_9_1.step a b 0 l=L292_9_1.s0 a b l from fun _ _ _=>rfl]
   unfold L292_9_1.s0
   simp only [g_,h_]
   rw [br_no (by rw [wr64 (by omega) (by omega)];simp;omega)]
   simp only [sw_zero,gN_zero,h_]
   rw [F288_spec (by simp),t00,if_pos rfl]
   simp only [sw_one,sw_zero,gN_zero,h_]
   rw [ck_of (by simp),F288_spec (by simp),t00,if_pos rfl]
   simp
  ·have hrp:0<r0.length:=List.length_pos_iff.2 hr0
   rw [if_neg hr0]
   simp only [sw_zero,gN_zero,gL_succ,gL_zero,e1,Int.toNat_natCast,Nat.mul_one,Nat.zero_add,h_]
   rw [ck_of (by simp;omega),ck_of (by simp;omega),ck_of (by simp),T116_of hq hbl hlast]
   simp only [sw_zero,gI_zero,h_]
   rw [L292_9_spec hq bi ri hinv hbp et (by omega) (by omega),eD]
   have dl:=dvT_len (add:=fadd q) (mul:=fmul q) (neg:=fneg q) (i0:=finv q (b.getD (b.length-1) 0)) (b:=b) (r0:=r0) (t0:=t0)
   have dq:=dvT_qlen (add:=fadd q) (mul:=fmul q) (neg:=fneg q) (b:=b) (i0:=finv q (b.getD (b.length-1) 0)) (r0:=r0) t0 (Nat.le_refl _)
   by_cases h0:t0=0
   ·rw [if_pos h0]
    subst h0
    have:D=([],r0):=by rw [←eD];rfl
    subst this
    simp only [sw_zero,gN_zero,gL_succ,gL_zero,Nat.mul_one,List.drop_zero,h_]
    rw [F288_spec (by simp),t00,if_pos rfl,if_pos rfl]
    simp only [sw_one,sw_zero,gN_zero,h_]
    rw [List.take_length,ck_of (by simp),F288_spec (by omega)]
    by_cases hz:trimI r0=[]
    ·rw [if_pos hz,if_pos hz];rfl
    ·rw [if_neg hz,if_neg hz];rfl
   ·have dl2:=dl (by omega) hbp t0 (Nat.le_refl _)
    rw [if_neg h0] at dq ⊢
    rw [eD] at dl2 dq
    simp only [g_,sw_one,sw_zero,Nat.mul_one,List.drop_zero,h_]
    have f1:List.take t0 D.1=D.1:=List.take_of_length_le (by omega)
    have f2:List.take r0.length D.2=D.2:=List.take_of_length_le (by omega)
    rw [f1,f2,ck_of (by simp;omega),F288_spec (by omega)]
    by_cases h1:trimI D.1=[]
    ·rw [if_pos h1,if_pos h1]
     simp only [sw_one,sw_zero,gN_zero,h_]
     rw [ck_of (by simp;omega),F288_spec (by omega)]
     by_cases hz:trimI D.2=[]
     ·rw [if_pos hz,if_pos hz];rfl
     ·rw [if_neg hz,if_neg hz];rfl
    ·rw [if_neg h1,if_neg h1]
     simp only [sw_zero,gN_zero,gL_succ,gL_zero,h_]
     rw [ck_of (by simp;omega),F288_spec (by omega)]
     by_cases hz:trimI D.2=[]
     ·rw [if_pos hz,if_pos hz];rfl
     ·rw [if_neg hz,if_neg hz];rfl
theorem T292_spec (hq:q∈Qs) {A B:List Int} (hA:InQ q A) (hB:InQ q B) (sA:A.length<2^20) (sB:B.length<2^20) {b r0:List Int} {t0:Nat} (eb:trimI B=b) (er:trimI A=r0) (et:t0=r0.length+1-b.length) {D:List Int×List Int} (eD:dvT (fadd q) (fmul q) (fneg q) b (finv q (b.getD (b.length-1) 0)) r0 t0 t0=D) {τ:Type} (k:Nat→LS_→Option τ) :
  T292 [.I (fp q),.I (fe q),.L (fm q),.L A,.L B] k=if b=[] then k 0 [.L [],.L [],.I 3] else k 0 [.L (trimI D.1),.L (trimI D.2),.I 0]:=by
 have h:=fun {σ:Type} (κ:Nat→LS_→Option σ)=>F292_spec hq hA hB sA sB eb er et eD κ
 by_cases hb:b=[]
 ·simp only [if_pos hb] at h ⊢
  exact wrap_of (e:=F292.E) (p:=.tup [pR,pR,pI]) (j:=0) (l2:=[]) (c:=true) (ls':=[.L [],.L [],.I 3]) (by intro τ κ;kernel_rfl) rfl (fun κ=>h κ)
 ·simp only [if_neg hb] at h ⊢
  generalize trimI D.1=x at h ⊢
  generalize trimI D.2=y at h ⊢
  by_cases hx:x=[]
  ·simp only [if_pos hx] at h
   subst hx
   by_cases hy:y=[]
   ·simp only [if_pos hy] at h
    subst hy
    exact wrap_of (e:=F292.E) (p:=.tup [pR,pR,pI]) (j:=4) (l2:=[.N 0,.N 0]) (c:=true) (ls':=[.L [],.L [],.I 0]) (by intro τ κ;kernel_rfl) rfl (fun κ=>h κ)
   ·simp only [if_neg hy] at h
    have:=wrap_of (e:=F292.E) (p:=.tup [pR,pR,pI]) (ls:=[.I (fp q),.I (fe q),.L (fm q),.L A,.L B]) (j:=3) (l2:=[.N 0,.N y.length,.L y]) (c:=decide (y.length=(List.take (y.length*1) (List.drop 0 y)).length)&&(true&&true)) (ls':=[.L [],.L (List.take (y.length*1) (List.drop 0 y)),.I 0]) (by intro τ κ;kernel_rfl) (by simp) (k:=k) (fun κ=>h κ)
    rw [Nat.mul_one,List.drop_zero,List.take_length] at this
    exact this
  ·simp only [if_neg hx] at h
   by_cases hy:y=[]
   ·simp only [if_pos hy] at h
    subst hy
    have:=wrap_of (e:=F292.E) (p:=.tup [pR,pR,pI]) (ls:=[.I (fp q),.I (fe q),.L (fm q),.L A,.L B]) (j:=2) (l2:=[.N x.length,.N 0,.L x]) (c:=decide (x.length=(List.take (x.length*1) (List.drop 0 x)).length)&&(true&&(true&&true))) (ls':=[.L (List.take (x.length*1) (List.drop 0 x)),.L [],.I 0]) (by intro τ κ;kernel_rfl) (by simp) (k:=k) (fun κ=>h κ)
    rw [Nat.mul_one,List.drop_zero,List.take_length] at this
    exact this
   ·simp only [if_neg hy] at h
    have:=wrap_of (e:=F292.E) (p:=.tup [pR,pR,pI]) (ls:=[.I (fp q),.I (fe q),.L (fm q),.L A,.L B]) (j:=1) (l2:=[.N x.length,.N y.length,.L x,.L y]) (c:=decide (x.length=(List.take (x.length*1) (List.drop 0 x)).length)&&(decide (y.length=(List.take (y.length*1) (List.drop 0 y)).length)&&(true&&true))) (ls':=[.L (List.take (x.length*1) (List.drop 0 x)),.L (List.take (y.length*1) (List.drop 0 y)),.I 0]) (by intro τ κ;kernel_rfl) (by simp) (k:=k) (fun κ=>h κ)
    simp only [Nat.mul_one,List.drop_zero,List.take_length] at this
    exact this
end
end
end Go.Proofs.Yticbdgmcofjkeaa.Ai
namespace Go.Proofs.Yticbdgmcofjkeaa.Ai
open Go Go.RowKit
noncomputable section
variable {τ:Type} (t:Nat) (nx ex:Nat→LS_→Option τ) (l:LS_) (k κ:Nat→LS_→Option τ)
def L280_3.H:LHead:=⟨false,true,0,466947,466947,3671190,1046,0,[(PS.mk (us 1 (pI::pI::us 1 ((pp 0)::us 2 ((pp 1)::us 2 (nS::us 8 (qR::pI::pI::us 80 [])))))) [(oG [pI,pI,qR,pI]),(oG [qR,qR])]),(PS.mk (us 1 (pI::pI::us 1 ((pp 0)::us 2 ((pp 1)::us 2 ((rr 2)::us 8 (qR::pI::pI::us 80 [])))))) [(oG [pI,pI,qR,pI]),(oG [qR,qR]),oM])],[((Out.exit 0),(PS.mk (us 1 (pI::pI::us 1 ((pp 0)::us 5 (nS::us 91 [])))) [(oG [pI,pI,qR,pI])])),((Out.exit 0),(PS.mk (us 1 (pI::pI::us 1 ((pp 0)::us 5 ((rr 1)::us 91 [])))) [(oG [pI,pI,qR,pI]),oM]))]⟩
def L280_3.O:Orc P:=⟨[F275.E,T290.E,T83.E],[],[],40⟩
def L280_3.s0:Option τ :=
 br (ltI (gI l 5) (gI l 4))
 (ck (((leI 0 (gI l 5))&&(ltI (gI l 5) (gN l 2)))&&true)
 (ck (ltN ((Int.toNat (gI l 5))*1) (gL l 3).length)
 (ck ((eqM (gN l 13) (gL l 14).length)&&true)
 (F275 [vG l 14,iG l 5]
 (fun j A=>(sw (br (gB A 0)
 (nx 0 [iG l 0,iG l 1,nG l 2,vG l 3,iG l 4,.I (wr .i64 ((gI l 5)+1)),iG l 6,iG l 7,nG l 8,vG l 9,iG l 10,nG l 11,vG l 12,nG l 13,vG l 14])
 (ck (((eqM (gN l 8) (gL l 9).length)&&true)&&true)
 (T290 [iG l 6,iG l 7,vG l 9,iG l 10,.I (wr .i64 ((gI l 5)+1)),.I 1,.I (wr .i64 ((gI l 0)+(gI l 1)))]
 (fun j B=>(sw (ck (((eqM (gN l 8) (gL l 9).length)&&true)&&true)
 (T83 [iG l 6,iG l 7,vG l 9,.I (List.getD (gL l 3) ((Int.toNat (gI l 5))*1) 0)]
 (fun j C=>(sw (ck (((eqM (gN l 8) (gL l 9).length)&&true)&&true)
 (T290 [iG l 6,iG l 7,vG l 9,iG l 10,.I (wr .i64 ((gI l 5)+1)),iG C 0,.I (wr .i64 ((gI l 1)+1))]
 (fun j D=>(sw (ck (((((eqM (gL B 1).length ((gN B 0)*1))&&true)&&(eqM (List.take ((gN D 0)*1) (List.drop 0 (gL D 1))).length ((gN D 0)*1)))&&(leN (((gN B 0)+(gN D 0))*9) 1099511627776))&&true)
 (ck ((eqM ((gN B 0)+(gN D 0)) (List.take (((gN B 0)+(gN D 0))*1) (List.drop 0 ((gL B 1)++(List.take ((gN D 0)*1) (List.drop 0 (gL D 1)))))).length)&&true)
 (nx 1 [iG l 0,iG l 1,.N 1,nG l 2,vG l 3,iG l 4,.I (wr .i64 ((gI l 5)+1)),iG l 6,iG l 7,nG l 8,vG l 9,iG l 10,nG l 11,vG l 12,nG l 13,vG l 14,.LL (List.take 1 (List.drop 0 [(List.take (((gN B 0)+(gN D 0))*1) (List.drop 0 ((gL B 1)++(List.take ((gN D 0)*1) (List.drop 0 (gL D 1))))))]))])))
 (fun _=>none)) j)))
 (fun _=>none)) j)))
 (fun _=>none)) j))))
 (fun _=>none)) j)))))
 (ex 0 [iG l 0,iG l 1,iG l 6,iG l 7,nG l 8,vG l 9,iG l 10])
theorem L280_3.e0:LEq L280_3.O L280_3.H 0 L280_3.s0:=by intro τ next κ l;kernel_rfl
def L280_3.s1:Option τ :=
 br (ltI (gI l 6) (gI l 5))
 (ck (((leI 0 (gI l 6))&&(ltI (gI l 6) (gN l 3)))&&true)
 (ck (ltN ((Int.toNat (gI l 6))*1) (gL l 4).length)
 (ck ((eqM (gN l 14) (gL l 15).length)&&true)
 (F275 [vG l 15,iG l 6]
 (fun j A=>(sw (br (gB A 0)
 (nx 1 [iG l 0,iG l 1,nG l 2,nG l 3,vG l 4,iG l 5,.I (wr .i64 ((gI l 6)+1)),iG l 7,iG l 8,nG l 9,vG l 10,iG l 11,nG l 12,vG l 13,nG l 14,vG l 15,wG l 16])
 (ck (((eqM (gN l 9) (gL l 10).length)&&true)&&true)
 (T290 [iG l 7,iG l 8,vG l 10,iG l 11,.I (wr .i64 ((gI l 6)+1)),.I 1,.I (wr .i64 ((gI l 0)+(gI l 1)))]
 (fun j B=>(sw (ck (((eqM (gN l 9) (gL l 10).length)&&true)&&true)
 (T83 [iG l 7,iG l 8,vG l 10,.I (List.getD (gL l 4) ((Int.toNat (gI l 6))*1) 0)]
 (fun j C=>(sw (ck (((eqM (gN l 9) (gL l 10).length)&&true)&&true)
 (T290 [iG l 7,iG l 8,vG l 10,iG l 11,.I (wr .i64 ((gI l 6)+1)),iG C 0,.I (wr .i64 ((gI l 1)+1))]
 (fun j D=>(sw (ck (((((eqM (gL B 1).length ((gN B 0)*1))&&true)&&(eqM (List.take ((gN D 0)*1) (List.drop 0 (gL D 1))).length ((gN D 0)*1)))&&(leN (((gN B 0)+(gN D 0))*9) 1099511627776))&&true)
 (ck ((eqM ((gN B 0)+(gN D 0)) (List.take (((gN B 0)+(gN D 0))*1) (List.drop 0 ((gL B 1)++(List.take ((gN D 0)*1) (List.drop 0 (gL D 1)))))).length)&&true)
 (ck (((((eqM (gLL l 16).length ((gN l 2)*1))&&true)&&(eqM 1 1))&&(leN (((gN l 2)+1)*25) 1099511627776))&&true)
 (nx 1 [iG l 0,iG l 1,.N ((gN l 2)+1),nG l 3,vG l 4,iG l 5,.I (wr .i64 ((gI l 6)+1)),iG l 7,iG l 8,nG l 9,vG l 10,iG l 11,nG l 12,vG l 13,nG l 14,vG l 15,.LL ((gLL l 16)++(List.take 1 (List.drop 0 [(List.take (((gN B 0)+(gN D 0))*1) (List.drop 0 ((gL B 1)++(List.take ((gN D 0)*1) (List.drop 0 (gL D 1))))))])))]))))
 (fun _=>none)) j)))
 (fun _=>none)) j)))
 (fun _=>none)) j))))
 (fun _=>none)) j)))))
 (ex 1 [iG l 0,iG l 1,nG l 2,iG l 7,iG l 8,nG l 9,vG l 10,iG l 11,wG l 16])
theorem L280_3.e1:LEq L280_3.O L280_3.H 1 L280_3.s1:=by intro τ next κ l;kernel_rfl
def L280_3:LStep P Cf:=LStep.mk2 (by decide) L280_3.e0 L280_3.e1
def L280_3.b:Option τ:=runE L280_3 fuel κ t l
def L280_3.E:LEnt P:=LStep.E L280_3
def F280.ps:List PV2:=[qOver,pI,pI,pNoisy]
def F280.sh:List PA:=[(PA.mk (PV3.tup [nS,(PV2.v (PV1.boolC false))]) []),(PA.mk (PV3.tup [qR,pB]) []),(PA.mk (PV3.tup [qR,(PV2.v (PV1.boolC false))]) [])]
def F280.O:Orc P:=⟨[T291.E,T288.E,T292.E],[L280_3.E],[],40⟩
def F280:Option τ :=
 L280_3.b 0 [iG l 4,iG l 5,.N (gL l 6).length,vG l 6,.I (((gL l 6).length:Nat):Int),.I 0,iG l 0,iG l 1,.N (gL l 2).length,vG l 2,iG l 3,.N (gL l 6).length,vG l 6,.N (gL l 7).length,vG l 7]
 (fun j A=>(sw (ck (((eqM (gN A 4) (gL A 5).length)&&true)&&true)
 (T291 [iG A 2,iG A 3,vG A 5,.I (wr .i64 ((wr .i64 ((gI A 0)+(wr .i64 (2*(gI A 1)))))+1)),.LL []]
 (fun j B=>(sw (br ((((gLL B 0).length:Nat):Int)==0)
 (k 0 [])
 (ck ((ltI 0 (gLL B 0).length)&&true)
 (ck (ltN 0 (gLL B 0).length)
 (ck (((((leI 0 (wr .i64 ((gI A 0)+(gI A 1))))&&(leI (wr .i64 ((gI A 0)+(gI A 1))) (wr .i64 ((gI A 0)+(gI A 1)))))&&(leI (wr .i64 ((gI A 0)+(gI A 1))) (((List.getD (gLL B 0) 0 []).length:Nat):Int)))&&(eqM (List.getD (gLL B 0) 0 []).length ((List.getD (gLL B 0) 0 []).length*1)))&&true)
 (ck ((eqM ((Int.toNat (wr .i64 ((gI A 0)+(gI A 1))))-0) (List.take (((Int.toNat (wr .i64 ((gI A 0)+(gI A 1))))-0)*1) (List.drop 0 (List.getD (gLL B 0) 0 []))).length)&&true)
 (T288 [.L (List.take (((Int.toNat (wr .i64 ((gI A 0)+(gI A 1))))-0)*1) (List.drop 0 (List.getD (gLL B 0) 0 [])))]
 (fun j C=>(sw (ck ((ltI 0 (gLL B 0).length)&&true)
 (ck (ltN 0 (gLL B 0).length)
 (ck ((((((leI 0 (wr .i64 ((gI A 0)+(gI A 1))))&&(leI (wr .i64 ((gI A 0)+(gI A 1))) (((List.getD (gLL B 0) 0 []).length:Nat):Int)))&&(leI (((List.getD (gLL B 0) 0 []).length:Nat):Int) (((List.getD (gLL B 0) 0 []).length:Nat):Int)))&&(leI (((List.getD (gLL B 0) 0 []).length:Nat):Int) (((List.getD (gLL B 0) 0 []).length:Nat):Int)))&&(eqM (List.getD (gLL B 0) 0 []).length ((List.getD (gLL B 0) 0 []).length*1)))&&true)
 (ck ((eqM ((Int.toNat (((List.getD (gLL B 0) 0 []).length:Nat):Int))-(Int.toNat (wr .i64 ((gI A 0)+(gI A 1))))) (List.take (((Int.toNat (((List.getD (gLL B 0) 0 []).length:Nat):Int))-(Int.toNat (wr .i64 ((gI A 0)+(gI A 1)))))*1) (List.drop ((Int.toNat (wr .i64 ((gI A 0)+(gI A 1))))*1) (List.getD (gLL B 0) 0 []))).length)&&true)
 (T288 [.L (List.take (((Int.toNat (((List.getD (gLL B 0) 0 []).length:Nat):Int))-(Int.toNat (wr .i64 ((gI A 0)+(gI A 1)))))*1) (List.drop ((Int.toNat (wr .i64 ((gI A 0)+(gI A 1))))*1) (List.getD (gLL B 0) 0 [])))]
 (fun j D=>(sw (ck (((eqM (gN A 4) (gL A 5).length)&&true)&&((eqM (gL C 0).length (gL C 0).length)&&((eqM (gL D 0).length (gL D 0).length)&&true)))
 (T292 [iG A 2,iG A 3,vG A 5,vG C 0,vG D 0]
 (fun j E=>(sw (br ((gI E 2)==0)
 (br ((((gL E 1).length:Nat):Int)==0)
 (k 1 [.N (gL E 0).length,vG E 0,.B (leI (((gL E 0).length:Nat):Int) (gI A 0))])
 (k 2 [.N (gL E 0).length,vG E 0]))
 (k 2 [.N (gL E 0).length,vG E 0]))
 (fun _=>none)) j)))
 (fun _=>none)) j))))))
 (fun _=>none)) j)))))))
 (fun _=>none)) j)))
 (sw (ck (((eqM (gN A 5) (gL A 6).length)&&true)&&((eqM (gN A 2) (List.take ((gN A 2)*1) (List.drop 0 (gLL A 8))).length)&&true))
 (T291 [iG A 3,iG A 4,vG A 6,.I (wr .i64 ((wr .i64 ((gI A 0)+(wr .i64 (2*(gI A 1)))))+1)),.LL (List.take ((gN A 2)*1) (List.drop 0 (gLL A 8)))]
 (fun j B=>(sw (br ((((gLL B 0).length:Nat):Int)==0)
 (k 0 [])
 (ck ((ltI 0 (gLL B 0).length)&&true)
 (ck (ltN 0 (gLL B 0).length)
 (ck (((((leI 0 (wr .i64 ((gI A 0)+(gI A 1))))&&(leI (wr .i64 ((gI A 0)+(gI A 1))) (wr .i64 ((gI A 0)+(gI A 1)))))&&(leI (wr .i64 ((gI A 0)+(gI A 1))) (((List.getD (gLL B 0) 0 []).length:Nat):Int)))&&(eqM (List.getD (gLL B 0) 0 []).length ((List.getD (gLL B 0) 0 []).length*1)))&&true)
 (ck ((eqM ((Int.toNat (wr .i64 ((gI A 0)+(gI A 1))))-0) (List.take (((Int.toNat (wr .i64 ((gI A 0)+(gI A 1))))-0)*1) (List.drop 0 (List.getD (gLL B 0) 0 []))).length)&&true)
 (T288 [.L (List.take (((Int.toNat (wr .i64 ((gI A 0)+(gI A 1))))-0)*1) (List.drop 0 (List.getD (gLL B 0) 0 [])))]
 (fun j C=>(sw (ck ((ltI 0 (gLL B 0).length)&&true)
 (ck (ltN 0 (gLL B 0).length)
 (ck ((((((leI 0 (wr .i64 ((gI A 0)+(gI A 1))))&&(leI (wr .i64 ((gI A 0)+(gI A 1))) (((List.getD (gLL B 0) 0 []).length:Nat):Int)))&&(leI (((List.getD (gLL B 0) 0 []).length:Nat):Int) (((List.getD (gLL B 0) 0 []).length:Nat):Int)))&&(leI (((List.getD (gLL B 0) 0 []).length:Nat):Int) (((List.getD (gLL B 0) 0 []).length:Nat):Int)))&&(eqM (List.getD (gLL B 0) 0 []).length ((List.getD (gLL B 0) 0 []).length*1)))&&true)
 (ck ((eqM ((Int.toNat (((List.getD (gLL B 0) 0 []).length:Nat):Int))-(Int.toNat (wr .i64 ((gI A 0)+(gI A 1))))) (List.take (((Int.toNat (((List.getD (gLL B 0) 0 []).length:Nat):Int))-(Int.toNat (wr .i64 ((gI A 0)+(gI A 1)))))*1) (List.drop ((Int.toNat (wr .i64 ((gI A 0)+(gI A 1))))*1) (List.getD (gLL B 0) 0 []))).length)&&true)
 (T288 [.L (List.take (((Int.toNat (((List.getD (gLL B 0) 0 []).length:Nat):Int))-(Int.toNat (wr .i64 ((gI A 0)+(gI A 1)))))*1) (List.drop ((Int.toNat (wr .i64 ((gI A 0)+(gI A 1))))*1) (List.getD (gLL B 0) 0 [])))]
 (fun j D=>(sw (ck (((eqM (gN A 5) (gL A 6).length)&&true)&&((eqM (gL C 0).length (gL C 0).length)&&((eqM (gL D 0).length (gL D 0).length)&&true)))
 (T292 [iG A 3,iG A 4,vG A 6,vG C 0,vG D 0]
 (fun j E=>(sw (br ((gI E 2)==0)
 (br ((((gL E 1).length:Nat):Int)==0)
 (k 1 [.N (gL E 0).length,vG E 0,.B (leI (((gL E 0).length:Nat):Int) (gI A 0))])
 (k 2 [.N (gL E 0).length,vG E 0]))
 (k 2 [.N (gL E 0).length,vG E 0]))
 (fun _=>none)) j)))
 (fun _=>none)) j))))))
 (fun _=>none)) j)))))))
 (fun _=>none)) j)))
 (fun _=>none))) j)
theorem F280.eq:FEq F280.O 114 F280.ps F280.sh F280:=by intro τ l κ;kernel_rfl
def F280.E:Ent P:=mkF F280.eq
end
end Go.Proofs.Yticbdgmcofjkeaa.Ai
namespace Go.Proofs.Yticbdgmcofjkeaa.Ai
open Go Go.RowKit
noncomputable section
def T280 {τ:Type} (l:LS_) (k:Nat→LS_→Option τ):Option τ:=wrapB F280.E (.tup [pR,pB]) l k
def T280.E:Ent P:=F280.E.wrap (.tup [pR,pB])
end
end Go.Proofs.Yticbdgmcofjkeaa.Ai
namespace Go.Proofs.Yticbdgmcofjkeaa.Ai
open Go Ma Go.RowKit
noncomputable section
theorem trimI_idem (a:List Int):trimI (trimI a)=trimI a:=by
 by_cases h:trimI a=[]
 ·rw [h];rfl
 ·refine ext_getD ?_ fun j _=>trimI_get _ _
  refine Nat.le_antisymm (trimI_le _) (Nat.le_of_not_lt fun hl=>?_)
  have h1:=trimI_last h
  rw [←trimI_get a,←trimI_get (trimI a)] at h1
  exact h1 (getD_far (by omega))
theorem eqR_len {mul:Int→Int→Int} {neg:Int→Int} {k e:Nat} {w:List Int} {i:Nat}:(eqR mul neg k e w i).length=k+e+(e+1):=by simp [eqR,pwI_len]
theorem eqs_succ {mul:Int→Int→Int} {neg:Int→Int} {k e:Nat} {w:List Int} {lost:Nat→Bool} {j:Nat}:eqs mul neg k e w lost (j+1)=if lost j=true then eqs mul neg k e w lost j else eqs mul neg k e w lost j++[eqR mul neg k e w j]:=by
 unfold eqs kept
 rw [List.range_succ,List.filter_append]
 cases h:lost j <;> simp [h]
theorem eqs_len {mul:Int→Int→Int} {neg:Int→Int} {k e:Nat} {w:List Int} {lost:Nat→Bool} {j:Nat}:(eqs mul neg k e w lost j).length≤j:=by
 unfold eqs kept
 rw [List.length_map]
 exact Nat.le_trans (List.length_filter_le _ _) (by simp)
section
variable {q:Nat}
theorem L280_3_spec1 (hq:q∈Qs) {w g:List Int} (hw:InQ q w) (hwl:w.length=q-1) (hg:g.length<2^20) {k e:Nat} (hk:k+e<2^18) {τ:Type} (κ:Nat→LS_→Option τ):∀ (f j:Nat),j≤w.length→w.length-j<f →
  runE L280_3 f κ 1 [.I k,.I e,.N (eqs (fmul q) (fneg q) k e w (lostI g) j).length,.N w.length,.L w,.I w.length,.I j,.I (fp q),.I (fe q),.N (fm q).length,.L (fm q),.I q,.N w.length,.L w,.N g.length,.L g,.LL (eqs (fmul q) (fneg q) k e w (lostI g) j)] =
   κ 1 [.I k,.I e,.N (eqs (fmul q) (fneg q) k e w (lostI g) w.length).length,.I (fp q),.I (fe q),.N (fm q).length,.L (fm q),.I q,.LL (eqs (fmul q) (fneg q) k e w (lostI g) w.length)]
 | 0,j,h1,h2=>by omega
 | f+1,j,h1,h2=>by
  have F:=fld q hq
  have h16:=qs16 hq
  have q1:=F.one_lt
  have el:=eqs_len (mul:=fmul q) (neg:=fneg q) (k:=k) (e:=e) (w:=w) (lost:=lostI g) (j:=j)
  rw [runE_succ]
  show L280_3.s1 _ _ _=_
  unfold L280_3.s1
  simp only [g_,gLN_zero,gLN_succ,Int.toNat_natCast,Nat.mul_one,Nat.zero_add,List.drop_zero,List.take_length,h_]
  by_cases hj:j<w.length
  ·have key:=L280_3_spec1 hq hw hwl hg hk κ f (j+1) (by omega) (by omega)
   rw [eqs_succ] at key
   have hy:=hw j hj
   have hn:=F.neg_in _ hy.1 hy.2
   rw [br_of (by simp;omega),ck_of (by simp;omega),ck_of (by simp;omega),ck_of (by simp),F275_in (by omega)]
   simp only [sw_zero,gB_zero,h_]
   by_cases hc:lostI g j=true
   ·rw [if_pos hc] at key
    rw [br_of hc,wsucc (by omega)]
    exact key
   ·rw [if_neg hc,List.length_append,List.length_singleton] at key
    have e1:wr .i64 ((k:Int)+(e:Int))=((k+e:Nat):Int):=by rw [wr64 (by omega) (by omega)];omega
    rw [br_no (by simpa using hc),ck_of (by simp),wsucc (by omega),e1,T290_spec hq (by omega) (by omega) (by omega)]
    simp only [sw_zero,gN_zero,gL_zero,gL_succ,h_]
    rw [ck_of (by simp),T83_of hq hy]
    simp only [sw_zero,gI_zero,h_]
    rw [ck_of (by simp),wsucc (by omega),T290_spec hq (by omega) hn (by omega)]
    simp only [sw_zero,gN_zero,gL_zero,gL_succ,Nat.mul_one,List.drop_zero,h_]
    have t1:List.take (e+1) (pwI (fmul q) ((j+1:Nat):Int) (fneg q (w.getD j 0)) (e+1))=pwI (fmul q) ((j+1:Nat):Int) (fneg q (w.getD j 0)) (e+1):=List.take_of_length_le (by rw [pwI_len];omega)
    have t2:List.take (k+e+(e+1)) (pwI (fmul q) ((j+1:Nat):Int) 1 (k+e)++pwI (fmul q) ((j+1:Nat):Int) (fneg q (w.getD j 0)) (e+1))=eqR (fmul q) (fneg q) k e w j:=by
     rw [List.take_of_length_le (by simp [pwI_len])];rfl
    have t3:List.take 1 [eqR (fmul q) (fneg q) k e w j]=[eqR (fmul q) (fneg q) k e w j]:=rfl
    rw [t1,t2,t3,ck_of (by simp [pwI_len];omega),ck_of (by simp [eqR_len]),ck_of (by simp;omega)]
    exact key
  ·have:j=w.length:=by omega
   subst this
   rw [br_no (by simp)]
theorem L280_3_spec0 (hq:q∈Qs) {w g:List Int} (hw:InQ q w) (hwl:w.length=q-1) (hg:g.length<2^20) {k e:Nat} (hk:k+e<2^18) (hne:eqs (fmul q) (fneg q) k e w (lostI g) w.length≠[]) {τ:Type} (κ:Nat→LS_→Option τ):∀ (f j:Nat),j≤w.length→w.length-j<f→eqs (fmul q) (fneg q) k e w (lostI g) j=[] →
  runE L280_3 f κ 0 [.I k,.I e,.N w.length,.L w,.I w.length,.I j,.I (fp q),.I (fe q),.N (fm q).length,.L (fm q),.I q,.N w.length,.L w,.N g.length,.L g] =
   κ 1 [.I k,.I e,.N (eqs (fmul q) (fneg q) k e w (lostI g) w.length).length,.I (fp q),.I (fe q),.N (fm q).length,.L (fm q),.I q,.LL (eqs (fmul q) (fneg q) k e w (lostI g) w.length)]
 | 0,j,h1,h2,h3=>by omega
 | f+1,j,h1,h2,h3=>by
  have F:=fld q hq
  have h16:=qs16 hq
  have q1:=F.one_lt
  rw [runE_succ]
  show L280_3.s0 _ _ _=_
  unfold L280_3.s0
  simp only [g_,gLN_zero,gLN_succ,Int.toNat_natCast,Nat.mul_one,Nat.zero_add,List.drop_zero,List.take_length,h_]
  by_cases hj:j<w.length
  ·have hy:=hw j hj
   have hn:=F.neg_in _ hy.1 hy.2
   rw [br_of (by simp;omega),ck_of (by simp;omega),ck_of (by simp;omega),ck_of (by simp),F275_in (by omega)]
   simp only [sw_zero,gB_zero,h_]
   by_cases hc:lostI g j=true
   ·have key:=L280_3_spec0 hq hw hwl hg hk hne κ f (j+1) (by omega) (by omega) (by rw [eqs_succ,if_pos hc,h3])
    rw [br_of hc,wsucc (by omega)]
    exact key
   ·have key:=L280_3_spec1 hq hw hwl hg hk κ f (j+1) (by omega) (by omega)
    rw [eqs_succ,if_neg hc,h3,List.nil_append,List.length_singleton] at key
    have e1:wr .i64 ((k:Int)+(e:Int))=((k+e:Nat):Int):=by rw [wr64 (by omega) (by omega)];omega
    rw [br_no (by simpa using hc),ck_of (by simp),wsucc (by omega),e1,T290_spec hq (by omega) (by omega) (by omega)]
    simp only [sw_zero,gN_zero,gL_zero,gL_succ,h_]
    rw [ck_of (by simp),T83_of hq hy]
    simp only [sw_zero,gI_zero,h_]
    rw [ck_of (by simp),wsucc (by omega),T290_spec hq (by omega) hn (by omega)]
    simp only [sw_zero,gN_zero,gL_zero,gL_succ,Nat.mul_one,List.drop_zero,h_]
    have t1:List.take (e+1) (pwI (fmul q) ((j+1:Nat):Int) (fneg q (w.getD j 0)) (e+1))=pwI (fmul q) ((j+1:Nat):Int) (fneg q (w.getD j 0)) (e+1):=List.take_of_length_le (by rw [pwI_len];omega)
    have t2:List.take (k+e+(e+1)) (pwI (fmul q) ((j+1:Nat):Int) 1 (k+e)++pwI (fmul q) ((j+1:Nat):Int) (fneg q (w.getD j 0)) (e+1))=eqR (fmul q) (fneg q) k e w j:=by
     rw [List.take_of_length_le (by simp [pwI_len])];rfl
    have t3:List.take 1 [eqR (fmul q) (fneg q) k e w j]=[eqR (fmul q) (fneg q) k e w j]:=rfl
    rw [t1,t2,t3,ck_of (by simp [pwI_len];omega),ck_of (by simp [eqR_len])]
    exact key
  ·have:j=w.length:=by omega
   subst this
   exact absurd h3 hne
theorem eqs_rows (hq:q∈Qs) {w:List Int} (hw:InQ q w) {k e:Nat} (hk:k+e<2^18) (lost:Nat→Bool):Rows q (k+e+(e+1)) (eqs (fmul q) (fneg q) k e w lost (q-1)):=by
 have h16:=qs16 hq
 refine ⟨fun r hr=>?_,by have:=eqs_len (mul:=fmul q) (neg:=fneg q) (k:=k) (e:=e) (w:=w) (lost:=lost) (j:=q-1);omega,by omega⟩
 obtain ⟨i,hi,_,e1⟩:=eqs_at hr
 rw [e1]
 exact eqR_wd hw hi (fld q hq)
theorem eqs_some {mul:Int→Int→Int} {neg:Int→Int} {k e:Nat} {w:List Int} {lost:Nat→Bool} {n:Nat} (h:nlost lost n<n):eqs mul neg k e w lost n≠[]:=by
 have key:∀ m,(kept lost m).length+nlost lost m=m:=fun m=>by
  induction m with
  | zero=>rfl
  | succ m ih =>
   unfold kept at ih ⊢
   rw [List.range_succ,List.filter_append,nlost,List.length_append]
   cases hl:lost m <;> simp [hl] <;> omega
 intro h0
 have h1:=key n
 have:(eqs mul neg k e w lost n).length=(kept lost n).length:=by simp [eqs]
 rw [h0] at this
 simp at this
 omega
theorem eqs_rank {k e:Nat} (hk:0<k) {w:List Int} {lost:Nat→Bool} {n:Nat} (h0:eqs (fmul q) (fneg q) k e w lost n≠[]):(red (fadd q) (fmul q) (fneg q) (finv q) (k+e+(e+1)) 0 0 (eqs (fmul q) (fneg q) k e w lost n)).2≠0:=by
 have hl:0<(eqs (fmul q) (fneg q) k e w lost n).length:=List.length_pos_iff.2 h0
 have he:ent (eqs (fmul q) (fneg q) k e w lost n) 0 0=1:=by
  obtain ⟨i,_,_,e1⟩:=eqs_at hl
  unfold ent
  rw [e1,eqR,app_getD,if_pos (by rw [pwI_len];omega),pwI_get (by omega)];rfl
 generalize eqs (fmul q) (fneg q) k e w lost n=m at hl he
 obtain ⟨u,hu⟩:∃ u,k+e+(e+1)=u+1:=⟨k+e+e,by omega⟩
 obtain ⟨l,hll⟩:∃ l,m.length-0=l+1:=⟨m.length-1,by omega⟩
 have hf:findp m 0 (m.length-0) 0=0:=by
  rw [hll,findp,if_pos hl,if_neg (by rw [he];omega)]
 rw [hu,red_succ,if_pos hl,hf,if_neg (by omega)]
 have:=red_pos (add:=fadd q) (mul:=fmul q) (neg:=fneg q) (inv:=finv q) u (0+1) (0+1) (elim (fadd q) (fmul q) (fneg q) (lift (fmul q) (finv q) m 0 0 0) 0 0)
 omega
theorem F280_spec (hq:q∈Qs) {w g:List Int} (hw:InQ q w) (hwl:w.length=q-1) (hg:g.length<2^20) {k e:Nat} (hk:0<k) (hk2:k+e<2^18) (hl:nlost (lostI g) (q-1)<q-1) {K:List (List Int)} (hK:kern q (k+e+(e+1)) (eqs (fmul q) (fneg q) k e w (lostI g) (q-1))=K) {N E r0 b:List Int} {t0:Nat} {D:List Int×List Int}
  (hN:(K.getD 0 []).take (k+e)=N) (hE:(K.getD 0 []).drop (k+e)=E) (eb:trimI E=b) (er:trimI N=r0) (et:t0=r0.length+1-b.length) (eD:dvT (fadd q) (fmul q) (fneg q) b (finv q (b.getD (b.length-1) 0)) r0 t0 t0=D) {τ:Type} (κ:Nat→LS_→Option τ) :
  F280 [.I (fp q),.I (fe q),.L (fm q),.I q,.I k,.I e,.L w,.L g] κ=if K=[] then κ 0 [] else if b=[] then κ 2 [.N 0,.L []] else if trimI D.2=[] then κ 1 [.N (trimI D.1).length,.L (trimI D.1),.B (decide ((trimI D.1).length≤k))] else κ 2 [.N (trimI D.1).length,.L (trimI D.1)]:=by
 have hfu:=fuel_le
 have F:=fld q hq
 have h16:=qs16 hq
 have hr:=eqs_rows hq hw hk2 (lostI g)
 have hne:=eqs_some (mul:=fmul q) (neg:=fneg q) (k:=k) (e:=e) (w:=w) hl
 have hrank:=eqs_rank (q:=q) hk hne
 unfold F280 L280_3.b
 simp only [g_,h_]
 refine Eq.trans (L280_3_spec0 hq hw hwl hg hk2 (by rw [hwl];exact hne) _ fuel 0 (by omega) (by omega) (by simp [eqs,kept])) ?_
 rw [hwl]
 have el:=eqs_len (mul:=fmul q) (neg:=fneg q) (k:=k) (e:=e) (w:=w) (lost:=lostI g) (j:=q-1)
 simp only [g_,sw_one,sw_zero,Nat.mul_one,List.drop_zero,List.take_length,h_]
 have e1:wr .i64 (wr .i64 ((k:Int)+wr .i64 (2*(e:Int)))+1)=((k+e+(e+1):Nat):Int):=by
  rw [wr64 (n:=2*(e:Int)) (by omega) (by omega),wr64 (n:=(k:Int)+2*(e:Int)) (by omega) (by omega),wr64 (by omega) (by omega)];omega
 have e2:wr .i64 ((k:Int)+(e:Int))=((k+e:Nat):Int):=by rw [wr64 (by omega) (by omega)];omega
 rw [ck_of (by simp),e1,T291_spec hq hr hne hrank,hK]
 simp only [sw_zero,gLL_zero,h_]
 by_cases hK0:K=[]
 ·rw [if_pos hK0,br_of (by rw [hK0] <;> rfl)]
 ·have hKl:0<K.length:=List.length_pos_iff.2 hK0
  obtain ⟨⟨pv,hR⟩,_⟩:=kern_spec hq hr
  rw [hK] at hR
  have wv:=hR.wd 0 hKl
  have vi:InQ q (K.getD 0 []):=fun j hj=>wv.2 j (by rw [←wv.1];exact hj)
  have vl:=wv.1
  rw [if_neg hK0,br_no (by simp;omega),ck_of (by simp;omega),ck_of (by simp;omega)]
  generalize hv:K.getD 0 []=v at vi vl hN hE ⊢
  have nl:N.length=k+e:=by rw [←hN];simp;omega
  have dl:E.length=e+1:=by rw [←hE];simp;omega
  have ni:InQ q N:=fun j hj=>by
   have:=vi j (by omega)
   rw [←hN,take_getD,if_pos (by omega)];exact this
  have ei:InQ q E:=fun j hj=>by
   have:=vi (k+e+j) (by omega)
   have e3:E.getD j 0=v.getD (k+e+j) 0:=by rw [←hE];simp [List.getD_eq_getElem?_getD]
   rw [e3];exact this
  have bl:=trimI_le E
  have rl:=trimI_le N
  simp only [e2,Int.toNat_natCast,Nat.sub_zero,Nat.mul_one,List.drop_zero,hN]
  rw [ck_of (by simp;omega),ck_of (by simp;omega),T288_spec (by omega)]
  simp only [sw_zero,gL_zero,h_]
  have tE:List.take (v.length-(k+e)) (List.drop (k+e) v)=E:=by rw [hE];exact List.take_of_length_le (by omega)
  rw [ck_of (by simp;omega),ck_of (by simp;omega),ck_of (by simp;omega),tE,ck_of (by simp;omega),T288_spec (by omega)]
  simp only [sw_zero,gL_zero,h_]
  rw [ck_of (by simp),eb,er,T292_spec hq (er▸trimI_in ni) (eb▸trimI_in ei) (by rw [←er];omega) (by rw [←eb];omega) (b:=b) (r0:=r0) (by rw [←eb];exact trimI_idem _) (by rw [←er];exact trimI_idem _) et eD]
  by_cases hb:b=[]
  ·rw [if_pos hb,if_pos hb]
   simp only [g_,sw_zero,h_]
   rw [br_no (by simp)]
   rfl
  ·rw [if_neg hb,if_neg hb]
   simp only [g_,sw_zero,h_]
   rw [br_of (by simp)]
   by_cases hz:trimI D.2=[]
   ·rw [if_pos hz,br_of (by rw [hz] <;> rfl)]
    congr 4
    simp [leI]
   ·have:0<(trimI D.2).length:=List.length_pos_iff.2 hz
    rw [if_neg hz,br_no (by simp;omega)]
theorem T280_spec (hq:q∈Qs) {w g:List Int} (hw:InQ q w) (hwl:w.length=q-1) (hg:g.length<2^20) {k e:Nat} (hk:0<k) (he:k+2*e+nlost (lostI g) (q-1)≤q-1) :
  ∃ (x:List Int) (b:Bool),(∀ {τ:Type} (κ:Nat→LS_→Option τ),T280 [.I (fp q),.I (fe q),.L (fm q),.I q,.I k,.I e,.L w,.L g] κ=κ 0 [.L x,.B b])∧(b=true→InQ q x∧x.length≤k) ∧
   ∀ m:List Int,m.length=k→InQ q m→far (lostI g) w (wordI q (fadd q) (fmul q) m) 0 (q-1)≤e→b=true∧wordI q (fadd q) (fmul q) x=wordI q (fadd q) (fmul q) m:=by
 have F:=fld q hq
 have h16:=qs16 hq
 have hk2:k+e<2^18:=by omega
 have hr:=eqs_rows hq hw hk2 (lostI g)
 obtain ⟨⟨pv,hR⟩,hsp⟩:=kern_spec hq hr
 generalize hK:kern q (k+e+(e+1)) (eqs (fmul q) (fneg q) k e w (lostI g) (q-1))=K at hR hsp
 generalize hN:(K.getD 0 []).take (k+e)=N
 generalize hE:(K.getD 0 []).drop (k+e)=E
 generalize eb:trimI E=b
 generalize er:trimI N=r0
 obtain ⟨t0,et⟩:∃ t0,t0=r0.length+1-b.length:=⟨_,rfl⟩
 generalize eD:dvT (fadd q) (fmul q) (fneg q) b (finv q (b.getD (b.length-1) 0)) r0 t0 t0=D
 have h:=fun {τ:Type} (κ:Nat→LS_→Option τ)=>F280_spec hq hw hwl hg hk hk2 (by omega) hK hN hE eb er et eD κ
 by_cases hK0:K=[]
 ·simp only [if_pos hK0] at h
  refine ⟨[],false,fun {τ} κ=>wrap_of (e:=F280.E) (p:=.tup [pR,pB]) (j:=0) (l2:=[]) (c:=true) (ls':=[.L [],.B false]) (by intro τ κ;kernel_rfl) rfl (fun κ=>h κ),(fun x=>by cases x),fun m hm mi hf=>?_⟩
  exfalso
  have hm2:(m.map (tE F)).length=k:=by simp [hm]
  obtain ⟨v,hv1,hv2,hv3⟩:=sol_is (F:=F) (n:=q-1) rfl hk hw (lost:=lostI g) hm2 (by rw [tE_lv mi];exact hf) he
  have:=(hsp v hv1).2 hv2
  rw [hK0] at this
  unfold Sp words at this
  exact hv3 (List.mem_singleton.1 this)
 ·have hKl:0<K.length:=List.length_pos_iff.2 hK0
  simp only [if_neg hK0] at h
  have wv:=hR.wd 0 hKl
  have hor:Orth (k+e+(e+1)) (fadd q) (fmul q) (eqs (fmul q) (fneg q) k e w (lostI g) (q-1)) (K.getD 0 []):=(hsp _ wv).1 (Sp.row F hR.wd hKl)
  have hv0:K.getD 0 []≠List.replicate (k+e+(e+1)) 0:=fun e0=>by
   have h1:=hR.one 0 hKl
   unfold ent at h1
   rw [e0,List.getD_eq_getElem?_getD,List.getElem?_replicate] at h1
   split at h1 <;> simp at h1
  have vi:InQ q (K.getD 0 []):=fun j hj=>wv.2 j (by rw [←wv.1];exact hj)
  have vl:=wv.1
  have near:∀ m:List Int,m.length=k→InQ q m→far (lostI g) w (wordI q (fadd q) (fmul q) m) 0 (q-1)≤e→b≠[]∧trimI D.2=[]∧(trimI D.1).length≤k∧∀ j,D.1.getD j 0=m.getD j 0:=fun m hm mi hf=>by
   have hm2:(m.map (tE F)).length=k:=by simp [hm]
   obtain ⟨a1,a2,a3,a4⟩:=sol_div (F:=F) (n:=q-1) rfl hk hw (lost:=lostI g) hm2 (by rw [tE_lv mi];exact hf) he wv hor hv0 (b:=b) (r0:=r0) (t0:=t0) (by rw [hE,eb]) (by rw [hN,er]) et
   rw [eD] at a2 a3 a4
   exact ⟨a1,a2,a3,fun j=>by rw [a4,←lv_get,tE_lv mi]⟩
  have ni:InQ q N:=fun j hj=>by
   rw [←hN,List.length_take] at hj
   have:=vi j (by omega)
   rw [←hN,take_getD,if_pos (by omega)];exact this
  have ei:InQ q E:=fun j hj=>by
   rw [←hE,List.length_drop] at hj
   have:=vi (k+e+j) (by omega)
   have e3:E.getD j 0=(K.getD 0 []).getD (k+e+j) 0:=by rw [←hE];simp [List.getD_eq_getElem?_getD]
   rw [e3];exact this
  have bi:InQ q b:=eb▸trimI_in ei
  have ri:InQ q r0:=er▸trimI_in ni
  have hbl:=in_get F bi (b.length-1)
  have hinv:=F.inv_in _ hbl.1 hbl.2
  have Di:=(dvT_in F (t0:=t0) bi ri hinv t0).1
  rw [eD] at Di
  have xi:=trimI_in Di
  have hword:∀ m,InQ q m→(∀ j,D.1.getD j 0=m.getD j 0)→wordI q (fadd q) (fmul q) (trimI D.1)=wordI q (fadd q) (fmul q) m:=fun m mi hd=>word_cong F xi mi fun j=>by rw [trimI_get,hd]
  generalize trimI D.1=x at h near xi hword
  by_cases hb:b=[]
  ·simp only [if_pos hb] at h
   exact ⟨[],false,fun {τ} κ=>wrap_of (e:=F280.E) (p:=.tup [pR,pB]) (j:=2) (l2:=[.N 0,.L []]) (c:=true) (ls':=[.L [],.B false]) (by intro τ κ;kernel_rfl) rfl (fun κ=>h κ),(fun x=>by cases x),fun m hm mi hf=>absurd hb (near m hm mi hf).1⟩
  ·simp only [if_neg hb] at h
   by_cases hz:trimI D.2=[]
   ·simp only [if_pos hz] at h
    exact ⟨x,decide (x.length≤k),fun {τ} κ=>wrap_of (e:=F280.E) (p:=.tup [pR,pB]) (j:=1) (l2:=[.N x.length,.L x,.B (decide (x.length≤k))]) (c:=decide (x.length=x.length)&&(true&&true)) (ls':=[.L x,.B (decide (x.length≤k))]) (by intro τ κ;kernel_rfl) (by simp) (fun κ=>h κ),
     fun hd=>⟨xi,of_decide_eq_true hd⟩,fun m hm mi hf=>⟨decide_eq_true (near m hm mi hf).2.2.1,hword m mi (near m hm mi hf).2.2.2⟩⟩
   ·simp only [if_neg hz] at h
    exact ⟨x,false,fun {τ} κ=>wrap_of (e:=F280.E) (p:=.tup [pR,pB]) (j:=2) (l2:=[.N x.length,.L x]) (c:=decide (x.length=x.length)&&(true&&true)) (ls':=[.L x,.B false]) (by intro τ κ;kernel_rfl) (by simp) (fun κ=>h κ),
     (fun hd=>by cases hd),fun m hm mi hf=>absurd (near m hm mi hf).2.1 hz⟩
end
end
end Go.Proofs.Yticbdgmcofjkeaa.Ai
namespace Go.Proofs.Yticbdgmcofjkeaa.Ai
open Go Go.RowKit
noncomputable section
variable {τ:Type} (t:Nat) (nx ex:Nat→LS_→Option τ) (l:LS_) (k κ:Nat→LS_→Option τ)
def L260_13.H:LHead:=⟨false,true,0,331789,331789,4132070672510939589728,27712,0,[(PS.mk (us 5 ((pp 0)::(pp 1)::us 3 ((pp 2)::pI::us 1 (qR::pI::us 54 (qR::pI::pI::us 28 []))))) [(oG [qR,qR]),(oG [pI,pI,nS,nS]),(oG [pI,pI,nS,nS])])],[((Out.exit 0),(PS.mk (us 6 ((pp 0)::us 3 ((pp 1)::pI::us 1 (qR::pI::us 85 [])))) [(oG [pI,pI,nS,nS]),(oG [pI,pI,nS,nS])]))]⟩
def L260_13.O:Orc P:=⟨[F275.E],[],[],40⟩
def L260_13.s0:Option τ :=
 br (ltI (gI l 7) (gI l 6))
 (ck (((leI 0 (gI l 7))&&(ltI (gI l 7) (gN l 4)))&&true)
 (ck (ltN ((Int.toNat (gI l 7))*1) (gL l 5).length)
 (ck (((leI 0 (gI l 7))&&(ltI (gI l 7) (gN l 1)))&&true)
 (ck (ltN ((Int.toNat (gI l 7))*1) (gL l 2).length)
 (br ((List.getD (gL l 2) ((Int.toNat (gI l 7))*1) 0) != (List.getD (gL l 5) ((Int.toNat (gI l 7))*1) 0))
 (ck ((eqM (gN l 10) (gL l 11).length)&&true)
 (F275 [vG l 11,iG l 7]
 (fun j A=>(sw (br (!(gB A 0))
 (nx 0 [iG l 0,nG l 1,vG l 2,.I (wr .i64 ((gI l 3)+1)),nG l 4,vG l 5,iG l 6,.I (wr .i64 ((gI l 7)+1)),nG l 8,vG l 9,nG l 10,vG l 11,iG l 12,iG l 13,iG l 14,iG l 15])
 (nx 0 [iG l 0,nG l 1,vG l 2,iG l 3,nG l 4,vG l 5,iG l 6,.I (wr .i64 ((gI l 7)+1)),nG l 8,vG l 9,nG l 10,vG l 11,iG l 12,iG l 13,iG l 14,iG l 15]))
 (fun _=>none)) j)))
 (nx 0 [iG l 0,nG l 1,vG l 2,iG l 3,nG l 4,vG l 5,iG l 6,.I (wr .i64 ((gI l 7)+1)),nG l 8,vG l 9,nG l 10,vG l 11,iG l 12,iG l 13,iG l 14,iG l 15]))))))
 (ex 0 [iG l 0,nG l 1,vG l 2,iG l 3,iG l 12,iG l 13,iG l 14,iG l 15])
theorem L260_13.e0:LEq L260_13.O L260_13.H 0 L260_13.s0:=by intro τ next κ l;kernel_rfl
def L260_13:LStep P Cf:=LStep.mk1 (by decide) L260_13.e0
def L260_13.b:Option τ:=runE L260_13 fuel κ t l
def L260_13.E:LEnt P:=LStep.E L260_13
def F260.ps:List PV2:=[pI,pI,pNoisy]
def F260.sh:List PA:=[(PA.mk (PV3.tup [(PV2.agg [(PV1.intC .i64 0),(PV1.intC .i64 0),PV1.nilS,PV1.nilS]),(pC 1)]) []),(PA.mk (PV3.tup [(PV2.agg [(PV1.intC .i64 4),(PV1.intC .i64 0),PV1.nilS,PV1.nilS]),(pC 0)]) []),(PA.mk (PV3.tup [(PV2.agg [iI,iI,PV1.nilS,PV1.nilS]),(pC 0)]) []),(PA.mk (PV3.tup [(PV2.agg [(PV1.intC .i64 1),iI,(PV1.sl (PC0.i .i64)),PV1.nilS]),(pC 0)]) [])]
def F260.O:Orc P:=⟨[T276.E,T279.E,T280.E,T277.E],[L260_13.E],[],40⟩
def F260:Option τ :=
 T276 [iG l 0]
 (fun j A=>(sw (br (!(gB A 4))
 (k 0 [])
 (br (ltI (gI l 1) 1)
 (k 0 [])
 (br (gtI (gI l 1) (wr .i64 ((gI l 0)-1)))
 (k 0 [])
 (ck (((eqM (gL A 2).length (gL A 2).length)&&true)&&(((eqM (gL l 2).length (gL l 2).length)&&((eqM (gL l 3).length (gL l 3).length)&&true))&&true))
 (T279 [iG A 0,iG A 1,vG A 2,iG A 3,vG l 2,vG l 3]
 (fun j B=>(sw (br (!(gB B 0))
 (k 0 [])
 (br (ltI (wr .i64 ((wr .i64 ((wr .i64 ((gI l 0)-1))-(gI l 1)))-(((gL l 3).length:Nat):Int))) 0)
 (k 1 [])
 (ck (((eqM (gL A 2).length (gL A 2).length)&&true)&&(((eqM (gL l 2).length (gL l 2).length)&&((eqM (gL l 3).length (gL l 3).length)&&true))&&true))
 (T280 [iG A 0,iG A 1,vG A 2,iG A 3,iG l 1,.I (wr .i64 (Int.tdiv (wr .i64 ((wr .i64 ((wr .i64 ((gI l 0)-1))-(gI l 1)))-(((gL l 3).length:Nat):Int))) 2)),vG l 2,vG l 3]
 (fun j C=>(sw (br (!(gB C 1))
 (k 1 [])
 (ck (((eqM (gL A 2).length (gL A 2).length)&&true)&&((eqM (gL C 0).length (gL C 0).length)&&true))
 (T277 [iG A 0,iG A 1,vG A 2,iG A 3,vG C 0]
 (fun j D=>(sw (L260_13.b 0 [.I (wr .i64 ((wr .i64 ((wr .i64 ((gI l 0)-1))-(gI l 1)))-(((gL l 3).length:Nat):Int))),.N (gL D 0).length,vG D 0,.I 0,.N (gL l 2).length,vG l 2,.I (((gL l 2).length:Nat):Int),.I 0,.N (gL l 2).length,vG l 2,.N (gL l 3).length,vG l 3,.I 0,.I 0,.I 4,.I 0]
 (fun j E=>(sw (br (gtI (wr .i64 (2*(gI E 3))) (gI E 0))
 (k 2 [iG E 6,iG E 7])
 (k 3 [iG E 3,nG E 1,vG E 2]))
 (fun _=>none)) j))
 (fun _=>none)) j))))
 (fun _=>none)) j)))))
 (fun _=>none)) j))))))
 (fun _=>none)) j)
theorem F260.eq:FEq F260.O 81 F260.ps F260.sh F260:=by intro τ l κ;kernel_rfl
def F260.E:Ent P:=mkF F260.eq
def L257_6.H:LHead:=⟨false,true,0,352262,352262,805306705,273,0,[(PS.mk (pI::us 3 ((pp 0)::us 1 ((pp 1)::us 1 (nS::us 19 (pI::pI::us 19 []))))) [(oG [pI,pI,nS]),(oG [pI,pI,qR,pI])]),(PS.mk (pI::us 3 ((pp 0)::us 1 ((pp 1)::us 1 ((rr 2)::us 19 (pI::pI::us 19 []))))) [(oG [pI,pI,nS]),(oG [pI,pI,qR,pI]),oM])],[((Out.exit 0),(PS.mk (pI::us 3 ((pp 0)::us 3 (nS::us 40 []))) [(oG [pI,pI,nS])])),((Out.exit 0),(PS.mk (pI::us 3 ((pp 0)::us 3 ((rr 1)::us 40 []))) [(oG [pI,pI,nS]),oM]))]⟩
def L257_6.O:Orc P:=⟨[T277.E],[],[],40⟩
def L257_6.s0:Option τ :=
 br (ltI (gI l 2) (gI l 1))
 (ck (((leI 0 (gI l 2))&&(leI (gI l 2) (gI l 2)))&&(leI ((gI l 2)*9) 1099511627776))
 (ck (((((eqM (List.replicate (Int.toNat (gI l 2)) (0:Int)).length ((Int.toNat (gI l 2))*1))&&true)&&true)&&(leN (((Int.toNat (gI l 2))+1)*9) 1099511627776))&&true)
 (ck (((eqM (gN l 7) (gL l 8).length)&&true)&&((eqM ((Int.toNat (gI l 2))+1) (List.take (((Int.toNat (gI l 2))+1)*1) (List.drop 0 ((List.replicate (Int.toNat (gI l 2)) (0:Int))++[1]))).length)&&true))
 (T277 [iG l 5,iG l 6,vG l 8,iG l 9,.L (List.take (((Int.toNat (gI l 2))+1)*1) (List.drop 0 ((List.replicate (Int.toNat (gI l 2)) (0:Int))++[1])))]
 (fun j A=>(sw (ck ((eqM (gL A 0).length (gL A 0).length)&&true)
 (nx 1 [iG l 0,.N 1,iG l 1,.I (wr .i64 ((gI l 2)+1)),iG l 3,iG l 4,iG l 5,iG l 6,nG l 7,vG l 8,iG l 9,.LL (List.take 1 (List.drop 0 [(gL A 0)]))]))
 (fun _=>none)) j)))))
 (ex 0 [iG l 0,iG l 3,iG l 4])
theorem L257_6.e0:LEq L257_6.O L257_6.H 0 L257_6.s0:=by intro τ next κ l;kernel_rfl
def L257_6.s1:Option τ :=
 br (ltI (gI l 3) (gI l 2))
 (ck (((leI 0 (gI l 3))&&(leI (gI l 3) (gI l 3)))&&(leI ((gI l 3)*9) 1099511627776))
 (ck (((((eqM (List.replicate (Int.toNat (gI l 3)) (0:Int)).length ((Int.toNat (gI l 3))*1))&&true)&&true)&&(leN (((Int.toNat (gI l 3))+1)*9) 1099511627776))&&true)
 (ck (((eqM (gN l 8) (gL l 9).length)&&true)&&((eqM ((Int.toNat (gI l 3))+1) (List.take (((Int.toNat (gI l 3))+1)*1) (List.drop 0 ((List.replicate (Int.toNat (gI l 3)) (0:Int))++[1]))).length)&&true))
 (T277 [iG l 6,iG l 7,vG l 9,iG l 10,.L (List.take (((Int.toNat (gI l 3))+1)*1) (List.drop 0 ((List.replicate (Int.toNat (gI l 3)) (0:Int))++[1])))]
 (fun j A=>(sw (ck ((eqM (gL A 0).length (gL A 0).length)&&true)
 (ck (((((eqM (gLL l 11).length ((gN l 1)*1))&&true)&&(eqM 1 1))&&(leN (((gN l 1)+1)*25) 1099511627776))&&true)
 (nx 1 [iG l 0,.N ((gN l 1)+1),iG l 2,.I (wr .i64 ((gI l 3)+1)),iG l 4,iG l 5,iG l 6,iG l 7,nG l 8,vG l 9,iG l 10,.LL ((gLL l 11)++(List.take 1 (List.drop 0 [(gL A 0)])))])))
 (fun _=>none)) j)))))
 (ex 1 [iG l 0,nG l 1,iG l 4,iG l 5,wG l 11])
theorem L257_6.e1:LEq L257_6.O L257_6.H 1 L257_6.s1:=by intro τ next κ l;kernel_rfl
def L257_6:LStep P Cf:=LStep.mk2 (by decide) L257_6.e0 L257_6.e1
def L257_6.b:Option τ:=runE L257_6 fuel κ t l
def L257_6.E:LEnt P:=LStep.E L257_6
def F257.ps:List PV2:=[pI,pI]
def F257.sh:List PA:=[(PA.mk (PV3.tup [(PV2.agg [(PV1.intC .i64 0),(PV1.intC .i64 0),PV1.nilS]),(pC 1)]) []),(PA.mk (PV3.tup [(PV2.agg [iI,iI,(PV1.sl (PC0.m .i64))]),pI]) [])]
def F257.O:Orc P:=⟨[T276.E,T46.E],[L257_6.E],[],40⟩
def F257:Option τ :=
 T276 [iG l 0]
 (fun j A=>(sw (br (!(gB A 4))
 (k 0 [])
 (br (ltI (gI l 1) 1)
 (k 0 [])
 (br (gtI (gI l 1) (wr .i64 ((gI l 0)-1)))
 (k 0 [])
 (L257_6.b 0 [iG l 0,iG l 1,.I 0,.I 0,.I 0,iG A 0,iG A 1,.N (gL A 2).length,vG A 2,iG A 3]
 (fun j B=>(sw (T46 [iG B 0,.I (wr .i64 ((gI B 0)-1)),.LL []]
 (fun j C=>(sw (k 1 [iG C 0,iG C 1,.N (gLL C 2).length,wG C 2,iG C 3])
 (fun _=>none)) j))
 (sw (ck ((eqM (gN B 1) (List.take ((gN B 1)*1) (List.drop 0 (gLL B 4))).length)&&true)
 (T46 [iG B 0,.I (wr .i64 ((gI B 0)-1)),.LL (List.take ((gN B 1)*1) (List.drop 0 (gLL B 4)))]
 (fun j C=>(sw (k 1 [iG C 0,iG C 1,.N (gLL C 2).length,wG C 2,iG C 3])
 (fun _=>none)) j)))
 (fun _=>none))) j)))))
 (fun _=>none)) j)
theorem F257.eq:FEq F257.O 86 F257.ps F257.sh F257:=by intro τ l κ;kernel_rfl
def F257.E:Ent P:=mkF F257.eq
def F258.ps:List PV2:=[pI,pR]
def F258.sh:List PA:=[(PA.mk (PV3.tup [nS,(pC 1)]) []),(PA.mk (PV3.tup [qR,(pC 0)]) [])]
def F258.O:Orc P:=⟨[T276.E,T278.E,T277.E],[],[],40⟩
def F258:Option τ :=
 T276 [iG l 0]
 (fun j A=>(sw (br (!(gB A 4))
 (k 0 [])
 (br (ltI (((gL l 1).length:Nat):Int) 1)
 (k 0 [])
 (br (gtI (((gL l 1).length:Nat):Int) (wr .i64 ((gI l 0)-1)))
 (k 0 [])
 (ck (((eqM (gL A 2).length (gL A 2).length)&&true)&&((eqM (gL l 1).length (gL l 1).length)&&true))
 (T278 [iG A 0,iG A 1,vG A 2,iG A 3,vG l 1]
 (fun j B=>(sw (br (!(gB B 0))
 (k 0 [])
 (ck (((eqM (gL A 2).length (gL A 2).length)&&true)&&((eqM (gL l 1).length (gL l 1).length)&&true))
 (T277 [iG A 0,iG A 1,vG A 2,iG A 3,vG l 1]
 (fun j C=>(sw (k 1 [.N (gL C 0).length,vG C 0])
 (fun _=>none)) j))))
 (fun _=>none)) j))))))
 (fun _=>none)) j)
theorem F258.eq:FEq F258.O 79 F258.ps F258.sh F258:=by intro τ l κ;kernel_rfl
def F258.E:Ent P:=mkF F258.eq
end
end Go.Proofs.Yticbdgmcofjkeaa.Ai
namespace Go.Proofs.Yticbdgmcofjkeaa.Ai
open Go Go.RowKit
noncomputable section
variable {τ:Type} (t:Nat) (nx ex:Nat→LS_→Option τ) (l:LS_) (k κ:Nat→LS_→Option τ)
def F264.ps:List PV2:=[pI]
def F264.sh:List PA:=[(PA.mk (PV3.v (PV2.agg [iI,iI,(r1 0)])) [cI]),(PA.mk (PV3.v (PV2.agg [iI,iI,PV1.nilS])) [])]
def F264.O:Orc P:=⟨[T76.E],[],[],40⟩
def F264:Option τ :=
 T76 [iG l 0]
 (fun j A=>(sw (k 0 [iG A 0,iG A 1,nG A 2,vG A 3])
 (sw (k 1 [.I 0,.I 0])
 (fun _=>none))) j)
theorem F264.eq:FEq F264.O 47 F264.ps F264.sh F264:=by intro τ l κ;kernel_rfl
def F264.E:Ent P:=mkF F264.eq
def L265_3.H:LHead:=⟨false,true,0,339971,339971,398,128,0,[(PS.mk (us 1 (qR::pI::(pp 0)::us 3 (pI::pI::us 18 []))) [(oG [pI,pI,qR])])],[((Out.exit 0),(PS.mk (us 7 (pI::us 19 [])) []))]⟩
def L265_3.O:Orc P:=⟨[T89.E,T77.E],[],[],40⟩
def L265_3.s0:Option τ :=
 br (geI (gI l 4) 0)
 (ck (((eqM (gN l 7) (gL l 8).length)&&true)&&true)
 (T89 [iG l 5,iG l 6,vG l 8,iG l 3,iG l 2]
 (fun j A=>(sw (ck (((leI 0 (gI l 4))&&(ltI (gI l 4) (gN l 0)))&&true)
 (ck (ltN ((Int.toNat (gI l 4))*1) (gL l 1).length)
 (ck (((eqM (gN l 7) (gL l 8).length)&&true)&&true)
 (T77 [iG l 5,iG l 6,vG l 8,iG A 0,.I (List.getD (gL l 1) ((Int.toNat (gI l 4))*1) 0)]
 (fun j B=>(sw (nx 0 [nG l 0,vG l 1,iG l 2,iG B 0,.I (wr .i64 ((gI l 4)-1)),iG l 5,iG l 6,nG l 7,vG l 8])
 (fun _=>none)) j)))))
 (fun _=>none)) j)))
 (ex 0 [iG l 3])
theorem L265_3.e0:LEq L265_3.O L265_3.H 0 L265_3.s0:=by intro τ next κ l;kernel_rfl
def L265_3:LStep P Cf:=LStep.mk1 (by decide) L265_3.e0
def L265_3.b:Option τ:=runE L265_3 fuel κ t l
def L265_3.E:LEnt P:=LStep.E L265_3
def F265.ps:List PV2:=[(PV2.agg [iI,iI,aI]),pR,pI]
def F265.sh:List PA:=[(PA.mk (PV3.v pI) [])]
def F265.O:Orc P:=⟨[],[L265_3.E],[],40⟩
def F265:Option τ :=
 L265_3.b 0 [.N (gL l 3).length,vG l 3,iG l 4,.I 0,.I (wr .i64 ((((gL l 3).length:Nat):Int)-1)),iG l 0,iG l 1,.N (gL l 2).length,vG l 2]
 (fun j A=>(sw (k 0 [iG A 0])
 (fun _=>none)) j)
theorem F265.eq:FEq F265.O 83 F265.ps F265.sh F265:=by intro τ l κ;kernel_rfl
def F265.E:Ent P:=mkF F265.eq
def L240_4.H:LHead:=⟨false,true,0,184324,184324,227,64,0,[(PS.mk (pI::qR::us 3 ((pp 0)::(rr 1)::pI::us 16 [])) [(oG [pI,pI,(rr 2)]),oI,oI])],[((Out.exit 0),(PS.mk (us 6 ((rr 0)::us 17 [])) [oI]))]⟩
def L240_4.O:Orc P:=⟨[F265.E],[],[],40⟩
def L240_4.s0:Option τ :=
 br (ltI (gI l 4) (gI l 0))
 (ck (((eqM (gN l 7) (List.take ((gN l 7)*1) (List.drop 0 (gL l 9))).length)&&true)&&((eqM (gN l 1) (gL l 2).length)&&true))
 (F265 [iG l 5,iG l 6,.L (List.take ((gN l 7)*1) (List.drop 0 (gL l 9))),vG l 2,iG l 4]
 (fun j A=>(sw (ck (((((eqM (gL l 8).length ((gN l 3)*1))&&true)&&(eqM 1 1))&&(leN (((gN l 3)+1)*9) 1099511627776))&&true)
 (nx 0 [iG l 0,nG l 1,vG l 2,.N ((gN l 3)+1),.I (wr .i64 ((gI l 4)+1)),iG l 5,iG l 6,nG l 7,.L ((gL l 8)++(List.take 1 (List.drop 0 [(gI A 0)]))),vG l 9]))
 (fun _=>none)) j)))
 (ex 0 [nG l 3,vG l 8])
theorem L240_4.e0:LEq L240_4.O L240_4.H 0 L240_4.s0:=by intro τ next κ l;kernel_rfl
def L240_4:LStep P Cf:=LStep.mk1 (by decide) L240_4.e0
def L240_4.b:Option τ:=runE L240_4 fuel κ t l
def L240_4.E:LEnt P:=LStep.E L240_4
def L240_4_1.H:LHead:=⟨false,true,0,184324,184324,227,64,0,[(PS.mk (pI::qR::us 3 ((pp 0)::(rr 1)::pI::us 16 [])) [(oG [pI,pI,nS]),oI])],[((Out.exit 0),(PS.mk (us 6 ((rr 0)::us 17 [])) [oI]))]⟩
def L240_4_1.O:Orc P:=⟨[F265.E],[],[],40⟩
def L240_4_1.s0:Option τ :=
 br (ltI (gI l 4) (gI l 0))
 (ck ((eqM (gN l 1) (gL l 2).length)&&true)
 (F265 [iG l 5,iG l 6,.L [],vG l 2,iG l 4]
 (fun j A=>(sw (ck (((((eqM (gL l 7).length ((gN l 3)*1))&&true)&&(eqM 1 1))&&(leN (((gN l 3)+1)*9) 1099511627776))&&true)
 (nx 0 [iG l 0,nG l 1,vG l 2,.N ((gN l 3)+1),.I (wr .i64 ((gI l 4)+1)),iG l 5,iG l 6,.L ((gL l 7)++(List.take 1 (List.drop 0 [(gI A 0)])))]))
 (fun _=>none)) j)))
 (ex 0 [nG l 3,vG l 7])
theorem L240_4_1.e0:LEq L240_4_1.O L240_4_1.H 0 L240_4_1.s0:=by intro τ next κ l;kernel_rfl
def L240_4_1:LStep P Cf:=LStep.mk1 (by decide) L240_4_1.e0
def L240_4_1.b:Option τ:=runE L240_4_1 fuel κ t l
def L240_4_1.E:LEnt P:=LStep.E L240_4_1
def F240.ps:List PV2:=[pI,pR]
def F240.sh:List PA:=[(PA.mk (PV3.v (rr 0)) [cI])]
def F240.O:Orc P:=⟨[F264.E],[L240_4.E,L240_4_1.E],[],40⟩
def F240:Option τ :=
 F264 [iG l 0]
 (fun j A=>(sw (L240_4.b 0 [iG l 0,.N (gL l 1).length,vG l 1,.N 0,.I 1,iG A 0,iG A 1,nG A 2,.L [],vG A 3]
 (fun j B=>(sw (k 0 [nG B 0,vG B 1])
 (fun _=>none)) j))
 (sw (L240_4_1.b 0 [iG l 0,.N (gL l 1).length,vG l 1,.N 0,.I 1,iG A 0,iG A 1,.L []]
 (fun j B=>(sw (k 0 [nG B 0,vG B 1])
 (fun _=>none)) j))
 (fun _=>none))) j)
theorem F240.eq:FEq F240.O 45 F240.ps F240.sh F240:=by intro τ l κ;kernel_rfl
def F240.E:Ent P:=mkF F240.eq
def L281_2.H:LHead:=⟨false,true,0,335874,335874,54,16,0,[(PS.mk (us 1 (pI::(pp 0)::us 1 (pB::pI::us 14 []))) [(oG [qR,qR])])],[(Out.ret,(PS.mk (us 4 (pB::us 15 [])) [])),((Out.exit 0),(PS.mk (us 4 (pB::us 15 [])) []))]⟩
def L281_2.O:Orc P:=⟨[],[],[],40⟩
def L281_2.s0:Option τ :=
 br (ltI (gI l 2) (gN l 5))
 (ck (((leI 0 (gI l 2))&&(ltI (gI l 2) (gN l 5)))&&true)
 (ck (ltN ((Int.toNat (gI l 2))*1) (gL l 6).length)
 (br ((List.getD (gL l 6) ((Int.toNat (gI l 2))*1) 0)==(gI l 0))
 (ex 0 [.B true])
 (nx 0 [iG l 0,bG l 1,.I (wr .i64 ((gI l 2)+1)),nG l 3,vG l 4,nG l 5,vG l 6]))))
 (ex 1 [bG l 1])
theorem L281_2.e0:LEq L281_2.O L281_2.H 0 L281_2.s0:=by intro τ next κ l;kernel_rfl
def L281_2:LStep P Cf:=LStep.mk1 (by decide) L281_2.e0
def L281_2.b:Option τ:=runE L281_2 fuel κ t l
def L281_2.E:LEnt P:=LStep.E L281_2
def F281.ps:List PV2:=[pNoisy,pI]
def F281.sh:List PA:=[(PA.mk (PV3.v pB) [])]
def F281.O:Orc P:=⟨[],[L281_2.E],[],40⟩
def F281:Option τ :=
 L281_2.b 0 [iG l 2,.B false,.I 0,.N (gL l 0).length,vG l 0,.N (gL l 1).length,vG l 1]
 (fun j A=>(sw (k 0 [bG A 0])
 (sw (k 0 [.B false])
 (fun _=>none))) j)
theorem F281.eq:FEq F281.O 82 F281.ps F281.sh F281:=by intro τ l κ;kernel_rfl
def F281.E:Ent P:=mkF F281.eq
def L263_3.H:LHead:=⟨false,true,0,180227,180227,102,32,0,[(PS.mk (us 1 (qR::(pp 0)::us 2 (pI::pI::us 25 []))) [(oG [qR,qR])])],[((Out.exit 0),(PS.mk (us 5 (pI::us 26 [])) []))]⟩
def L263_3.O:Orc P:=⟨[F281.E],[],[],40⟩
def L263_3.s0:Option τ :=
 br (ltI (gI l 3) (gN l 0))
 (ck (((eqM (gN l 4) (gL l 5).length)&&((eqM (gN l 6) (gL l 7).length)&&true))&&true)
 (F281 [vG l 5,vG l 7,iG l 3]
 (fun j A=>(sw (br (!(gB A 0))
 (ck (((leI 0 (gI l 3))&&(ltI (gI l 3) (gN l 0)))&&true)
 (ck (ltN ((Int.toNat (gI l 3))*1) (gL l 1).length)
 (ck (((leI 0 (gI l 3))&&(ltI (gI l 3) (gN l 4)))&&true)
 (ck (ltN ((Int.toNat (gI l 3))*1) (gL l 5).length)
 (br ((List.getD (gL l 1) ((Int.toNat (gI l 3))*1) 0) != (List.getD (gL l 5) ((Int.toNat (gI l 3))*1) 0))
 (nx 0 [nG l 0,vG l 1,.I (wr .i64 ((gI l 2)+1)),.I (wr .i64 ((gI l 3)+1)),nG l 4,vG l 5,nG l 6,vG l 7])
 (nx 0 [nG l 0,vG l 1,iG l 2,.I (wr .i64 ((gI l 3)+1)),nG l 4,vG l 5,nG l 6,vG l 7]))))))
 (nx 0 [nG l 0,vG l 1,iG l 2,.I (wr .i64 ((gI l 3)+1)),nG l 4,vG l 5,nG l 6,vG l 7]))
 (fun _=>none)) j)))
 (ex 0 [iG l 2])
theorem L263_3.e0:LEq L263_3.O L263_3.H 0 L263_3.s0:=by intro τ next κ l;kernel_rfl
def L263_3:LStep P Cf:=LStep.mk1 (by decide) L263_3.e0
def L263_3.b:Option τ:=runE L263_3 fuel κ t l
def L263_3.E:LEnt P:=LStep.E L263_3
def F263.ps:List PV2:=[pNoisy,pR]
def F263.sh:List PA:=[(PA.mk (PV3.v pI) [])]
def F263.O:Orc P:=⟨[],[L263_3.E],[],40⟩
def F263:Option τ :=
 L263_3.b 0 [.N (gL l 2).length,vG l 2,.I 0,.I 0,.N (gL l 0).length,vG l 0,.N (gL l 1).length,vG l 1]
 (fun j A=>(sw (k 0 [iG A 0])
 (fun _=>none)) j)
theorem F263.eq:FEq F263.O 44 F263.ps F263.sh F263:=by intro τ l κ;kernel_rfl
def F263.E:Ent P:=mkF F263.eq
def F261.ps:List PV2:=[qReply,qReply]
def F261.sh:List PA:=[(PA.mk (PV3.v pB) [])]
def F261.O:Orc P:=⟨[F22.E],[],[],40⟩
def F261:Option τ :=
 br ((gI l 0)==(gI l 4))
 (br ((gI l 1)==(gI l 5))
 (ck ((eqM (gL l 2).length (gL l 2).length)&&true)
 (ck ((eqM (gL l 6).length (gL l 6).length)&&true)
 (F22 [.LL (List.take 1 (List.drop 0 [(gL l 2)])),.LL (List.take 1 (List.drop 0 [(gL l 6)]))]
 (fun j A=>(sw (br (gB A 0)
 (ck ((eqM (gLL l 3).length (gLL l 3).length)&&((eqM (gLL l 7).length (gLL l 7).length)&&true))
 (F22 [wG l 3,wG l 7]
 (fun j B=>(sw (k 0 [bG B 0])
 (fun _=>none)) j)))
 (k 0 [.B false]))
 (fun _=>none)) j))))
 (k 0 [.B false]))
 (k 0 [.B false])
theorem F261.eq:FEq F261.O 112 F261.ps F261.sh F261:=by intro τ l κ;kernel_rfl
def F261.E:Ent P:=mkF F261.eq
def L232_4.H:LHead:=⟨false,true,0,212996,212996,51,16,0,[(PS.mk (qR::qR::us 2 (pB::pI::us 20 [])) [])],[(Out.ret,(PS.mk (us 4 (pB::us 21 [])) [])),((Out.exit 0),(PS.mk (us 4 (pB::us 21 [])) []))]⟩
def L232_4.O:Orc P:=⟨[],[],[],40⟩
def L232_4.s0:Option τ :=
 br (ltI (gI l 5) (gN l 0))
 (ck (((leI 0 (gI l 5))&&(ltI (gI l 5) (gN l 0)))&&true)
 (ck (ltN ((Int.toNat (gI l 5))*1) (gL l 1).length)
 (ck (((leI 0 (gI l 5))&&(ltI (gI l 5) (gN l 2)))&&true)
 (ck (ltN ((Int.toNat (gI l 5))*1) (gL l 3).length)
 (br ((List.getD (gL l 1) ((Int.toNat (gI l 5))*1) 0) != (List.getD (gL l 3) ((Int.toNat (gI l 5))*1) 0))
 (ex 0 [.B false])
 (nx 0 [nG l 0,vG l 1,nG l 2,vG l 3,bG l 4,.I (wr .i64 ((gI l 5)+1))]))))))
 (ex 1 [bG l 4])
theorem L232_4.e0:LEq L232_4.O L232_4.H 0 L232_4.s0:=by intro τ next κ l;kernel_rfl
def L232_4:LStep P Cf:=LStep.mk1 (by decide) L232_4.e0
def L232_4.b:Option τ:=runE L232_4 fuel κ t l
def L232_4.E:LEnt P:=LStep.E L232_4
def F232.ps:List PV2:=[pR,pR]
def F232.sh:List PA:=[(PA.mk (PV3.v pB) [])]
def F232.O:Orc P:=⟨[],[L232_4.E],[],40⟩
def F232:Option τ :=
 br ((((gL l 0).length:Nat):Int) != (((gL l 1).length:Nat):Int))
 (k 0 [.B false])
 (L232_4.b 0 [.N (gL l 0).length,vG l 0,.N (gL l 1).length,vG l 1,.B false,.I 0]
 (fun j A=>(sw (k 0 [bG A 0])
 (sw (k 0 [.B true])
 (fun _=>none))) j))
theorem F232.eq:FEq F232.O 52 F232.ps F232.sh F232:=by intro τ l κ;kernel_rfl
def F232.E:Ent P:=mkF F232.eq
def F227.ps:List PV2:=[qRaw33]
def F227.sh:List PA:=[(PA.mk (PV3.v (PV2.agg [iI,iI])) [])]
def F227.O:Orc P:=⟨[],[],[],40⟩
def F227:Option τ :=
 ck (((leI 0 (Int.tmod (wr .i64 (gI l 0)) 9))&&(ltI (Int.tmod (wr .i64 (gI l 0)) 9) 9))&&true)
 (ck (ltN (0+((Int.toNat (Int.tmod (wr .i64 (gI l 0)) 9))*1)) 9)
 (ck (!((wr .i64 ((List.getD [3,4,5,7,8,9,11,13,16] (0+((Int.toNat (Int.tmod (wr .i64 (gI l 0)) 9))*1)) 0)-1))==0))
 (k 0 [.I (List.getD [3,4,5,7,8,9,11,13,16] (0+((Int.toNat (Int.tmod (wr .i64 (gI l 0)) 9))*1)) 0),.I (wr .i64 (1+(Int.tmod (wr .i64 (gI l 1)) (wr .i64 ((List.getD [3,4,5,7,8,9,11,13,16] (0+((Int.toNat (Int.tmod (wr .i64 (gI l 0)) 9))*1)) 0)-1)))))])))
theorem F227.eq:FEq F227.O 38 F227.ps F227.sh F227:=by intro τ l κ;kernel_rfl
def F227.E:Ent P:=mkF F227.eq
def L241_4.H:LHead:=⟨false,true,0,163844,163844,58,16,0,[(PS.mk (us 1 ((pp 0)::us 1 ((pp 1)::(rr 2)::pI::us 31 []))) [(oG [(pK IntKind.u8),(pK IntKind.u8),(PV2.v (PV1.sl (PC0.i IntKind.u8))),(PV2.v (PV1.sl (PC0.i IntKind.u8))),(PV2.v (PV1.sl (PC0.i IntKind.u8)))]),(oG [pI,pI]),oI])],[((Out.exit 0),(PS.mk (us 4 ((rr 0)::us 32 [])) [oI]))]⟩
def L241_4.O:Orc P:=⟨[],[],[],40⟩
def L241_4.s0:Option τ :=
 br (ltI (gI l 1) (gI l 11))
 (br (ltI (gI l 1) (gN l 4))
 (ck (((leI 0 (gI l 1))&&(ltI (gI l 1) (gN l 4)))&&true)
 (ck (ltN ((Int.toNat (gI l 1))*1) (gL l 5).length)
 (ck (!((gI l 10)==0))
 (ck (((leI 0 (gI l 1))&&(ltI (gI l 1) (gN l 0)))&&true)
 (ck ((leN ((0+((Int.toNat (gI l 1))*1))+1) (gL l 12).length)&&true)
 (nx 0 [nG l 0,.I (wr .i64 ((gI l 1)+1)),iG l 2,iG l 3,nG l 4,vG l 5,nG l 6,vG l 7,nG l 8,vG l 9,iG l 10,iG l 11,.L (List.set (gL l 12) (0+((Int.toNat (gI l 1))*1)) (Int.tmod (wr .i64 (List.getD (gL l 5) ((Int.toNat (gI l 1))*1) 0)) (gI l 10)))]))))))
 (ex 0 [nG l 0,vG l 12]))
 (ex 0 [nG l 0,vG l 12])
theorem L241_4.e0:LEq L241_4.O L241_4.H 0 L241_4.s0:=by intro τ next κ l;kernel_rfl
def L241_4:LStep P Cf:=LStep.mk1 (by decide) L241_4.e0
def L241_4.b:Option τ:=runE L241_4 fuel κ t l
def L241_4.E:LEnt P:=LStep.E L241_4
def F241.ps:List PV2:=[qRaw33]
def F241.sh:List PA:=[(PA.mk (PV3.v (rr 0)) [cI])]
def F241.O:Orc P:=⟨[F227.E],[L241_4.E],[],40⟩
def F241:Option τ :=
 ck (((eqM (gL l 2).length (gL l 2).length)&&((decide ((@HDiv.hDiv Nat Nat Nat (@instHDiv Nat Nat.instDiv) (gL l 3).length 2)=(@HDiv.hDiv Nat Nat Nat (@instHDiv Nat Nat.instDiv) (gL l 3).length 2)))&&((eqM (gL l 4).length (gL l 4).length)&&true)))&&true)
 (F227 [iG l 0,iG l 1,vG l 2,vG l 3,vG l 4]
 (fun j A=>(sw (ck (((leI 0 (gI A 1))&&(leI (gI A 1) (gI A 1)))&&(leI ((gI A 1)*9) 1099511627776))
 (L241_4.b 0 [.N (Int.toNat (gI A 1)),.I 0,iG l 0,iG l 1,.N (gL l 2).length,vG l 2,.N (@HDiv.hDiv Nat Nat Nat (@instHDiv Nat Nat.instDiv) (gL l 3).length 2),vG l 3,.N (gL l 4).length,vG l 4,iG A 0,iG A 1,.L (List.replicate (Int.toNat (gI A 1)) (0:Int))]
 (fun j B=>(sw (k 0 [nG B 0,vG B 1])
 (fun _=>none)) j)))
 (fun _=>none)) j))
theorem F241.eq:FEq F241.O 40 F241.ps F241.sh F241:=by intro τ l κ;kernel_rfl
def F241.E:Ent P:=mkF F241.eq
end
end Go.Proofs.Yticbdgmcofjkeaa.Ai
namespace Go.Proofs.Yticbdgmcofjkeaa.Ai
open Go Go.RowKit
noncomputable section
def T264 {τ:Type} (l:LS_) (k:Nat→LS_→Option τ):Option τ:=wrapB F264.E (.v pField) l k
def T264.E:Ent P:=F264.E.wrap (.v pField)
def T240 {τ:Type} (l:LS_) (k:Nat→LS_→Option τ):Option τ:=wrapB F240.E (.v pR) l k
def T240.E:Ent P:=F240.E.wrap (.v pR)
def T263 {τ:Type} (l:LS_) (k:Nat→LS_→Option τ):Option τ:=F263 l k
def T263.E:Ent P:=F263.E
def T261 {τ:Type} (l:LS_) (k:Nat→LS_→Option τ):Option τ:=F261 l k
def T261.E:Ent P:=F261.E
def T232 {τ:Type} (l:LS_) (k:Nat→LS_→Option τ):Option τ:=F232 l k
def T232.E:Ent P:=F232.E
def T227 {τ:Type} (l:LS_) (k:Nat→LS_→Option τ):Option τ:=wrapB F227.E (.v q22) l k
def T227.E:Ent P:=F227.E.wrap (.v q22)
def T241 {τ:Type} (l:LS_) (k:Nat→LS_→Option τ):Option τ:=wrapB F241.E (.v pR) l k
def T241.E:Ent P:=F241.E.wrap (.v pR)
def T260 {τ:Type} (l:LS_) (k:Nat→LS_→Option τ):Option τ:=wrapB F260.E (.tup [qReply,pI]) l k
def T260.E:Ent P:=F260.E.wrap (.tup [qReply,pI])
def T257 {τ:Type} (l:LS_) (k:Nat→LS_→Option τ):Option τ:=wrapB F257.E (.tup [pCode,pI]) l k
def T257.E:Ent P:=F257.E.wrap (.tup [pCode,pI])
def T258 {τ:Type} (l:LS_) (k:Nat→LS_→Option τ):Option τ:=wrapB F258.E (.tup [pR,pI]) l k
def T258.E:Ent P:=F258.E.wrap (.tup [pR,pI])
end
end Go.Proofs.Yticbdgmcofjkeaa.Ai
namespace Go.Proofs.Yticbdgmcofjkeaa.Ai
open Go Ma Go.RowKit
noncomputable section
def decB (q k:Int) (w g:List Int):Bool:=isQ q&&(decide (1≤k)&&(decide (k≤q-1)&&rightB q w g))
def decA (q k:Nat) (w g:List Int):LS_:=match dec q (fadd q) (fmul q) k (lostI g) w with
 | some m=>[.I 1,.I (far (lostI g) w (wordI q (fadd q) (fmul q) m) 0 (q-1):Nat),.L (wordI q (fadd q) (fmul q) m),.LL [],.I 0]
 | none=>[.I 4,.I 0,.L [],.LL [],.I 0]
section
variable {q:Nat}
theorem T260_bad {x y:Int} {w g:List Int} (hw:w.length<2^60) (hg:g.length<2^60) (h:decB x y w g=false) {τ:Type} (k:Nat→LS_→Option τ):T260 [.I x,.I y,.L w,.L g] k=k 0 [.I 0,.I 0,.L [],.LL [],.I 1]:=by
 have key:∀ {σ:Type} (κ:Nat→LS_→Option σ),F260 [.I x,.I y,.L w,.L g] κ=κ 0 []:=fun {σ} κ=>by
  unfold F260
  simp only [g_,h_]
  cases hx:isQ x with
  | false =>
   obtain ⟨a,b,M,e⟩:=T276_no hx
   rw [e]
   simp only [g_,sw_zero,h_]
   rw [br_of (b:=!false) rfl]
  | true =>
   obtain ⟨q,hq,h3,rfl⟩:=isQ_of hx
   have h16:=qs16 hq
   rw [T276_ok hq h3]
   simp only [g_,sw_zero,h_]
   rw [br_no (b:=!true) rfl,wr64 (n:=(q:Int)-1) (by omega) (by omega)]
   by_cases h1:1≤y
   ·by_cases h2:y≤(q:Int)-1
    ·have hr:rightB q w g=false:=by
      unfold decB at h
      rw [hx,decide_eq_true h1,decide_eq_true h2] at h
      simpa using h
     rw [br_no (by simp;omega),br_no (by simp;omega),ck_of (by simp),T279_spec (by omega) hw hg,hr]
     simp only [sw_zero,gB_zero,h_]
     rw [br_of (b:=!false) rfl]
    ·rw [br_no (by simp;omega),br_of (by simp;omega)]
   ·rw [br_of (by simp;omega)]
 exact wrap_of (e:=F260.E) (p:=.tup [qReply,pI]) (j:=0) (l2:=[]) (c:=true) (ls':=[.I 0,.I 0,.L [],.LL [],.I 1]) (by intro τ κ;kernel_rfl) rfl (fun κ=>key κ)
theorem L260_13_spec {w c g:List Int} (hl:c.length=w.length) (hs:w.length<2^20) (hg:g.length<2^20) (u a b d e:Int) {τ:Type} (κ:Nat→LS_→Option τ) :
  L260_13.b 0 [.I u,.N c.length,.L c,.I 0,.N w.length,.L w,.I w.length,.I 0,.N w.length,.L w,.N g.length,.L g,.I a,.I b,.I d,.I e] κ =
   κ 0 [.I u,.N c.length,.L c,.I (far (lostI g) w c 0 w.length:Nat),.I a,.I b,.I d,.I e]:=by
 unfold L260_13.b
 have fl:∀ j,far (lostI g) w c 0 j≤j:=fun j=>by
  induction j with
  | zero=>exact Nat.le_refl _
  | succ j ih=>rw [far_succ];split <;> omega
 refine (run_for L260_13 L260_13.s0 0 (fun _ _ _=>rfl) _ (fun j=>[.I u,.N c.length,.L c,.I (far (lostI g) w c 0 j:Nat),.N w.length,.L w,.I (w.length:Nat),.I (j:Nat),.N w.length,.L w,.N g.length,.L g,.I a,.I b,.I d,.I e]) w.length _ (by omega) (fun j hj next=>?_) (fun next=>?_))
 ·unfold L260_13.s0
  simp only [g_,Int.toNat_natCast,Nat.mul_one,h_]
  have:=fl j
  rw [far_succ,Nat.zero_add,br_of (by simp;omega),ck_of (by simp <;> omega),ck_of (by simp <;> omega),ck_of (by simp <;> omega),ck_of (by simp <;> omega)]
  by_cases he:c.getD j 0=w.getD j 0
  ·rw [br_no (by simpa [-List.getD_eq_getElem?_getD] using he),wsucc (by omega)]
   have:(!lostI g j&&c.getD j 0 != w.getD j 0)=false:=by simp only [bne,beq_iff_eq.2 he];simp
   rw [this];rfl
  ·rw [br_of (by simpa [-List.getD_eq_getElem?_getD] using he),ck_of (by simp),F275_in (by omega)]
   simp only [sw_zero,gB_zero,h_]
   have hb:(c.getD j 0 != w.getD j 0)=true:=by simpa [-List.getD_eq_getElem?_getD] using he
   cases hlo:lostI g j with
   | true=>rw [br_no (b:=!true) rfl,wsucc (by omega)];rfl
   | false=>rw [br_of (b:=!false) rfl,wsucc (by omega),wsucc (by omega),hb];rfl
 ·unfold L260_13.s0
  simp only [g_,h_]
  rw [br_no (by simp)]
theorem rightB_to (hq:q∈Qs) (h3:3≤q) {w g:List Int} (h:rightB q w g=true):w.length=q-1∧InQ q w∧goneB (q-1) g=true:=by
 unfold rightB at h
 simp only [Bool.and_eq_true,decide_eq_true_eq] at h
 obtain ⟨h1,h2,h4⟩:=h
 have:w.length=q-1:=by omega
 rw [this] at h4
 exact ⟨this,inB_iff.1 h2,h4⟩
theorem T260_ok (hq:q∈Qs) (h3:3≤q) {k:Nat} (k1:1≤k) (k2:k≤q-1) {w g:List Int} (h:rightB q w g=true) {τ:Type} (κ:Nat→LS_→Option τ):T260 [.I q,.I k,.L w,.L g] κ=κ 0 (decA q k w g):=by
 have F:=fld q hq
 have h16:=qs16 hq
 obtain ⟨wl,wi,hg⟩:=rightB_to hq h3 h
 have gl:=goneB_lost hg
 have gle:g.length≤q-1:=by
  rw [←gl]
  have:∀ n,nlost (lostI g) n≤n:=fun n=>by
   induction n with
   | zero=>exact Nat.le_refl _
   | succ n ih=>unfold nlost;split <;> omega
  exact this _
 have ew:wr .i64 ((q:Int)-1)=(q:Int)-1:=wr64 (by omega) (by omega)
 have ew2:wr .i64 ((q:Int)-1-(k:Int))=(q:Int)-1-(k:Int):=wr64 (by omega) (by omega)
 have ew3:wr .i64 ((q:Int)-1-(k:Int)-(g.length:Int))=(q:Int)-1-(k:Int)-(g.length:Int):=wr64 (by omega) (by omega)
 unfold decA
 by_cases hl:k+g.length≤q-1
 ·obtain ⟨left,hleft⟩:∃ left,left=q-1-k-g.length:=⟨_,rfl⟩
  have el:(q:Int)-1-(k:Int)-(g.length:Int)=(left:Nat):=by omega
  have ed:wr .i64 (Int.tdiv ((left:Nat):Int) 2)=((left / 2:Nat):Int):=by
   rw [show Int.tdiv ((left:Nat):Int) 2=((left / 2:Nat):Int) from rfl]
   exact wr64 (by omega) (by omega)
  obtain ⟨x,b,g1,g2,g3⟩:=T280_spec (g:=g) hq wi wl (by omega) (show 0<k by omega) (e:=left / 2) (by rw [gl];omega)
  have base:∀ {σ:Type} (κ:Nat→LS_→Option σ),F260 [.I q,.I k,.L w,.L g] κ=if b=false then κ 1 [] else
    if 2*far (lostI g) w (wordI q (fadd q) (fmul q) x) 0 (q-1)>left then κ 2 [.I 4,.I 0] else κ 3 [.I (far (lostI g) w (wordI q (fadd q) (fmul q) x) 0 (q-1):Nat),.N (q-1),.L (wordI q (fadd q) (fmul q) x)]:=fun {σ} κ=>by
   unfold F260
   simp only [g_,h_]
   rw [T276_ok hq h3]
   simp only [g_,sw_zero,h_]
   rw [br_no (b:=!true) rfl]
   simp only [ew,ew2,ew3]
   rw [br_no (by simp;omega),br_no (by simp;omega),ck_of (by simp),T279_spec (by omega) (by omega) (by omega),h]
   simp only [sw_zero,gB_zero,h_]
   rw [br_no (b:=!true) rfl,br_no (by simp;omega),ck_of (by simp),el,ed,g1]
   simp only [sw_zero,gL_zero,gB_zero,gB_succ,h_]
   cases b with
   | false=>rw [br_of (b:=!false) rfl,if_pos rfl]
   | true =>
    obtain ⟨xi,xl⟩:=g2 rfl
    have cl:(wordI q (fadd q) (fmul q) x).length=q-1:=wordI_len
    have fl:far (lostI g) w (wordI q (fadd q) (fmul q) x) 0 w.length≤w.length:=by
     have:∀ j,far (lostI g) w (wordI q (fadd q) (fmul q) x) 0 j≤j:=fun j=>by
      induction j with
      | zero=>exact Nat.le_refl _
      | succ j ih=>rw [far_succ];split <;> omega
     exact this _
    rw [br_no (b:=!true) rfl,ck_of (by simp),T277_spec hq xi (by omega)]
    simp only [sw_zero,gL_zero,h_]
    refine Eq.trans (L260_13_spec (w:=w) (c:=wordI q (fadd q) (fmul q) x) (g:=g) (by omega) (by omega) (by omega) left 0 0 4 0 _) ?_
    simp only [g_,sw_zero,h_]
    rw [wl] at fl ⊢
    rw [wr64 (by omega) (by omega),if_neg (by simp),cl]
    by_cases h2:2*far (lostI g) w (wordI q (fadd q) (fmul q) x) 0 (q-1)>left
    ·rw [if_pos h2,br_of (by simp;omega)]
    ·rw [if_neg h2,br_no (by simp;omega)]
  have none_:(∀ m,¬ Cl q (fadd q) (fmul q) k (lostI g) w m)→dec q (fadd q) (fmul q) k (lostI g) w=none:=dec_none
  cases b with
  | false =>
   rw [dec_none fun m hm=>by
    have h1:=hm.2.2
    have:=(g3 m hm.1 hm.2.1 (by omega)).1
    cases this]
   exact wrap_of (e:=F260.E) (p:=.tup [qReply,pI]) (j:=1) (l2:=[]) (c:=true) (ls':=[.I 4,.I 0,.L [],.LL [],.I 0]) (by intro τ κ;kernel_rfl) rfl (fun κ=>(base κ).trans (if_pos rfl))
  | true =>
   obtain ⟨xi,xl⟩:=g2 rfl
   by_cases h2:2*far (lostI g) w (wordI q (fadd q) (fmul q) x) 0 (q-1)>left
   ·rw [dec_none fun m hm=>by
     have h1:=hm.2.2
     have:=(g3 m hm.1 hm.2.1 (by omega)).2
     rw [this] at h2
     omega]
    exact wrap_of (e:=F260.E) (p:=.tup [qReply,pI]) (j:=2) (l2:=[.I 4,.I 0]) (c:=true) (ls':=[.I 4,.I 0,.L [],.LL [],.I 0]) (by intro τ κ;kernel_rfl) rfl (fun κ=>(base κ).trans ((if_neg (by simp)).trans (if_pos h2)))
   ·obtain ⟨m,ml,mi,mw⟩:=word_fill F xi xl (by omega)
    have hcl:Cl q (fadd q) (fmul q) k (lostI g) w m:=⟨ml,mi,by rw [mw];omega⟩
    have cl:(wordI q (fadd q) (fmul q) x).length=q-1:=wordI_len
    rw [dec_some F hcl]
    simp only [mw]
    generalize far (lostI g) w (wordI q (fadd q) (fmul q) x) 0 (q-1)=t at base h2 ⊢
    generalize wordI q (fadd q) (fmul q) x=c at base cl ⊢
    exact wrap_of (e:=F260.E) (p:=.tup [qReply,pI]) (j:=3) (l2:=[.I t,.N (q-1),.L c]) (c:=(true&&(true&&(decide (q-1=c.length)&&(true&&true))))&&(true&&true)) (ls':=[.I 1,.I t,.L c,.LL [],.I 0]) (by intro τ κ;kernel_rfl) (by simp;omega) (fun κ=>(base κ).trans ((if_neg (by simp)).trans (if_neg h2)))
 ·rw [dec_none fun m hm=>by
   have h1:=hm.2.2
   omega]
  have base:∀ {σ:Type} (κ:Nat→LS_→Option σ),F260 [.I q,.I k,.L w,.L g] κ=κ 1 []:=fun {σ} κ=>by
   unfold F260
   simp only [g_,h_]
   rw [T276_ok hq h3]
   simp only [g_,sw_zero,h_]
   rw [br_no (b:=!true) rfl]
   simp only [ew,ew2,ew3]
   rw [br_no (by simp;omega),br_no (by simp;omega),ck_of (by simp),T279_spec (by omega) (by omega) (by omega),h]
   simp only [sw_zero,gB_zero,h_]
   rw [br_no (b:=!true) rfl,br_of (by simp;omega)]
  exact wrap_of (e:=F260.E) (p:=.tup [qReply,pI]) (j:=1) (l2:=[]) (c:=true) (ls':=[.I 4,.I 0,.L [],.LL [],.I 0]) (by intro τ κ;kernel_rfl) rfl (fun κ=>base κ)
def msgB (q:Int) (m:List Int):Bool:=isQ q&&(decide (1≤m.length)&&(decide ((m.length:Int)≤q-1)&&inB q m))
theorem T258_bad {x:Int} {m:List Int} (hm:m.length<2^60) (h:msgB x m=false) {τ:Type} (k:Nat→LS_→Option τ):T258 [.I x,.L m] k=k 0 [.L [],.I 1]:=by
 have key:∀ {σ:Type} (κ:Nat→LS_→Option σ),F258 [.I x,.L m] κ=κ 0 []:=fun {σ} κ=>by
  unfold F258
  simp only [g_,h_]
  cases hx:isQ x with
  | false =>
   obtain ⟨a,b,M,e⟩:=T276_no hx
   rw [e]
   simp only [g_,sw_zero,h_]
   rw [br_of (b:=!false) rfl]
  | true =>
   obtain ⟨q,hq,h3,rfl⟩:=isQ_of hx
   have h16:=qs16 hq
   rw [T276_ok hq h3]
   simp only [g_,sw_zero,h_]
   rw [br_no (b:=!true) rfl,wr64 (n:=(q:Int)-1) (by omega) (by omega)]
   by_cases h1:1≤m.length
   ·by_cases h2:(m.length:Int)≤(q:Int)-1
    ·have hr:inB q m=false:=by
      unfold msgB at h
      rw [hx,decide_eq_true h1,decide_eq_true h2] at h
      simpa using h
     rw [br_no (by simp;omega),br_no (by simp;omega),ck_of (by simp),T278_spec hm,hr]
     simp only [sw_zero,gB_zero,h_]
     rw [br_of (b:=!false) rfl]
    ·rw [br_no (by simp;omega),br_of (by simp;omega)]
   ·rw [br_of (by simp;omega)]
 exact wrap_of (e:=F258.E) (p:=.tup [pR,pI]) (j:=0) (l2:=[]) (c:=true) (ls':=[.L [],.I 1]) (by intro τ κ;kernel_rfl) rfl (fun κ=>key κ)
theorem T258_ok (hq:q∈Qs) (h3:3≤q) {m:List Int} (m1:1≤m.length) (m2:m.length≤q-1) (mi:InQ q m) {τ:Type} (k:Nat→LS_→Option τ):T258 [.I q,.L m] k=k 0 [.L (wordI q (fadd q) (fmul q) m),.I 0]:=by
 have h16:=qs16 hq
 have wl:(wordI q (fadd q) (fmul q) m).length=q-1:=wordI_len
 have key:∀ {σ:Type} (κ:Nat→LS_→Option σ),F258 [.I q,.L m] κ=κ 1 [.N (wordI q (fadd q) (fmul q) m).length,.L (wordI q (fadd q) (fmul q) m)]:=fun {σ} κ=>by
  unfold F258
  simp only [g_,h_]
  rw [T276_ok hq h3]
  simp only [g_,sw_zero,h_]
  rw [br_no (b:=!true) rfl,wr64 (n:=(q:Int)-1) (by omega) (by omega),br_no (by simp;omega),br_no (by simp;omega),ck_of (by simp),T278_spec (by omega),inB_iff.2 mi]
  simp only [sw_zero,gB_zero,h_]
  rw [br_no (b:=!true) rfl,ck_of (by simp),T277_spec hq mi (by omega)]
  simp only [sw_zero,gL_zero,h_]
 generalize wordI q (fadd q) (fmul q) m=W at key ⊢
 exact wrap_of (e:=F258.E) (p:=.tup [pR,pI]) (j:=1) (l2:=[.N W.length,.L W]) (c:=decide (W.length=W.length)&&(true&&true)) (ls':=[.L W,.I 0]) (by intro τ κ;kernel_rfl) (by simp) (fun κ=>key κ)
end
end
end Go.Proofs.Yticbdgmcofjkeaa.Ai
namespace Go.Proofs.Yticbdgmcofjkeaa.Ai
open Go Go.RowKit
noncomputable section
variable {τ:Type} (t:Nat) (nx ex:Nat→LS_→Option τ) (l:LS_) (k κ:Nat→LS_→Option τ)
def F228.ps:List PV2:=[pI,pI]
def F228.sh:List PA:=[(PA.mk (PV3.v (PV2.agg [iI,iI,(PV1.sl (PC0.m .i64)),iI])) [])]
def F228.O:Orc P:=⟨[T257.E],[],[],40⟩
def F228:Option τ :=
 T257 [iG l 0,iG l 1]
 (fun j A=>(sw (k 0 [iG A 0,iG A 1,.N (gLL A 2).length,wG A 2,iG A 3])
 (fun _=>none)) j)
theorem F228.eq:FEq F228.O 50 F228.ps F228.sh F228:=by intro τ l κ;kernel_rfl
def F228.E:Ent P:=mkF F228.eq
def F230.ps:List PV2:=[pI,pR]
def F230.sh:List PA:=[(PA.mk (PV3.v (PV2.agg [(PV1.sl (PC0.i .i64)),iI])) [])]
def F230.O:Orc P:=⟨[T258.E],[],[],40⟩
def F230:Option τ :=
 ck ((eqM (gL l 1).length (gL l 1).length)&&true)
 (T258 [iG l 0,vG l 1]
 (fun j A=>(sw (k 0 [.N (gL A 0).length,vG A 0,iG A 1])
 (fun _=>none)) j))
theorem F230.eq:FEq F230.O 39 F230.ps F230.sh F230:=by intro τ l κ;kernel_rfl
def F230.E:Ent P:=mkF F230.eq
def F233.ps:List PV2:=[pI,pI,pNoisy]
def F233.sh:List PA:=[(PA.mk (PV3.v (PV2.agg [iI,iI,(PV1.sl (PC0.i .i64)),(PV1.sl (PC0.m .i64)),iI])) [])]
def F233.O:Orc P:=⟨[T260.E],[],[],40⟩
def F233:Option τ :=
 ck (((eqM (gL l 2).length (gL l 2).length)&&((eqM (gL l 3).length (gL l 3).length)&&true))&&true)
 (T260 [iG l 0,iG l 1,vG l 2,vG l 3]
 (fun j A=>(sw (k 0 [iG A 0,iG A 1,.N (gL A 2).length,vG A 2,.N (gLL A 3).length,wG A 3,iG A 4])
 (fun _=>none)) j))
theorem F233.eq:FEq F233.O 43 F233.ps F233.sh F233:=by intro τ l κ;kernel_rfl
def F233.E:Ent P:=mkF F233.eq
def F235.ps:List PV2:=[qAns,qAns]
def F235.sh:List PA:=[(PA.mk (PV3.v pB) [])]
def F235.O:Orc P:=⟨[T261.E],[],[],40⟩
def F235:Option τ :=
 br ((gI l 4)==(gI l 9))
 (ck (((eqM (gL l 2).length (gL l 2).length)&&((eqM (gLL l 3).length (gLL l 3).length)&&true))&&(((eqM (gL l 7).length (gL l 7).length)&&((eqM (gLL l 8).length (gLL l 8).length)&&true))&&true))
 (T261 [iG l 0,iG l 1,vG l 2,wG l 3,iG l 5,iG l 6,vG l 7,wG l 8]
 (fun j A=>(sw (k 0 [bG A 0])
 (fun _=>none)) j)))
 (k 0 [.B false])
theorem F235.eq:FEq F235.O 80 F235.ps F235.sh F235:=by intro τ l κ;kernel_rfl
def F235.E:Ent P:=mkF F235.eq
def F255.ps:List PV2:=[qAns,pR,pI]
def F255.sh:List PA:=[(PA.mk (PV3.v pB) [])]
def F255.O:Orc P:=⟨[F235.E],[],[],40⟩
def F255:Option τ :=
 ck (((eqM (gL l 2).length (gL l 2).length)&&((eqM (gLL l 3).length (gLL l 3).length)&&true))&&(((eqM (gL l 5).length (gL l 5).length)&&true)&&true))
 (F235 [iG l 0,iG l 1,vG l 2,wG l 3,iG l 4,.I 1,iG l 6,vG l 5,.LL [],.I 0]
 (fun j A=>(sw (k 0 [bG A 0])
 (fun _=>none)) j))
theorem F255.eq:FEq F255.O 42 F255.ps F255.sh F255:=by intro τ l κ;kernel_rfl
def F255.E:Ent P:=mkF F255.eq
def F256.ps:List PV2:=[qAns]
def F256.sh:List PA:=[(PA.mk (PV3.v pB) [])]
def F256.O:Orc P:=⟨[F235.E],[],[],40⟩
def F256:Option τ :=
 ck (((eqM (gL l 2).length (gL l 2).length)&&((eqM (gLL l 3).length (gLL l 3).length)&&true))&&true)
 (F235 [iG l 0,iG l 1,vG l 2,wG l 3,iG l 4,.I 4,.I 0,.L [],.LL [],.I 0]
 (fun j A=>(sw (k 0 [bG A 0])
 (fun _=>none)) j))
theorem F256.eq:FEq F256.O 46 F256.ps F256.sh F256:=by intro τ l κ;kernel_rfl
def F256.E:Ent P:=mkF F256.eq
end
end Go.Proofs.Yticbdgmcofjkeaa.Ai
namespace Go.Proofs.Yticbdgmcofjkeaa.Ai
open Go Go.RowKit
noncomputable section
def T228 {τ:Type} (l:LS_) (k:Nat→LS_→Option τ):Option τ:=wrapB F228.E (.v qCoded) l k
def T228.E:Ent P:=F228.E.wrap (.v qCoded)
def T230 {τ:Type} (l:LS_) (k:Nat→LS_→Option τ):Option τ:=wrapB F230.E (.v qWorded) l k
def T230.E:Ent P:=F230.E.wrap (.v qWorded)
def T233 {τ:Type} (l:LS_) (k:Nat→LS_→Option τ):Option τ:=wrapB F233.E (.v qAns) l k
def T233.E:Ent P:=F233.E.wrap (.v qAns)
def T255 {τ:Type} (l:LS_) (k:Nat→LS_→Option τ):Option τ:=F255 l k
def T255.E:Ent P:=F255.E
def T256 {τ:Type} (l:LS_) (k:Nat→LS_→Option τ):Option τ:=F256 l k
def T256.E:Ent P:=F256.E
end
end Go.Proofs.Yticbdgmcofjkeaa.Ai
namespace Go.Proofs.Yticbdgmcofjkeaa.Ai
open Go Ma Go.RowKit
noncomputable section
theorem T232_spec (a b:List Int) (hs:a.length<2^60) {τ:Type} (k:Nat→LS_→Option τ):T232 [.L a,.L b] k=k 0 [.B (decide (a=b))]:=by
 unfold T232 F232 L232_4.b
 simp only [gL_zero,gL_succ,h_]
 by_cases hl:a.length=b.length
 ·rw [br_no (by simp [hl])]
  refine (run_any L232_4 L232_4.s0 0 (fun _ _ _=>rfl) _ (fun j=>[.N a.length,.L a,.N b.length,.L b,.B false,.I (j:Nat)]) a.length (fun j=>a.getD j 0 != b.getD j 0) (k 0 [.B false]) (k 0 [.B true]) (by omega) (fun j hj next=>?_) (fun next=>?_)).trans ?_
  ·unfold L232_4.s0
   simp only [g_,Int.toNat_natCast,Nat.mul_one,h_]
   rw [br_of (by simp;omega),ck_of (by simp <;> omega),ck_of (by simp <;> omega),ck_of (by simp <;> omega),ck_of (by simp <;> omega),wsucc (by omega)]
   by_cases e:a.getD j 0=b.getD j 0
   ·rw [br_no (by simpa [-List.getD_eq_getElem?_getD] using e),if_neg (by simpa [-List.getD_eq_getElem?_getD] using e)]
   ·rw [br_of (by simpa [-List.getD_eq_getElem?_getD] using e),if_pos (by simpa [-List.getD_eq_getElem?_getD] using e)];rfl
  ·unfold L232_4.s0
   simp only [g_,h_]
   rw [br_no (by simp)]
   rfl
  ·by_cases h:a=b
   ·subst h
    have:(List.range a.length).any (fun j=>a.getD j 0 != a.getD j 0)=false:=by rw [List.any_eq_false];intro j _;simp
    rw [this];simp
   ·have:(List.range a.length).any (fun j=>a.getD j 0 != b.getD j 0)=true:=by
     rw [List.any_eq_true]
     refine Classical.byContradiction fun hn=>h (ext_getD hl fun j hj=>Classical.byContradiction fun hne=>hn ⟨j,List.mem_range.2 hj,by simpa [-List.getD_eq_getElem?_getD] using hne⟩)
    rw [this,decide_eq_false h];simp
 ·rw [br_of (by simpa using fun e:(a.length:Int)=b.length=>hl (by omega)),decide_eq_false fun e=>hl (by rw [e])]
theorem T261_spec {C D:List Int} {L M:List (List Int)} (hC:C.length<2^60) (hs:L.length<2^60) (hr:∀ i,(L.getD i []).length<2^60) (a b x y:Int) {τ:Type} (k:Nat→LS_→Option τ) :
  T261 [.I a,.I b,.L C,.LL L,.I x,.I y,.L D,.LL M] k=k 0 [.B (decide (a=x∧b=y∧C=D∧L=M))]:=by
 unfold T261 F261
 simp only [g_,h_]
 have t1:∀ X:List Int,List.take 1 (List.drop 0 [X])=[X]:=fun X=>rfl
 rw [t1,t1]
 by_cases h1:a=x
 ·rw [br_of (by simpa using h1)]
  by_cases h2:b=y
  ·rw [br_of (by simpa using h2),ck_of (by simp),ck_of (by simp),F22_spec _ _ _ (by simp) (fun i=>by cases i <;> simp <;> omega)]
   simp only [sw_zero,gB_zero,h_]
   by_cases h3:C=D
   ·subst h3
    rw [br_of (by simp),ck_of (by simp),F22_spec _ _ _ hs hr]
    simp [h1,h2]
   ·rw [br_no (by simpa using h3)]
    simp [h3]
  ·rw [br_no (by simpa using h2)]
   simp [h2]
 ·rw [br_no (by simpa using h1)]
  simp [h1]
theorem T235_spec {C D:List Int} {L M:List (List Int)} (hC:C.length<2^60) (hs:L.length<2^60) (hr:∀ i,(L.getD i []).length<2^60) (a b e x y f:Int) {τ:Type} (k:Nat→LS_→Option τ) :
  F235 [.I a,.I b,.L C,.LL L,.I e,.I x,.I y,.L D,.LL M,.I f] k=k 0 [.B (decide (e=f∧a=x∧b=y∧C=D∧L=M))]:=by
 unfold F235
 simp only [g_,h_]
 by_cases h1:e=f
 ·rw [br_of (by simpa using h1),ck_of (by simp),T261_spec hC hs hr]
  simp [h1]
 ·rw [br_no (by simpa using h1)]
  simp [h1]
theorem T255_spec {C D:List Int} {L:List (List Int)} (hC:C.length<2^60) (hs:L.length<2^60) (hr:∀ i,(L.getD i []).length<2^60) (a b e y:Int) {τ:Type} (k:Nat→LS_→Option τ) :
  T255 [.I a,.I b,.L C,.LL L,.I e,.L D,.I y] k=k 0 [.B (decide (e=0∧a=1∧b=y∧C=D∧L=[]))]:=by
 unfold T255 F255
 simp only [g_,h_]
 rw [ck_of (by simp),T235_spec hC hs hr]
 simp only [sw_zero,gB_zero,h_]
theorem T256_spec {C:List Int} {L:List (List Int)} (hC:C.length<2^60) (hs:L.length<2^60) (hr:∀ i,(L.getD i []).length<2^60) (a b e:Int) {τ:Type} (k:Nat→LS_→Option τ) :
  T256 [.I a,.I b,.L C,.LL L,.I e] k=k 0 [.B (decide (e=0∧a=4∧b=0∧C=[]∧L=[]))]:=by
 unfold T256 F256
 simp only [g_,h_]
 rw [ck_of (by simp),T235_spec hC hs hr]
 simp only [sw_zero,gB_zero,h_]
section
variable {q:Nat}
theorem F264_spec (hq:q∈Qs) {τ:Type} (k:Nat→LS_→Option τ):F264 [.I q] k=k 0 [.I (fp q),.I (fe q),.N (fm q).length,.L (fm q)]:=by
 unfold F264 T76
 simp only [gI_zero,h_]
 rw [tabM_of hq]
 simp only [g_,sw_zero,h_]
theorem T264_spec (hq:q∈Qs) {τ:Type} (k:Nat→LS_→Option τ):T264 [.I q] k=k 0 [.I (fp q),.I (fe q),.L (fm q)]:=by
 have h:=fun {σ:Type} (κ:Nat→LS_→Option σ)=>F264_spec hq κ
 generalize fm q=M at h ⊢
 have:=wrap_of (e:=F264.E) (p:=.v pField) (ls:=[.I q]) (j:=0) (l2:=[.I (fp q),.I (fe q),.N M.length,.L M]) (c:=(true&&(true&&(decide (M.length=(List.take (M.length*1) (List.drop 0 M)).length)&&true)))) (ls':=[.I (fp q),.I (fe q),.L (List.take (M.length*1) (List.drop 0 M))]) (by intro τ κ;kernel_rfl) (by simp) (k:=k) (fun κ=>h κ)
 rw [Nat.mul_one,List.drop_zero,List.take_length] at this
 exact this
theorem T77_of (hq:q∈Qs) {a b:Int} (ha:0≤a∧a<q) (hb:0≤b∧b<q) {τ:Type} (k:Nat→LS_→Option τ):T77 [.I (fp q),.I (fe q),.L (fm q),.I a,.I b] k=k 0 [.I (fadd q a b)]:=tab2_of hq ha.1 ha.2 hb.1 hb.2 k
theorem T89_of (hq:q∈Qs) {a b:Int} (ha:0≤a∧a<q) (hb:0≤b∧b<q) {τ:Type} (k:Nat→LS_→Option τ):T89 [.I (fp q),.I (fe q),.L (fm q),.I a,.I b] k=k 0 [.I (fmul q a b)]:=tab2_of hq ha.1 ha.2 hb.1 hb.2 k
theorem L265_3_spec (hq:q∈Qs) {a:List Int} (ha:InQ q a) (hs:a.length<2^30) {x:Int} (hx:0≤x∧x<q) {τ:Type} (κ:Nat→LS_→Option τ) :
  ∀ (f m:Nat),m≤a.length→m<f →
  runE L265_3 f κ 0 [.N a.length,.L a,.I x,.I (evI (fadd q) (fmul q) (a.drop m) x),.I ((m:Int)-1),.I (fp q),.I (fe q),.N (fm q).length,.L (fm q)]=κ 0 [.I (evI (fadd q) (fmul q) a x)]
 | 0,m,_,h=>by omega
 | f+1,m,h1,h2=>by
  have F:=fld q hq
  rw [runE_succ]
  show L265_3.s0 _ _ _=_
  unfold L265_3.s0
  simp only [g_,h_]
  cases m with
  | zero=>rw [br_no (by simp),List.drop_zero]
  | succ m =>
   have hd:InQ q (a.drop (m+1)):=fun j hj=>by
    rw [List.length_drop] at hj
    have:=ha (m+1+j) (by omega)
    simpa [List.getD_eq_getElem?_getD] using this
   have hv:=evI_in F hx hd
   have hm:=ha m (by omega)
   have hmu:=F.mul_in _ _ hv.1 hv.2 hx.1 hx.2
   have e1:((m+1:Nat):Int)-1=(m:Nat):=by omega
   rw [e1]
   simp only [Int.toNat_natCast,Nat.mul_one]
   rw [br_of (by simp),ck_of (by simp),T89_of hq hv hx]
   simp only [sw_zero,gI_zero,h_]
   rw [ck_of (by simp;omega),ck_of (by simp;omega),ck_of (by simp),T77_of hq hmu hm]
   simp only [sw_zero,gI_zero,h_]
   rw [wr64 (by omega) (by omega)]
   have e2:fadd q (fmul q (evI (fadd q) (fmul q) (a.drop (m+1)) x) x) (a.getD m 0)=evI (fadd q) (fmul q) (a.drop m) x:=by
    rw [drop_cons 0 (show m<a.length by omega)];rfl
   rw [e2]
   exact L265_3_spec hq ha hs hx κ f m (by omega) (by omega)
theorem F265_spec (hq:q∈Qs) {a:List Int} (ha:InQ q a) (hs:a.length<2^30) {x:Int} (hx:0≤x∧x<q) {τ:Type} (k:Nat→LS_→Option τ) :
  F265 [.I (fp q),.I (fe q),.L (fm q),.L a,.I x] k=k 0 [.I (evI (fadd q) (fmul q) a x)]:=by
 have hf:=fuel_le
 unfold F265 L265_3.b
 simp only [g_,h_]
 rw [wr64 (by omega) (by omega)]
 have h:=L265_3_spec hq ha hs hx (fun j l4=>(sw (k 0 [.I (gI l4 0)]) (fun _=>none)) j) fuel a.length (Nat.le_refl _) (by omega)
 rw [List.drop_length] at h
 exact h
theorem T240_spec (hq:q∈Qs) {m:List Int} (hm:InQ q m) (hs:m.length<2^20) {τ:Type} (k:Nat→LS_→Option τ):T240 [.I q,.L m] k=k 0 [.L (wordI q (fadd q) (fmul q) m)]:=by
 have F:=fld q hq
 have h1:=F.one_lt
 have h16:=qs16 hq
 have wl:(wordI q (fadd q) (fmul q) m).length=q-1:=wordI_len
 have h:∀ {σ:Type} (κ:Nat→LS_→Option σ),F240 [.I q,.L m] κ=κ 0 [.N (q-1),.L (wordI q (fadd q) (fmul q) m)]:=fun {σ} κ=>by
  unfold F240
  simp only [g_,h_]
  rw [F264_spec hq]
  simp only [g_,sw_zero,h_]
  unfold L240_4.b
  refine (run_for L240_4 L240_4.s0 0 (fun _ _ _=>rfl) _ (fun j=>[.I q,.N m.length,.L m,.N j,.I ((j+1:Nat):Int),.I (fp q),.I (fe q),.N (fm q).length,.L ((wordI q (fadd q) (fmul q) m).take j),.L (fm q)]) (q-1) (κ 0 [.N (q-1),.L (wordI q (fadd q) (fmul q) m)]) (by omega) (fun j hj next=>?_) (fun next=>?_))
  ·unfold L240_4.s0
   simp only [g_,Int.toNat_natCast,Nat.mul_one,Nat.zero_add,List.drop_zero,List.take_length,h_]
   rw [br_of (by simp;omega),ck_of (by simp),F265_spec hq hm (by omega) (by omega)]
   simp only [sw_zero,gI_zero,h_]
   have ts:=take_succ_getD 0 (l:=wordI q (fadd q) (fmul q) m) (j:=j) (by omega)
   rw [wordI_get (by omega)] at ts
   rw [ck_of (by simp;omega),wsucc (by omega),ts]
   rfl
  ·unfold L240_4.s0
   simp only [g_,h_]
   rw [br_no (by simp;omega),List.take_of_length_le (by omega)]
   rfl
 generalize wordI q (fadd q) (fmul q) m=W at h wl ⊢
 have:=wrap_of (e:=F240.E) (p:=.v pR) (ls:=[.I q,.L m]) (j:=0) (l2:=[.N (q-1),.L W]) (c:=decide (q-1=(List.take ((q-1)*1) (List.drop 0 W)).length)) (ls':=[.L (List.take ((q-1)*1) (List.drop 0 W))]) (by intro τ κ;kernel_rfl) (by simp;omega) (k:=k) (fun κ=>h κ)
 rw [Nat.mul_one,List.drop_zero,←wl,List.take_length] at this
 exact this
theorem F281_spec {g:List Int} (hs:g.length<2^60) (w:List Int) (i:Nat) {τ:Type} (k:Nat→LS_→Option τ):F281 [.L w,.L g,.I (i:Nat)] k=k 0 [.B (lostI g i)]:=by
 unfold F281 L281_2.b
 simp only [g_,h_]
 refine (run_any L281_2 L281_2.s0 0 (fun _ _ _=>rfl) _ (fun j=>[.I (i:Nat),.B false,.I (j:Nat),.N w.length,.L w,.N g.length,.L g]) g.length (fun j=>g.getD j 0==(i:Int)) (k 0 [.B true]) (k 0 [.B false]) (by omega) (fun j hj next=>?_) (fun next=>?_)).trans ?_
 ·unfold L281_2.s0
  simp only [g_,Int.toNat_natCast,Nat.mul_one,h_]
  rw [br_of (by simp;omega),ck_of (by simp <;> omega),ck_of (by simp <;> omega),wsucc (by omega)]
  by_cases e:g.getD j 0=(i:Int)
  ·rw [br_of (by rw [e];simp),if_pos (by rw [e];simp)];rfl
  ·rw [br_no (by simpa [-List.getD_eq_getElem?_getD] using e),if_neg (by simpa [-List.getD_eq_getElem?_getD] using e)]
 ·unfold L281_2.s0
  simp only [g_,h_]
  rw [br_no (by simp)]
  rfl
 ·rw [any_memb]
  cases lostI g i <;> rfl
theorem T263_spec {w c g:List Int} (hl:w.length=c.length) (hs:c.length<2^20) (hg:g.length<2^20) {τ:Type} (k:Nat→LS_→Option τ):T263 [.L w,.L g,.L c] k=k 0 [.I (far (lostI g) w c 0 c.length:Nat)]:=by
 have fl:∀ j,far (lostI g) w c 0 j≤j:=fun j=>by
  induction j with
  | zero=>exact Nat.le_refl _
  | succ j ih=>rw [far_succ];split <;> omega
 unfold T263 F263 L263_3.b
 simp only [gL_zero,gL_succ,h_]
 refine (run_for L263_3 L263_3.s0 0 (fun _ _ _=>rfl) _ (fun j=>[.N c.length,.L c,.I (far (lostI g) w c 0 j:Nat),.I (j:Nat),.N w.length,.L w,.N g.length,.L g]) c.length _ (by omega) (fun j hj next=>?_) (fun next=>?_))
 ·unfold L263_3.s0
  simp only [g_,Int.toNat_natCast,Nat.mul_one,h_]
  have:=fl j
  rw [far_succ,Nat.zero_add,br_of (by simp;omega),ck_of (by simp),F281_spec (by omega)]
  simp only [sw_zero,gB_zero,h_]
  cases hlo:lostI g j with
  | true=>rw [br_no (b:=!true) rfl,wsucc (by omega)];rfl
  | false =>
   rw [br_of (b:=!false) rfl,ck_of (by simp <;> omega),ck_of (by simp <;> omega),ck_of (by simp <;> omega),ck_of (by simp <;> omega)]
   by_cases he:c.getD j 0=w.getD j 0
   ·rw [br_no (by simpa [-List.getD_eq_getElem?_getD] using he),wsucc (by omega)]
    have:(!false&&c.getD j 0 != w.getD j 0)=false:=by simp only [bne,beq_iff_eq.2 he];rfl
    rw [this];rfl
   ·have hb:(c.getD j 0 != w.getD j 0)=true:=by simpa [-List.getD_eq_getElem?_getD] using he
    rw [br_of (by simpa [-List.getD_eq_getElem?_getD] using he),wsucc (by omega),wsucc (by omega),hb];rfl
 ·unfold L263_3.s0
  simp only [g_,h_]
  rw [br_no (by simp)]
  rfl
end
def szq (Q:Int):Nat:=[3,4,5,7,8,9,11,13,16].getD (Q.toNat % 9) 3
def szk (Q K:Int):Nat:=1+K.toNat % (szq Q-1)
theorem szq_qs (Q:Int):szq Q∈Qs∧3≤szq Q:=by
 unfold szq
 have h:Q.toNat % 9<9:=Nat.mod_lt _ (by omega)
 generalize Q.toNat % 9=r at h
 have:∀ r,r<9→([3,4,5,7,8,9,11,13,16].getD r 3∈Qs∧3≤[3,4,5,7,8,9,11,13,16].getD r 3):=by decide
 exact this r h
theorem szk_le (Q K:Int):1≤szk Q K∧szk Q K≤szq Q-1:=by
 have:=(szq_qs Q).2
 unfold szk
 have:=Nat.mod_lt K.toNat (show 0<szq Q-1 by omega)
 omega
theorem tmodN {a:Int} {b:Nat} (ha:0≤a) (hb:0<b):Int.tmod a (b:Int)=((a.toNat % b:Nat):Int):=by
 obtain ⟨n,rfl⟩:=Int.eq_ofNat_of_zero_le ha
 rfl
theorem F227_spec {Q K:Int} (hQ:0≤Q∧Q<256) (hK:0≤K∧K<256) (M E G:List Int) {τ:Type} (k:Nat→LS_→Option τ):F227 [.I Q,.I K,.L M,.L E,.L G] k=k 0 [.I (szq Q),.I (szk Q K)]:=by
 have h3:=(szq_qs Q).2
 have h16:=qs16 (szq_qs Q).1
 have hm:Q.toNat % 9<9:=Nat.mod_lt _ (by omega)
 have e0:Int.tmod (wr .i64 Q) 9=((Q.toNat % 9:Nat):Int):=by
  rw [wr64 (by omega) (by omega)]
  exact tmodN (b:=9) hQ.1 (by omega)
 have e1:([(3:Int),4,5,7,8,9,11,13,16]:List Int).getD (Q.toNat % 9) 0=((szq Q:Nat):Int):=by
  unfold szq
  generalize Q.toNat % 9=r at hm
  have:∀ r,r<9→([(3:Int),4,5,7,8,9,11,13,16]:List Int).getD r 0=(([3,4,5,7,8,9,11,13,16].getD r 3:Nat):Int):=by decide
  exact this r hm
 have e2:wr .i64 (((szq Q:Nat):Int)-1)=((szq Q-1:Nat):Int):=by rw [wr64 (by omega) (by omega)];omega
 have e3:Int.tmod (wr .i64 K) ((szq Q-1:Nat):Int)=((K.toNat % (szq Q-1):Nat):Int):=by
  rw [wr64 (by omega) (by omega)]
  exact tmodN hK.1 (by omega)
 have hk:=Nat.mod_lt K.toNat (show 0<szq Q-1 by omega)
 unfold F227
 simp only [gI_zero,gI_succ,e0,Int.toNat_natCast,Nat.mul_one,Nat.zero_add,e1,e2,e3,h_]
 rw [ck_of (by simp;omega),ck_of (by simp;omega),ck_of (by simp;omega)]
 unfold szk
 rw [wr64 (by omega) (by omega)]
 rfl
theorem T227_spec {Q K:Int} (hQ:0≤Q∧Q<256) (hK:0≤K∧K<256) (M E G:List Int) {τ:Type} (k:Nat→LS_→Option τ):T227 [.I Q,.I K,.L M,.L E,.L G] k=k 0 [.I (szq Q),.I (szk Q K)] :=
 wrap_of (e:=F227.E) (p:=.v q22) (j:=0) (l2:=[.I (szq Q),.I (szk Q K)]) (c:=true) (ls':=[.I (szq Q),.I (szk Q K)]) (by intro τ κ;kernel_rfl) rfl (fun κ=>F227_spec hQ hK M E G κ)
def msgR (Q K:Int) (M:List Int):List Int:=(List.range (szk Q K)).map fun i=>if i<M.length then (((M.getD i 0).toNat % szq Q:Nat):Int) else 0
theorem msgR_len (Q K:Int) (M:List Int):(msgR Q K M).length=szk Q K:=by simp [msgR]
theorem msgR_in (Q K:Int) (M:List Int):InQ (szq Q) (msgR Q K M):=fun j hj=>by
 rw [msgR_len] at hj
 have h3:=(szq_qs Q).2
 unfold msgR
 rw [map_get hj]
 split
 ·have:=Nat.mod_lt (M.getD j 0).toNat (show 0<szq Q by omega);omega
 ·omega
theorem T241_spec {Q K:Int} (hQ:0≤Q∧Q<256) (hK:0≤K∧K<256) {M:List Int} (hM:Bytes M) (E G:List Int) {τ:Type} (k:Nat→LS_→Option τ):T241 [.I Q,.I K,.L M,.L E,.L G] k=k 0 [.L (msgR Q K M)]:=by
 have h3:=(szq_qs Q).2
 have h16:=qs16 (szq_qs Q).1
 have hk:=szk_le Q K
 have ml:=msgR_len Q K M
 have h:∀ {σ:Type} (κ:Nat→LS_→Option σ),F241 [.I Q,.I K,.L M,.L E,.L G] κ=κ 0 [.N (szk Q K),.L (msgR Q K M)]:=fun {σ} κ=>by
  unfold F241
  simp only [g_,h_]
  rw [ck_of (by simp),F227_spec hQ hK]
  simp only [sw_zero,gI_zero,gI_succ,Int.toNat_natCast,h_]
  rw [ck_of (by simp;omega)]
  unfold L241_4.b
  have h0:List.replicate (szk Q K) (0:Int)=fil (szk Q K) (fun i=>if i<M.length then (((M.getD i 0).toNat % szq Q:Nat):Int) else 0) (fun _=>0) 0:=by rw [fil_zero,map_zero]
  rw [h0]
  have hmin:min (szk Q K) M.length≤szk Q K:=Nat.min_le_left _ _
  refine (run_for L241_4 L241_4.s0 0 (fun _ _ _=>rfl) _ (fun j=>[.N (szk Q K),.I (j:Nat),.I Q,.I K,.N M.length,.L M,.N (E.length / 2),.L E,.N G.length,.L G,.I (szq Q),.I (szk Q K),.L (fil (szk Q K) (fun i=>if i<M.length then (((M.getD i 0).toNat % szq Q:Nat):Int) else 0) (fun _=>0) j)]) (min (szk Q K) M.length) (κ 0 [.N (szk Q K),.L (msgR Q K M)]) (by omega) (fun j hj next=>?_) (fun next=>?_))
  ·have h5:=hM.2 j
   unfold L241_4.s0
   simp only [g_,Int.toNat_natCast,Nat.mul_one,Nat.zero_add,h_]
   rw [br_of (by simp;omega),br_of (by simp;omega),ck_of (by simp;omega),ck_of (by simp;omega),ck_of (by simp;omega),ck_of (by simp;omega),ck_of (by simp [fil_len];omega),wsucc (by omega),wr64 (n:=M.getD j 0) (by omega) (by omega),tmodN h5.1 (by omega)]
   have:=fil_set (n:=szk Q K) (f:=fun i=>if i<M.length then (((M.getD i 0).toNat % szq Q:Nat):Int) else 0) (g:=fun _=>0) (j:=j)
   simp only [show j<M.length by omega,if_true] at this
   rw [this]
  ·unfold L241_4.s0
   simp only [g_,h_]
   have he:fil (szk Q K) (fun i=>if i<M.length then (((M.getD i 0).toNat % szq Q:Nat):Int) else 0) (fun _=>0) (min (szk Q K) M.length)=msgR Q K M:=by
    unfold fil msgR
    refine List.map_congr_left fun i hi=>?_
    have:=List.mem_range.1 hi
    by_cases hc:i<M.length
    ·rw [if_pos (by omega)]
    ·rw [if_neg (by omega),if_neg hc]
   rw [he]
   by_cases hc:szk Q K≤M.length
   ·rw [Nat.min_eq_left hc,br_no (by simp)]
    rfl
   ·rw [Nat.min_eq_right (by omega),br_of (by simp;omega),br_no (by simp)]
    rfl
 generalize msgR Q K M=W at h ml ⊢
 have:=wrap_of (e:=F241.E) (p:=.v pR) (ls:=[.I Q,.I K,.L M,.L E,.L G]) (j:=0) (l2:=[.N (szk Q K),.L W]) (c:=decide (szk Q K=(List.take (szk Q K*1) (List.drop 0 W)).length)) (ls':=[.L (List.take (szk Q K*1) (List.drop 0 W))]) (by intro τ κ;kernel_rfl) (by simp;omega) (k:=k) (fun κ=>h κ)
 rw [Nat.mul_one,List.drop_zero,←ml,List.take_length] at this
 exact this
end
end Go.Proofs.Yticbdgmcofjkeaa.Ai
namespace Go.Proofs.Yticbdgmcofjkeaa.Ai
open Go Go.RowKit
noncomputable section
variable {τ:Type} (t:Nat) (nx ex:Nat→LS_→Option τ) (l:LS_) (k κ:Nat→LS_→Option τ)
def kfo0:List PO:=[(oG [(pK IntKind.u8),(pK IntKind.u8),(PV2.v (PV1.sl (PC0.i IntKind.u8))),(PV2.v (PV1.sl (PC0.i IntKind.u8))),(PV2.v (PV1.sl (PC0.i IntKind.u8)))]),(oG [pI,pI]),(oG [nS,nS]),(oG [pI,pI]),(oG [(rr 5),nS]),oI]
def L239_4.H:LHead:=⟨false,true,0,167940,167940,1002,490,0,[(PS.mk (us 1 (qR::us 1 ((pp 0)::us 1 ((pp 1)::(pp 2)::(pp 3)::(pp 4)::pI::us 102 [])))) kfo0)],[((Out.exit 0),(PS.mk (us 1 (qR::us 1 ((pp 0)::us 1 ((pp 1)::(pp 2)::(pp 3)::(pp 4)::us 103 [])))) kfo0))]⟩
def L239_4.O:Orc P:=⟨[],[],[],40⟩
def L239_4.s0:Option τ :=
 br (ltI (gI l 2) (gN l 7))
 (br (ltI (gI l 2) (gI l 11))
 (ck (((leI 0 (gI l 2))&&(ltI (gI l 2) (gN l 7)))&&true)
 (ck (ltN (((Int.toNat (gI l 2))*2)+0) (gL l 8).length)
 (ck (!((((gN l 0):Nat):Int)==0))
 (ck (((leI 0 (gI l 2))&&(ltI (gI l 2) (gN l 7)))&&true)
 (ck (ltN (((Int.toNat (gI l 2))*2)+1) (gL l 8).length)
 (ck (!((gI l 13)==0))
 (ck (((leI 0 (Int.tmod (wr .i64 (List.getD (gL l 8) (((Int.toNat (gI l 2))*2)+0) 0)) (((gN l 0):Nat):Int)))&&(ltI (Int.tmod (wr .i64 (List.getD (gL l 8) (((Int.toNat (gI l 2))*2)+0) 0)) (((gN l 0):Nat):Int)) (((gN l 15):Nat):Int)))&&true)
 (ck ((leN ((0+((Int.toNat (Int.tmod (wr .i64 (List.getD (gL l 8) (((Int.toNat (gI l 2))*2)+0) 0)) (((gN l 0):Nat):Int)))*1))+1) (gL l 16).length)&&true)
 (nx 0 [nG l 0,vG l 1,.I (wr .i64 ((gI l 2)+1)),iG l 3,iG l 4,nG l 5,vG l 6,nG l 7,vG l 8,nG l 9,vG l 10,iG l 11,iG l 12,iG l 13,iG l 14,nG l 15,.L (List.set (gL l 16) (0+((Int.toNat (Int.tmod (wr .i64 (List.getD (gL l 8) (((Int.toNat (gI l 2))*2)+0) 0)) (((gN l 0):Nat):Int)))*1)) (Int.tmod (wr .i64 (List.getD (gL l 8) (((Int.toNat (gI l 2))*2)+1) 0)) (gI l 13)))])))))))))
 (ex 0 [nG l 0,vG l 1,iG l 3,iG l 4,nG l 5,vG l 6,nG l 7,vG l 8,nG l 9,vG l 10,iG l 11,iG l 12,iG l 13,iG l 14,nG l 15,vG l 16]))
 (ex 0 [nG l 0,vG l 1,iG l 3,iG l 4,nG l 5,vG l 6,nG l 7,vG l 8,nG l 9,vG l 10,iG l 11,iG l 12,iG l 13,iG l 14,nG l 15,vG l 16])
theorem L239_4.e0:LEq L239_4.O L239_4.H 0 L239_4.s0:=by intro τ next κ l;kernel_rfl
def L239_4:LStep P Cf:=LStep.mk1 (by decide) L239_4.e0
def L239_4.b:Option τ:=runE L239_4 fuel κ t l
def L239_4.E:LEnt P:=LStep.E L239_4
def L239_9.H:LHead:=⟨false,true,0,167945,167945,3562,1474,0,[(PS.mk (us 1 (qR::us 1 ((pp 0)::us 1 ((pp 1)::(pp 2)::(pp 3)::(pp 4)::us 1 ((rr 5)::pI::us 100 []))))) [(oG [(pK IntKind.u8),(pK IntKind.u8),(PV2.v (PV1.sl (PC0.i IntKind.u8))),(PV2.v (PV1.sl (PC0.i IntKind.u8))),(PV2.v (PV1.sl (PC0.i IntKind.u8)))]),(oG [pI,pI]),(oG [nS,nS]),(oG [pI,pI]),(oG [(rr 6),nS]),oB,oI])],[((Out.exit 2),(PS.mk (us 1 (qR::us 4 ((pp 0)::(pp 1)::(pp 2)::us 1 ((rr 3)::us 101 [])))) [(oG [nS,nS]),(oG [pI,pI]),(oG [(rr 4),nS]),oB,oI]))]⟩
def L239_9.O:Orc P:=⟨[],[],[],40⟩
def L239_9.s0:Option τ :=
 br (ltI (gI l 3) (gN l 10))
 (br (ltI (gI l 3) (gI l 13))
 (ck (((leI 0 (gI l 3))&&(ltI (gI l 3) (gN l 10)))&&true)
 (ck (ltN ((Int.toNat (gI l 3))*1) (gL l 11).length)
 (ck (!((((gN l 0):Nat):Int)==0))
 (ck (((leI 0 (Int.tmod (wr .i64 (List.getD (gL l 11) ((Int.toNat (gI l 3))*1) 0)) (((gN l 0):Nat):Int)))&&(ltI (Int.tmod (wr .i64 (List.getD (gL l 11) ((Int.toNat (gI l 3))*1) 0)) (((gN l 0):Nat):Int)) (((gN l 2):Nat):Int)))&&true)
 (ck ((leN ((0+((Int.toNat (Int.tmod (wr .i64 (List.getD (gL l 11) ((Int.toNat (gI l 3))*1) 0)) (((gN l 0):Nat):Int)))*1))+1) (gLB l 17).length)&&true)
 (nx 0 [nG l 0,vG l 1,nG l 2,.I (wr .i64 ((gI l 3)+1)),iG l 4,iG l 5,nG l 6,vG l 7,nG l 8,vG l 9,nG l 10,vG l 11,iG l 12,iG l 13,iG l 14,iG l 15,nG l 16,.LB (List.set (gLB l 17) (0+((Int.toNat (Int.tmod (wr .i64 (List.getD (gL l 11) ((Int.toNat (gI l 3))*1) 0)) (((gN l 0):Nat):Int)))*1)) true),vG l 18]))))))
 (ex 0 [nG l 0,vG l 1,nG l 2,iG l 14,iG l 15,nG l 16,.LB (gLB l 17),vG l 18]))
 (ex 0 [nG l 0,vG l 1,nG l 2,iG l 14,iG l 15,nG l 16,.LB (gLB l 17),vG l 18])
theorem L239_9.e0:LEq L239_9.O L239_9.H 0 L239_9.s0:=by intro τ next κ l;kernel_rfl
def L239_9:LStep P Cf:=LStep.mk1 (by decide) L239_9.e0
def L239_9.b:Option τ:=runE L239_9 fuel κ t l
def L239_9.E:LEnt P:=LStep.E L239_9
def L239_13.H:LHead:=⟨false,true,0,167949,167949,5570,320,0,[(PS.mk (us 1 (qR::us 4 ((pp 0)::(pp 1)::(pp 2)::us 1 ((rr 3)::us 1 (pI::us 99 []))))) [(oG [nS,nS]),(oG [pI,pI]),(oG [(rr 4),nS]),oB,oI]),(PS.mk (us 1 (qR::us 4 ((pp 0)::(pp 1)::(pp 2)::us 1 ((rr 3)::us 1 (pI::us 99 []))))) [(oG [nS,nS]),(oG [pI,pI]),(oG [(rr 4),(rr 5)]),oB,oI,oI])],[((Out.exit 4),(PS.mk (us 6 ((pp 0)::us 1 ((pp 1)::us 103 []))) [(oG [nS,nS]),(oG [(rr 2),nS]),oI])),((Out.exit 4),(PS.mk (us 6 ((pp 0)::us 1 ((pp 1)::us 103 []))) [(oG [nS,nS]),(oG [(rr 2),(rr 3)]),oI,oI]))]⟩
def L239_13.O:Orc P:=⟨[],[],[],40⟩
def L239_13.s0:Option τ :=
 br (ltI (gI l 3) (gN l 0))
 (ck (((leI 0 (gI l 3))&&(ltI (gI l 3) (gN l 2)))&&true)
 (ck (ltN (0+((Int.toNat (gI l 3))*1)) (gLB l 7).length)
 (br (List.getD (gLB l 7) (0+((Int.toNat (gI l 3))*1)) false)
 (ck (((leI 0 (gI l 3))&&(ltI (gI l 3) (gN l 6)))&&true)
 (ck (ltN (0+((Int.toNat (gI l 3))*1)) (gL l 8).length)
 (ck (!((gI l 4)==0))
 (ck (((leI 0 (gI l 3))&&(ltI (gI l 3) (gN l 6)))&&true)
 (ck ((leN ((0+((Int.toNat (gI l 3))*1))+1) (gL l 8).length)&&true)
 (nx 1 [nG l 0,vG l 1,nG l 2,.I (wr .i64 ((gI l 3)+1)),iG l 4,iG l 5,nG l 6,.N 1,.LB (gLB l 7),.L (List.set (gL l 8) (0+((Int.toNat (gI l 3))*1)) (Int.tmod (wr .i64 ((List.getD (gL l 8) (0+((Int.toNat (gI l 3))*1)) 0)+1)) (gI l 4))),.L (List.take 1 (List.drop 0 [(gI l 3)]))]))))))
 (nx 0 [nG l 0,vG l 1,nG l 2,.I (wr .i64 ((gI l 3)+1)),iG l 4,iG l 5,nG l 6,.LB (gLB l 7),vG l 8]))))
 (ex 0 [nG l 6,vG l 8])
theorem L239_13.e0:LEq L239_13.O L239_13.H 0 L239_13.s0:=by intro τ next κ l;kernel_rfl
def L239_13.s1:Option τ :=
 br (ltI (gI l 3) (gN l 0))
 (ck (((leI 0 (gI l 3))&&(ltI (gI l 3) (gN l 2)))&&true)
 (ck (ltN (0+((Int.toNat (gI l 3))*1)) (gLB l 8).length)
 (br (List.getD (gLB l 8) (0+((Int.toNat (gI l 3))*1)) false)
 (ck (((((eqM (gL l 10).length ((gN l 7)*1))&&true)&&(eqM 1 1))&&(leN (((gN l 7)+1)*9) 1099511627776))&&true)
 (ck (((leI 0 (gI l 3))&&(ltI (gI l 3) (gN l 6)))&&true)
 (ck (ltN (0+((Int.toNat (gI l 3))*1)) (gL l 9).length)
 (ck (!((gI l 4)==0))
 (ck (((leI 0 (gI l 3))&&(ltI (gI l 3) (gN l 6)))&&true)
 (ck ((leN ((0+((Int.toNat (gI l 3))*1))+1) (gL l 9).length)&&true)
 (nx 1 [nG l 0,vG l 1,nG l 2,.I (wr .i64 ((gI l 3)+1)),iG l 4,iG l 5,nG l 6,.N ((gN l 7)+1),.LB (gLB l 8),.L (List.set (gL l 9) (0+((Int.toNat (gI l 3))*1)) (Int.tmod (wr .i64 ((List.getD (gL l 9) (0+((Int.toNat (gI l 3))*1)) 0)+1)) (gI l 4))),.L ((gL l 10)++(List.take 1 (List.drop 0 [(gI l 3)])))])))))))
 (nx 1 [nG l 0,vG l 1,nG l 2,.I (wr .i64 ((gI l 3)+1)),iG l 4,iG l 5,nG l 6,nG l 7,.LB (gLB l 8),vG l 9,vG l 10]))))
 (ex 1 [nG l 6,nG l 7,vG l 9,vG l 10])
theorem L239_13.e1:LEq L239_13.O L239_13.H 1 L239_13.s1:=by intro τ next κ l;kernel_rfl
def L239_13:LStep P Cf:=LStep.mk2 (by decide) L239_13.e0 L239_13.e1
def L239_13.b:Option τ:=runE L239_13 fuel κ t l
def L239_13.E:LEnt P:=LStep.E L239_13
def F239.ps:List PV2:=[qRaw33,pR,q22]
def F239.sh:List PA:=[(PA.mk (PV3.v (PV2.agg [(r1 0),PV1.nilS])) [cI]),(PA.mk (PV3.v (PV2.agg [(r1 0),(r1 1)])) [cI,cI])]
def F239.O:Orc P:=⟨[T227.E],[L239_4.E,L239_9.E,L239_13.E],[],40⟩
def F239:Option τ :=
 ck (((eqM (gL l 2).length (gL l 2).length)&&((decide ((@HDiv.hDiv Nat Nat Nat (@instHDiv Nat Nat.instDiv) (gL l 3).length 2)=(@HDiv.hDiv Nat Nat Nat (@instHDiv Nat Nat.instDiv) (gL l 3).length 2)))&&((eqM (gL l 4).length (gL l 4).length)&&true)))&&true)
 (T227 [iG l 0,iG l 1,vG l 2,vG l 3,vG l 4]
 (fun j A=>(sw (ck (((eqM (gL l 5).length ((gL l 5).length*1))&&(leN ((0+(gL l 5).length)*9) 1099511627776))&&true)
 (L239_4.b 0 [.N (gL l 5).length,vG l 5,.I 0,iG l 0,iG l 1,.N (gL l 2).length,vG l 2,.N (@HDiv.hDiv Nat Nat Nat (@instHDiv Nat Nat.instDiv) (gL l 3).length 2),vG l 3,.N (gL l 4).length,vG l 4,iG l 6,iG l 7,iG A 0,iG A 1,.N (0+(gL l 5).length),.L ([]++(gL l 5))]
 (fun j B=>(sw (ck (((leI 0 (gN B 0))&&(leI (((gN B 0):Nat):Int) (((gN B 0):Nat):Int)))&&(leI ((((gN B 0):Nat):Int)*2) 1099511627776))
 (L239_9.b 0 [nG B 0,vG B 1,.N (Int.toNat (((gN B 0):Nat):Int)),.I 0,iG B 2,iG B 3,nG B 4,vG B 5,nG B 6,vG B 7,nG B 8,vG B 9,iG B 10,iG B 11,iG B 12,iG B 13,nG B 14,.LB (List.replicate (Int.toNat (((gN B 0):Nat):Int)) false),vG B 15]
 (fun j C=>(sw (L239_13.b 0 [nG C 0,vG C 1,nG C 2,.I 0,iG C 3,iG C 4,nG C 5,.LB (gLB C 6),vG C 7]
 (fun j D=>(sw (k 0 [nG D 0,vG D 1])
 (sw (k 1 [nG D 0,nG D 1,vG D 2,vG D 3])
 (fun _=>none))) j))
 (fun _=>none)) j)))
 (fun _=>none)) j)))
 (fun _=>none)) j))
theorem F239.eq:FEq F239.O 41 F239.ps F239.sh F239:=by intro τ l κ;kernel_rfl
def F239.E:Ent P:=mkF F239.eq
end
end Go.Proofs.Yticbdgmcofjkeaa.Ai
namespace Go.Proofs.Yticbdgmcofjkeaa.Ai
open Go Ma Go.RowKit
noncomputable section
def T239 {τ:Type} (l:LS_) (k:Nat→LS_→Option τ):Option τ:=wrapB F239.E (.v pNoisy) l k
def T239.E:Ent P:=F239.E.wrap (.v pNoisy)
def Bytes2 (l:List Int):Prop:=l.length≤2*maxLen∧∀ j,0≤l.getD j 0∧l.getD j 0<256
theorem nzI {a:Int} (h:a≠0):(!(a==0))=true:=by rw [Bool.not_eq_true',beq_eq_false_iff_ne];exact h
theorem far_set {w:List Int} (x:List Int) (p:Nat) (v:Int) (lost:Nat→Bool):∀ n,far lost (w.set p v) x 0 n≤far lost w x 0 n+(if p<n then 1 else 0)
 | 0=>Nat.le_refl _
 | n+1=>by
  have ih:=far_set (w:=w) x p v lost n
  by_cases e:p=n
  ·subst e
   rw [if_neg (by omega)] at ih
   have h2:(if p<p+1 then 1 else 0)=(1:Nat):=if_pos (by omega)
   have ha:far lost (w.set p v) x 0 (p+1)≤far lost (w.set p v) x 0 p+1:=by rw [far_succ];split <;> omega
   have hb:far lost w x 0 p≤far lost w x 0 (p+1):=by rw [far_succ];omega
   rw [h2];omega
  ·have:(w.set p v).getD n 0=w.getD n 0:=by rw [List.getD_eq_getElem?_getD,List.getD_eq_getElem?_getD,List.getElem?_set_ne e]
   rw [far_succ,far_succ,Nat.zero_add,this]
   have h2:(if p<n+1 then 1 else 0)=(if p<n then 1 else 0:Nat):=by
    by_cases h:p<n
    ·rw [if_pos h,if_pos (by omega)]
    ·rw [if_neg h,if_neg (by omega)]
   rw [h2]
   omega
theorem far_self (x:List Int) (lost:Nat→Bool):∀ n,far lost x x 0 n=0
 | 0=>rfl
 | n+1=>by rw [far_succ,far_self x lost n];simp
theorem far_less {lost:Nat→Bool} (w x:List Int):∀ n,far lost w x 0 n≤far (fun _=>false) w x 0 n
 | 0=>Nat.le_refl _
 | n+1=>by
  have ih:=far_less (lost:=lost) w x n
  rw [far_succ,far_succ,Nat.zero_add]
  cases lost n <;> simp <;> (try split) <;> omega
theorem far_same {lost:Nat→Bool} {w w':List Int} (x:List Int):∀ n,(∀ j,j<n→lost j=false→w'.getD j 0=w.getD j 0)→far lost w' x 0 n=far lost w x 0 n
 | 0,_=>rfl
 | n+1,h=>by
  rw [far_succ,far_succ,far_same x n fun j hj=>h j (by omega),Nat.zero_add]
  cases hl:lost n with
  | true=>rfl
  | false=>rw [h n (by omega) hl]
section
variable {q:Nat}
theorem L239_4_spec (hq:q∈Qs) {x E:List Int} (hx0:0<x.length) (hx1:x.length<2^20) (hE:Bytes2 E) (m0 m1 u2 u3 u14:Int) (u5:Nat) (u6:List Int) (u9:Nat) (u10:List Int):∀ (f i:Nat) (W:List Int),i≤E.length / 2→E.length / 2-i<f→W.length=x.length→InQ q W→far (fun _=>false) W x 0 x.length≤i→((i:Int)≤m0∨i=0) →
  ∃ W':List Int,W'.length=x.length∧InQ q W'∧((far (fun _=>false) W' x 0 x.length:Nat):Int)≤max 0 m0∧∀ {τ:Type} (κ:Nat→LS_→Option τ),
   runE L239_4 f κ 0 [.N x.length,.L x,.I i,.I u2,.I u3,.N u5,.L u6,.N (E.length / 2),.L E,.N u9,.L u10,.I m0,.I m1,.I q,.I u14,.N x.length,.L W] =
    κ 0 [.N x.length,.L x,.I u2,.I u3,.N u5,.L u6,.N (E.length / 2),.L E,.N u9,.L u10,.I m0,.I m1,.I q,.I u14,.N x.length,.L W']
 | 0,i,W,h1,h2,h3,h4,h5,h6=>by omega
 | f+1,i,W,h1,h2,h3,h4,h5,h6=>by
  have F:=fld q hq
  have q1:=F.one_lt
  have h16:=qs16 hq
  have hEl:=hE.1
  unfold maxLen at hEl
  have fin:((far (fun _=>false) W x 0 x.length:Nat):Int)≤max 0 m0:=by omega
  by_cases hi:i<E.length / 2
  ·by_cases hm:(i:Int)<m0
   ·have e0:=hE.2 (i*2+0)
    have e1:=hE.2 (i*2+1)
    have t0:Int.tmod (wr .i64 (E.getD (i*2+0) 0)) ((x.length:Nat):Int)=(((E.getD (i*2+0) 0).toNat % x.length:Nat):Int):=by
     rw [wr64 (by omega) (by omega)];exact tmodN e0.1 hx0
    have t1:Int.tmod (wr .i64 (E.getD (i*2+1) 0)) (q:Int)=(((E.getD (i*2+1) 0).toNat % q:Nat):Int):=by
     rw [wr64 (by omega) (by omega)];exact tmodN e1.1 (by omega)
    have p0:=Nat.mod_lt (E.getD (i*2+0) 0).toNat hx0
    have p1:=Nat.mod_lt (E.getD (i*2+1) 0).toNat (show 0<q by omega)
    have hset:=far_set (w:=W) x ((E.getD (i*2+0) 0).toNat % x.length) (((E.getD (i*2+1) 0).toNat % q:Nat):Int) (fun _=>false) x.length
    rw [if_pos p0] at hset
    obtain ⟨W',a1,a2,a3,a4⟩:=L239_4_spec hq hx0 hx1 hE m0 m1 u2 u3 u14 u5 u6 u9 u10 f (i+1) (W.set ((E.getD (i*2+0) 0).toNat % x.length) (((E.getD (i*2+1) 0).toNat % q:Nat):Int)) (by omega) (by omega) (by simpa using h3) (fun j hj=>by
     rw [getD_set_int (by omega)]
     split
     ·omega
     ·exact h4 j (by simpa using hj)) (by omega) (by omega)
    refine ⟨W',a1,a2,a3,fun {τ} κ=>?_⟩
    have a4:=a4 κ
    generalize (E.getD (i*2+0) 0).toNat % x.length=pp at p0 t0 a4
    have e9:wr .i64 ((i:Int)+1)=((i+1:Nat):Int):=by rw [wr64 (by omega) (by omega)];rfl
    generalize (E.getD (i*2+1) 0).toNat % q=vv at p1 t1 a4
    rw [runE_succ]
    show L239_4.s0 _ _ _=_
    unfold L239_4.s0
    simp only [g_,Int.toNat_natCast,Nat.mul_one,Nat.zero_add,t0,t1,h_]
    rw [br_of (by simp;omega),br_of (by simpa using hm),ck_of (by simp;omega),ck_of (by simp;omega),ck_of (nzI (by omega)),ck_of (by simp;omega),ck_of (by simp;omega),ck_of (nzI (by omega)),ck_of (by simp [-List.getD_eq_getElem?_getD];omega),ck_of (by simp [-List.getD_eq_getElem?_getD];omega),e9]
    exact a4
   ·refine ⟨W,h3,h4,fin,fun {τ} κ=>?_⟩
    rw [runE_succ]
    show L239_4.s0 _ _ _=_
    unfold L239_4.s0
    simp only [g_,h_]
    rw [br_of (by simp;omega),br_no (by simpa using hm)]
  ·refine ⟨W,h3,h4,fin,fun {τ} κ=>?_⟩
   rw [runE_succ]
   show L239_4.s0 _ _ _=_
   unfold L239_4.s0
   simp only [g_,h_]
   rw [br_no (by simp;omega)]
def cntB (lb:List Bool):Nat→Nat
 | 0=>0
 | n+1=>cntB lb n+(if lb.getD n false=true then 1 else 0)
theorem cntB_set {lb:List Bool} (p:Nat):∀ n,cntB (lb.set p true) n≤cntB lb n+(if p<n then 1 else 0)
 | 0=>Nat.le_refl _
 | n+1=>by
  have ih:=cntB_set (lb:=lb) p n
  by_cases e:p=n
  ·subst e
   rw [if_neg (by omega)] at ih
   have h2:(if p<p+1 then 1 else 0)=(1:Nat):=if_pos (by omega)
   have ha:cntB (lb.set p true) (p+1)≤cntB (lb.set p true) p+1:=by rw [cntB];split <;> omega
   have hb:cntB lb p≤cntB lb (p+1):=by rw [cntB];omega
   rw [h2];omega
  ·have:(lb.set p true).getD n false=lb.getD n false:=by rw [List.getD_eq_getElem?_getD,List.getD_eq_getElem?_getD,List.getElem?_set_ne e]
   rw [cntB,cntB,this]
   have h2:(if p<n+1 then 1 else 0)=(if p<n then 1 else 0:Nat):=by
    by_cases h:p<n
    ·rw [if_pos h,if_pos (by omega)]
    ·rw [if_neg h,if_neg (by omega)]
   rw [h2]
   omega
theorem cntB_none (m:Nat):∀ n,cntB (List.replicate m false) n=0
 | 0=>rfl
 | n+1=>by
  rw [cntB,cntB_none m n]
  have:(List.replicate m false).getD n false=false:=by
   rw [List.getD_eq_getElem?_getD,List.getElem?_replicate];split <;> rfl
  rw [this];rfl
theorem L239_9_spec {x:List Int} (hx0:0<x.length) (hx1:x.length<2^20) {G:List Int} (hG:Bytes G) (m0 m1 u4 u5 u14 u15:Int) (u6:Nat) (u7:List Int) (u8:Nat) (u9:List Int) (u16:Nat) (W:List Int):∀ (f i:Nat) (lb:List Bool),i≤G.length→G.length-i<f→lb.length=x.length→cntB lb x.length≤i→((i:Int)≤m1∨i=0) →
  ∃ lb':List Bool,lb'.length=x.length∧((cntB lb' x.length:Nat):Int)≤max 0 m1∧∀ {τ:Type} (κ:Nat→LS_→Option τ),
   runE L239_9 f κ 0 [.N x.length,.L x,.N x.length,.I i,.I u4,.I u5,.N u6,.L u7,.N u8,.L u9,.N G.length,.L G,.I m0,.I m1,.I u14,.I u15,.N u16,.LB lb,.L W] =
    κ 0 [.N x.length,.L x,.N x.length,.I u14,.I u15,.N u16,.LB lb',.L W]
 | 0,i,lb,h1,h2,h3,h5,h6=>by omega
 | f+1,i,lb,h1,h2,h3,h5,h6=>by
  have hGl:=hG.1
  have fin:((cntB lb x.length:Nat):Int)≤max 0 m1:=by omega
  by_cases hi:i<G.length
  ·by_cases hm:(i:Int)<m1
   ·have e0:=hG.2 i
    have t0:Int.tmod (wr .i64 (G.getD i 0)) ((x.length:Nat):Int)=(((G.getD i 0).toNat % x.length:Nat):Int):=by
     rw [wr64 (by omega) (by omega)];exact tmodN e0.1 hx0
    have p0:=Nat.mod_lt (G.getD i 0).toNat hx0
    have hset:=cntB_set (lb:=lb) ((G.getD i 0).toNat % x.length) x.length
    rw [if_pos p0] at hset
    obtain ⟨lb',a1,a3,a4⟩:=L239_9_spec hx0 hx1 hG m0 m1 u4 u5 u14 u15 u6 u7 u8 u9 u16 W f (i+1) (lb.set ((G.getD i 0).toNat % x.length) true) (by omega) (by omega) (by simpa using h3) (by omega) (by omega)
    refine ⟨lb',a1,a3,fun {τ} κ=>?_⟩
    have a4:=a4 κ
    generalize (G.getD i 0).toNat % x.length=pp at p0 t0 a4
    have e9:wr .i64 ((i:Int)+1)=((i+1:Nat):Int):=by rw [wr64 (by omega) (by omega)];rfl
    rw [runE_succ]
    show L239_9.s0 _ _ _=_
    unfold L239_9.s0
    simp only [g_,Int.toNat_natCast,Nat.mul_one,Nat.zero_add,t0,h_]
    rw [br_of (by simp;omega),br_of (by simpa using hm),ck_of (by simp;omega),ck_of (by simp;omega),ck_of (nzI (by omega)),ck_of (by simp [-List.getD_eq_getElem?_getD];omega),ck_of (by simp [-List.getD_eq_getElem?_getD];omega),e9]
    exact a4
   ·refine ⟨lb,h3,fin,fun {τ} κ=>?_⟩
    rw [runE_succ]
    show L239_9.s0 _ _ _=_
    unfold L239_9.s0
    simp only [g_,h_]
    rw [br_of (by simp;omega),br_no (by simpa using hm)]
  ·refine ⟨lb,h3,fin,fun {τ} κ=>?_⟩
   rw [runE_succ]
   show L239_9.s0 _ _ _=_
   unfold L239_9.s0
   simp only [g_,h_]
   rw [br_no (by simp;omega)]
def gn (lb:List Bool) (i:Nat):List Int:=((List.range i).filter fun j=>lb.getD j false).map fun j=>((j:Nat):Int)
theorem gn_succ (lb:List Bool) (i:Nat):gn lb (i+1)=if lb.getD i false=true then gn lb i++[((i:Nat):Int)] else gn lb i:=by
 unfold gn
 rw [List.range_succ,List.filter_append]
 cases h:lb.getD i false <;> simp only [List.filter_cons,h,List.filter_nil] <;> simp
theorem gn_len (lb:List Bool):∀ i,(gn lb i).length=cntB lb i
 | 0=>rfl
 | i+1=>by
  rw [gn_succ,cntB,←gn_len lb i]
  split <;> simp
theorem cntB_le (lb:List Bool):∀ i,cntB lb i≤i
 | 0=>Nat.le_refl _
 | i+1=>by have:=cntB_le lb i;rw [cntB];split <;> omega
theorem gn_mem {lb:List Bool} {n j:Nat}:lostI (gn lb n) j=true↔j<n∧lb.getD j false=true:=by
 unfold lostI gn
 simp only [List.contains_eq_mem,decide_eq_true_eq,List.mem_map,List.mem_filter,List.mem_range]
 constructor
 ·rintro ⟨a,⟨h1,h2⟩,h3⟩
  have:a=j:=by omega
  subst this
  exact ⟨h1,h2⟩
 ·rintro ⟨h1,h2⟩;exact ⟨j,⟨h1,h2⟩,rfl⟩
theorem gn_good (lb:List Bool):∀ i,goneB i (gn lb i)=true∧∀ j,j<(gn lb i).length→(gn lb i).getD j 0<i
 | 0=>⟨rfl,fun j hj=>by simp [gn] at hj⟩
 | i+1=>by
  obtain ⟨h1,h2⟩:=gn_good lb i
  have st:=goneB_step h1
  have mk:∀ g:List Int,(∀ j,j<g.length→(if j=0 then -1 else g.getD (j-1) 0)<g.getD j 0∧g.getD j 0<((i+1:Nat):Int))→goneB (i+1) g=true∧∀ j,j<g.length→g.getD j 0<((i+1:Nat):Int):=fun g h=>by
   refine ⟨?_,fun j hj=>(h j hj).2⟩
   unfold goneB
   rw [Bool.not_eq_true',List.any_eq_false]
   intro j hj
   have:=h j (List.mem_range.1 hj)
   simp only [Bool.or_eq_true,decide_eq_true_eq]
   omega
  rw [gn_succ]
  split
  ·refine mk _ fun j hj=>?_
   rw [List.length_append,List.length_singleton] at hj
   rw [app_getD,app_getD]
   by_cases hl:j<(gn lb i).length
   ·have:=st j hl
    rw [if_pos hl,if_pos (show j-1<(gn lb i).length by omega)]
    omega
   ·have hjl:j=(gn lb i).length:=by omega
    rw [if_neg hl,hjl,Nat.sub_self]
    by_cases h0:(gn lb i).length=0
    ·rw [if_pos h0]
     exact ⟨by show (-1:Int)<(i:Nat);omega,by show ((i:Nat):Int)<_;omega⟩
    ·rw [if_neg h0,if_pos (by omega)]
     have:=h2 ((gn lb i).length-1) (by omega)
     exact ⟨by show _<((i:Nat):Int);omega,by show ((i:Nat):Int)<_;omega⟩
  ·refine mk _ fun j hj=>?_
   have:=st j hj
   omega
theorem L239_13_spec1 (hq:q∈Qs) {n:Nat} (hn:n<2^20) (x:List Int) (hx:x.length=n) (u5:Int) {lb:List Bool} (hlb:lb.length=n) {W0:List Int}:∀ (f i:Nat) (W:List Int),i≤n→n-i<f→W.length=n→InQ q W→(∀ j,j<n→lb.getD j false=false→W.getD j 0=W0.getD j 0) →
  ∃ W':List Int,W'.length=n∧InQ q W'∧(∀ j,j<n→lb.getD j false=false→W'.getD j 0=W0.getD j 0)∧∀ {τ:Type} (κ:Nat→LS_→Option τ),
   runE L239_13 f κ 1 [.N n,.L x,.N n,.I i,.I q,.I u5,.N n,.N (gn lb i).length,.LB lb,.L W,.L (gn lb i)]=κ 1 [.N n,.N (gn lb n).length,.L W',.L (gn lb n)]
 | 0,i,W,h1,h2,h3,h4,h5=>by omega
 | f+1,i,W,h1,h2,h3,h4,h5=>by
  have F:=fld q hq
  have q1:=F.one_lt
  have h16:=qs16 hq
  have gl:=gn_len lb i
  have gle:=cntB_le lb i
  by_cases hi:i<n
  ·cases hb:lb.getD i false with
   | true =>
    have wi:=h4 i (by omega)
    have t0:Int.tmod (wr .i64 (W.getD i 0+1)) (q:Int)=(((W.getD i 0+1).toNat % q:Nat):Int):=by
     rw [wr64 (by omega) (by omega)];exact tmodN (by omega) (by omega)
    have p0:=Nat.mod_lt (W.getD i 0+1).toNat (show 0<q by omega)
    obtain ⟨W',a1,a2,a3,a4⟩:=L239_13_spec1 hq hn x hx u5 hlb (W0:=W0) f (i+1) (W.set i (((W.getD i 0+1).toNat % q:Nat):Int)) (by omega) (by omega) (by simpa using h3) (fun j hj=>by
     rw [getD_set_int (by omega)]
     split
     ·omega
     ·exact h4 j (by simpa using hj)) (fun j hj hjf=>by
     rw [getD_set_int (by omega),if_neg (fun e=>by rw [←e,hb] at hjf;cases hjf)]
     exact h5 j hj hjf)
    rw [gn_succ,hb,if_pos rfl] at a4
    refine ⟨W',a1,a2,a3,fun {τ} κ=>?_⟩
    have a4:=a4 κ
    rw [List.length_append,List.length_singleton] at a4
    rw [runE_succ]
    show L239_13.s1 _ _ _=_
    unfold L239_13.s1
    simp only [g_,Int.toNat_natCast,Nat.mul_one,Nat.zero_add,t0,h_]
    rw [br_of (by simp;omega),ck_of (by simp;omega),ck_of (by simp;omega),br_of hb,ck_of (by simp;omega),ck_of (by simp;omega),ck_of (by simp;omega),ck_of (by simp;omega),ck_of (by simp;omega),ck_of (by simp;omega),wsucc (by omega)]
    exact a4
   | false =>
    obtain ⟨W',a1,a2,a3,a4⟩:=L239_13_spec1 hq hn x hx u5 hlb (W0:=W0) f (i+1) W (by omega) (by omega) h3 h4 h5
    rw [gn_succ,hb,if_neg (by decide)] at a4
    refine ⟨W',a1,a2,a3,fun {τ} κ=>?_⟩
    have a4:=a4 κ
    rw [runE_succ]
    show L239_13.s1 _ _ _=_
    unfold L239_13.s1
    simp only [g_,Int.toNat_natCast,Nat.mul_one,Nat.zero_add,h_]
    rw [br_of (by simp;omega),ck_of (by simp;omega),ck_of (by simp;omega),br_no hb,wsucc (by omega)]
    exact a4
  ·have:i=n:=by omega
   subst this
   refine ⟨W,h3,h4,h5,fun {τ} κ=>?_⟩
   rw [runE_succ]
   show L239_13.s1 _ _ _=_
   unfold L239_13.s1
   simp only [g_,h_]
   rw [br_no (by simp)]
theorem L239_13_spec0 (hq:q∈Qs) {n:Nat} (hn:n<2^20) (x:List Int) (hx:x.length=n) (u5:Int) {lb:List Bool} (hlb:lb.length=n) {W0:List Int} (hW:W0.length=n) (hWi:InQ q W0):∀ (f i:Nat),i≤n→n-i<f→gn lb i=[] →
  ∃ W':List Int,W'.length=n∧InQ q W'∧(∀ j,j<n→lb.getD j false=false→W'.getD j 0=W0.getD j 0)∧∀ {τ:Type} (κ:Nat→LS_→Option τ),
   runE L239_13 f κ 0 [.N n,.L x,.N n,.I i,.I q,.I u5,.N n,.LB lb,.L W0]=if gn lb n=[] then κ 0 [.N n,.L W'] else κ 1 [.N n,.N (gn lb n).length,.L W',.L (gn lb n)]
 | 0,i,h1,h2,h5=>by omega
 | f+1,i,h1,h2,h5=>by
  have F:=fld q hq
  have q1:=F.one_lt
  have h16:=qs16 hq
  by_cases hi:i<n
  ·cases hb:lb.getD i false with
   | true =>
    have wi:=hWi i (by omega)
    have t0:Int.tmod (wr .i64 (W0.getD i 0+1)) (q:Int)=(((W0.getD i 0+1).toNat % q:Nat):Int):=by
     rw [wr64 (by omega) (by omega)];exact tmodN (by omega) (by omega)
    have p0:=Nat.mod_lt (W0.getD i 0+1).toNat (show 0<q by omega)
    obtain ⟨W',a1,a2,a3,a4⟩:=L239_13_spec1 hq hn x hx u5 hlb (W0:=W0) f (i+1) (W0.set i (((W0.getD i 0+1).toNat % q:Nat):Int)) (by omega) (by omega) (by simpa using hW) (fun j hj=>by
     rw [getD_set_int (by omega)]
     split
     ·omega
     ·exact hWi j (by simpa using hj)) (fun j hj hjf=>by
     rw [getD_set_int (by omega),if_neg (fun e=>by rw [←e,hb] at hjf;cases hjf)])
    rw [gn_succ,hb,if_pos rfl,h5,List.nil_append,List.length_singleton] at a4
    have hne:gn lb n≠[]:=fun e=>by
     have:=(gn_mem (lb:=lb) (n:=n) (j:=i)).2 ⟨hi,hb⟩
     rw [e] at this
     cases this
    refine ⟨W',a1,a2,a3,fun {τ} κ=>?_⟩
    have a4:=a4 κ
    rw [if_neg hne,runE_succ]
    show L239_13.s0 _ _ _=_
    unfold L239_13.s0
    simp only [g_,Int.toNat_natCast,Nat.mul_one,Nat.zero_add,t0,h_]
    rw [br_of (by simp;omega),ck_of (by simp;omega),ck_of (by simp;omega),br_of hb,ck_of (by simp;omega),ck_of (by simp;omega),ck_of (by simp;omega),ck_of (by simp;omega),ck_of (by simp;omega),wsucc (by omega)]
    exact a4
   | false =>
    obtain ⟨W',a1,a2,a3,a4⟩:=L239_13_spec0 hq hn x hx u5 hlb hW hWi f (i+1) (by omega) (by omega) (by rw [gn_succ,hb,if_neg (by decide)];exact h5)
    refine ⟨W',a1,a2,a3,fun {τ} κ=>?_⟩
    have a4:=a4 κ
    rw [runE_succ]
    show L239_13.s0 _ _ _=_
    unfold L239_13.s0
    simp only [g_,Int.toNat_natCast,Nat.mul_one,Nat.zero_add,h_]
    rw [br_of (by simp;omega),ck_of (by simp;omega),ck_of (by simp;omega),br_no hb,wsucc (by omega)]
    exact a4
  ·have:i=n:=by omega
   subst this
   refine ⟨W0,hW,hWi,fun _ _ _=>rfl,fun {τ} κ=>?_⟩
   rw [if_pos h5,runE_succ]
   show L239_13.s0 _ _ _=_
   unfold L239_13.s0
   simp only [g_,h_]
   rw [br_no (by simp)]
end
theorem T239_spec {Q K:Int} (hQ:0≤Q∧Q<256) (hK:0≤K∧K<256) {M E G:List Int} (hE:Bytes2 E) (hG:Bytes G) {x:List Int} (hx:Wd (szq Q) (szq Q-1) x) (m0 m1:Int) :
  ∃ W g:List Int,Wd (szq Q) (szq Q-1) W∧goneB (szq Q-1) g=true∧(g.length:Int)≤max 0 m1∧((far (lostI g) W x 0 (szq Q-1):Nat):Int)≤max 0 m0∧∀ {τ:Type} (k:Nat→LS_→Option τ),T239 [.I Q,.I K,.L M,.L E,.L G,.L x,.I m0,.I m1] k=k 0 [.L W,.L g]:=by
 obtain ⟨hq,h3⟩:=szq_qs Q
 have h16:=qs16 hq
 have hk:=szk_le Q K
 have hfu:=fuel_le
 have hEl:=hE.1
 unfold maxLen at hEl
 have hGl:=hG.1
 have xl:=hx.1
 have xi:InQ (szq Q) x:=fun j hj=>hx.2 j (by omega)
 obtain ⟨W1,a1,a2,a3,a4⟩:=L239_4_spec hq (x:=x) (by omega) (by omega) hE m0 m1 Q K (szk Q K) M.length M G.length G fuel 0 x (Nat.zero_le _) (by omega) rfl xi (by rw [far_self];omega) (.inr rfl)
 obtain ⟨lb,b1,b3,b4⟩:=L239_9_spec (x:=x) (by omega) (by omega) hG m0 m1 Q K (szq Q) (szk Q K) M.length M (E.length / 2) E x.length W1 fuel 0 (List.replicate x.length false) (Nat.zero_le _) (by omega) (by simp) (by rw [cntB_none];omega) (.inr rfl)
 obtain ⟨W2,c1,c2,c3,c4⟩:=L239_13_spec0 hq (n:=x.length) (by omega) x rfl (szk Q K) b1 a1 a2 fuel 0 (by omega) (by omega) rfl
 have base:∀ {σ:Type} (κ:Nat→LS_→Option σ),F239 [.I Q,.I K,.L M,.L E,.L G,.L x,.I m0,.I m1] κ=if gn lb x.length=[] then κ 0 [.N x.length,.L W2] else κ 1 [.N x.length,.N (gn lb x.length).length,.L W2,.L (gn lb x.length)]:=fun {σ} κ=>by
  unfold F239
  simp only [g_,h_]
  rw [ck_of (by simp),T227_spec hQ hK]
  simp only [sw_zero,gI_zero,gI_succ,h_]
  rw [ck_of (by simp;omega)]
  unfold L239_4.b
  simp only [Nat.zero_add,List.nil_append]
  refine Eq.trans (a4 _) ?_
  simp only [g_,sw_zero,Int.toNat_natCast,h_]
  rw [ck_of (by simp;omega)]
  unfold L239_9.b
  refine Eq.trans (b4 _) ?_
  simp only [g_,sw_zero,h_]
  unfold L239_13.b
  refine Eq.trans (c4 _) ?_
  by_cases h:gn lb x.length=[]
  ·rw [if_pos h,if_pos h];rfl
  ·rw [if_neg h,if_neg h];rfl
 have gg:=(gn_good lb x.length).1
 have gl:=gn_len lb x.length
 have fr:far (lostI (gn lb x.length)) W2 x 0 x.length≤far (fun _=>false) W1 x 0 x.length:=by
  rw [far_same (w:=W1) x x.length fun j hj hlo=>c3 j hj (by
   cases hb:lb.getD j false with
   | false=>rfl
   | true=>rw [gn_mem.2 ⟨hj,hb⟩] at hlo;cases hlo)]
  exact far_less _ _ _
 rw [←xl]
 refine ⟨W2,gn lb x.length,⟨c1,fun j hj=>c2 j (by omega)⟩,gg,by rw [gl];exact b3,by omega,fun {τ} k=>?_⟩
 generalize gn lb x.length=g at base ⊢
 by_cases h:g=[]
 ·subst h
  simp only [if_true] at base
  have:=wrap_of (e:=F239.E) (p:=.v pNoisy) (ls:=[.I Q,.I K,.L M,.L E,.L G,.L x,.I m0,.I m1]) (j:=0) (l2:=[.N x.length,.L W2]) (c:=decide (x.length=(List.take (x.length*1) (List.drop 0 W2)).length)&&(true&&true)) (ls':=[.L (List.take (x.length*1) (List.drop 0 W2)),.L []]) (by intro τ κ;kernel_rfl) (by simp;omega) (k:=k) (fun κ=>base κ)
  rw [Nat.mul_one,List.drop_zero,←c1,List.take_length] at this
  exact this
 ·simp only [if_neg h] at base
  have:=wrap_of (e:=F239.E) (p:=.v pNoisy) (ls:=[.I Q,.I K,.L M,.L E,.L G,.L x,.I m0,.I m1]) (j:=1) (l2:=[.N x.length,.N g.length,.L W2,.L g]) (c:=decide (x.length=(List.take (x.length*1) (List.drop 0 W2)).length)&&(decide (g.length=(List.take (g.length*1) (List.drop 0 g)).length)&&true)) (ls':=[.L (List.take (x.length*1) (List.drop 0 W2)),.L (List.take (g.length*1) (List.drop 0 g))]) (by intro τ κ;kernel_rfl) (by simp;omega) (k:=k) (fun κ=>base κ)
  simp only [Nat.mul_one,List.drop_zero,List.take_length] at this
  rw [←c1,List.take_length] at this
  exact this
end
end Go.Proofs.Yticbdgmcofjkeaa.Ai
namespace Go.Proofs.Yticbdgmcofjkeaa.Ai
open Go Go.RowKit
noncomputable section
variable {τ:Type} (t:Nat) (nx ex:Nat→LS_→Option τ) (l:LS_) (k κ:Nat→LS_→Option τ)
def F226.ps:List PV2:=[]
def F226.sh:List PA:=[(PA.mk (PV3.v pB) [])]
def F226.O:Orc P:=⟨[T230.E,T232.E,T233.E,T255.E,T256.E,T228.E],[],[],40⟩
def F226 {τ:Type} (l:LS_) (k:Nat→LS_→Option τ):Option τ :=
 T230 [.I 5,.L [1,2]]
 (fun j A=>(sw (br ((gI A 1) != 0)
 (k 0 [.B false])
 (ck ((eqM (gL A 0).length (gL A 0).length)&&true)
 (T232 [vG A 0,.L [3,0,2,4]]
 (fun j B=>(sw (br (!(gB B 0))
 (k 0 [.B false])
 (T233 [.I 5,.I 2,.L [3,0,2,0],.L []]
 (fun j C=>(sw (ck (((eqM (gL C 2).length (gL C 2).length)&&((eqM (gLL C 3).length (gLL C 3).length)&&true))&&true)
 (T255 [iG C 0,iG C 1,vG C 2,wG C 3,iG C 4,.L [3,0,2,4],.I 1]
 (fun j D=>(sw (br (!(gB D 0))
 (k 0 [.B false])
 (T233 [.I 5,.I 2,.L [0,1,2,4],.L [0,1]]
 (fun j E=>(sw (ck (((eqM (gL E 2).length (gL E 2).length)&&((eqM (gLL E 3).length (gLL E 3).length)&&true))&&true)
 (T255 [iG E 0,iG E 1,vG E 2,wG E 3,iG E 4,.L [3,0,2,4],.I 0]
 (fun j F=>(sw (br (!(gB F 0))
 (k 0 [.B false])
 (T233 [.I 5,.I 2,.L [0,0,2,0],.L [0]]
 (fun j G=>(sw (ck (((eqM (gL G 2).length (gL G 2).length)&&((eqM (gLL G 3).length (gLL G 3).length)&&true))&&true)
 (T256 [iG G 0,iG G 1,vG G 2,wG G 3,iG G 4]
 (fun j H=>(sw (br (gB H 0)
 (T233 [.I 5,.I 2,.L [3,0,2],.L []]
 (fun j M=>(sw (br ((gI M 4)==1)
 (T233 [.I 6,.I 2,.L [3,0,2,4],.L []]
 (fun j N=>(sw (br ((gI N 4)==1)
 (T228 [.I 16,.I 4]
 (fun j Q=>(sw (br ((gI Q 3)==2)
 (T230 [.I 5,.L [5]]
 (fun j S=>(sw (k 0 [.B ((gI S 1)==1)])
 (fun _=>none)) j))
 (k 0 [.B false]))
 (fun _=>none)) j))
 (k 0 [.B false]))
 (fun _=>none)) j))
 (k 0 [.B false]))
 (fun _=>none)) j))
 (k 0 [.B false]))
 (fun _=>none)) j)))
 (fun _=>none)) j)))
 (fun _=>none)) j)))
 (fun _=>none)) j)))
 (fun _=>none)) j)))
 (fun _=>none)) j)))
 (fun _=>none)) j))))
 (fun _=>none)) j)
theorem F226.eq:FEq F226.O 37 F226.ps F226.sh F226:=by intro τ l κ;kernel_rfl
def F226.E:Ent P:=mkF F226.eq
end
end Go.Proofs.Yticbdgmcofjkeaa.Ai
namespace Go.Proofs.Yticbdgmcofjkeaa.Ai
open Go Go.RowKit
noncomputable section
def T226 {τ:Type} (l:LS_) (k:Nat→LS_→Option τ):Option τ:=F226 l k
def T226.E:Ent P:=F226.E
end
end Go.Proofs.Yticbdgmcofjkeaa.Ai
namespace Go.Proofs.Yticbdgmcofjkeaa.Ai
open Go Ma Go.RowKit
noncomputable section
def codeR (q k:Nat):List (List Int):=(List.range k).map fun i=>wordI q (fadd q) (fmul q) (List.replicate i 0++[1])
theorem codeR_len (q k:Nat):(codeR q k).length=k:=by simp [codeR]
theorem codeR_get {q k i:Nat} (h:i<k):(codeR q k).getD i []=wordI q (fadd q) (fmul q) (List.replicate i 0++[1]):=by
 simp [codeR,List.getD_eq_getElem?_getD,h]
theorem unit_in {q:Nat} (h:1<q) (i:Nat):InQ q (List.replicate i 0++[1]):=mem_in fun c hc=>by
 rcases List.mem_append.1 hc with h1 | h1
 ·have:=(List.mem_replicate.1 h1).2;omega
 ·have:=List.mem_singleton.1 h1;omega
section
variable {q:Nat}
theorem codeR_rows (hq:q∈Qs) {k:Nat} (hk:k≤q):Rows q (q-1) (codeR q k):=by
 have F:=fld q hq
 have h16:=qs16 hq
 refine ⟨fun i hi=>?_,by rw [codeR_len];omega,by omega⟩
 rw [codeR_len] at hi
 rw [codeR_get hi]
 exact wordI_wd F (unit_in F.one_lt i)
theorem codeR_all (hq:q∈Qs) {k:Nat} (hk:k≤q):allWord q ((q-1:Nat):Int) (codeR q k)=true:=by
 have R:=codeR_rows hq hk
 rw [allWord_iff]
 intro i _ hi
 have:=R.wd i hi
 exact isWord_iff.2 ⟨by rw [this.1],fun j _ hj=>this.2 j (by rw [←this.1];exact hj)⟩
theorem L257_6_spec1 (hq:q∈Qs) {k:Nat} (hk:k≤q) (u4 u5:Int) {τ:Type} (κ:Nat→LS_→Option τ):∀ (f j:Nat),j≤k→k-j<f →
  runE L257_6 f κ 1 [.I q,.N j,.I k,.I j,.I u4,.I u5,.I (fp q),.I (fe q),.N (fm q).length,.L (fm q),.I q,.LL (codeR q j)]=κ 1 [.I q,.N k,.I u4,.I u5,.LL (codeR q k)]
 | 0,j,h1,h2=>by omega
 | f+1,j,h1,h2=>by
  have F:=fld q hq
  have h16:=qs16 hq
  have q1:=F.one_lt
  have cl:=codeR_len q j
  rw [runE_succ]
  show L257_6.s1 _ _ _=_
  unfold L257_6.s1
  simp only [g_,Int.toNat_natCast,Nat.mul_one,List.drop_zero,h_]
  by_cases hj:j<k
  ·have ui:=unit_in q1 j
   have key:=L257_6_spec1 hq hk u4 u5 κ f (j+1) (by omega) (by omega)
   have e1:codeR q (j+1)=codeR q j++[wordI q (fadd q) (fmul q) (List.replicate j 0++[1])]:=by unfold codeR;rw [List.range_succ,List.map_append];rfl
   rw [e1] at key
   have t1:List.take (j+1) (List.replicate j (0:Int)++[1])=List.replicate j 0++[1]:=List.take_of_length_le (by simp)
   rw [br_of (by simp;omega),ck_of (by simp;omega),ck_of (by simp;omega),t1,ck_of (by simp),T277_spec hq ui (by simp;omega)]
   simp only [sw_zero,gL_zero,h_]
   rw [ck_of (by simp),ck_of (by simp;omega),wsucc (by omega)]
   exact key
  ·have:j=k:=by omega
   subst this
   rw [br_no (by simp)]
theorem F257_spec (hq:q∈Qs) (h3:3≤q) {k:Nat} (k1:1≤k) (k2:k≤q-1) {a b e:Int} {G:List (List Int)} (h:∀ {σ:Type} (κ:Nat→LS_→Option σ),T46 [.I q,.I ((q-1:Nat):Int),.LL (codeR q k)] κ=κ 0 [.I a,.I b,.LL G,.I e]) {τ:Type} (κ:Nat→LS_→Option τ) :
  F257 [.I q,.I k] κ=κ 1 [.I a,.I b,.N G.length,.LL G,.I e]:=by
 obtain ⟨f,hf,hf2⟩:=fuel_pred
 have F:=fld q hq
 have h16:=qs16 hq
 have q1:=F.one_lt
 have e1:wr .i64 ((q:Int)-1)=((q-1:Nat):Int):=by rw [wr64 (by omega) (by omega)];omega
 unfold F257
 simp only [gI_zero,gI_succ,h_]
 rw [T276_ok hq h3]
 simp only [g_,sw_zero,e1,h_]
 rw [br_no (b:=!true) rfl,br_no (by simp;omega),br_no (by simp;omega)]
 unfold L257_6.b
 rw [hf,runE_succ,show ∀ (a b:Nat→LS_→Option τ) (l:LS_),L257_6.step a b 0 l=L257_6.s0 a b l from fun _ _ _=>rfl]
 unfold L257_6.s0
 simp only [g_,Int.toNat_zero,Nat.mul_one,Nat.zero_add,List.drop_zero,h_]
 have t1:List.take 1 (List.replicate 0 (0:Int)++[1])=List.replicate 0 0++[1]:=rfl
 have key:=L257_6_spec1 hq (k:=k) (by omega) 0 0 (τ:=τ)
 rw [br_of (by simp;omega),ck_of (by simp),ck_of (by simp),t1,ck_of (by simp),T277_spec hq (unit_in q1 0) (by simp)]
 simp only [sw_zero,gL_zero,h_]
 rw [ck_of (by simp)]
 refine Eq.trans (key _ f 1 k1 (by omega)) ?_
 simp only [g_,sw_one,sw_zero,Nat.mul_one,List.drop_zero,e1,h_]
 have t2:List.take k (codeR q k)=codeR q k:=List.take_of_length_le (by rw [codeR_len];omega)
 rw [t2,ck_of (by simp [codeR_len]),h]
 simp only [g_,sw_zero,h_]
theorem T228_of {x y a b e:Int} {G:List (List Int)} (h:∀ {σ:Type} (κ:Nat→LS_→Option σ),T257 [.I x,.I y] κ=κ 0 [.I a,.I b,.LL G,.I e]) {τ:Type} (k:Nat→LS_→Option τ):T228 [.I x,.I y] k=k 0 [.I a,.I b,.LL G,.I e]:=by
 have key:∀ {σ:Type} (κ:Nat→LS_→Option σ),F228 [.I x,.I y] κ=κ 0 [.I a,.I b,.N G.length,.LL G,.I e]:=fun {σ} κ=>by
  unfold F228
  simp only [gI_zero,gI_succ,h_]
  rw [h]
  simp only [g_,sw_zero,h_]
 exact wrap_of (e:=F228.E) (p:=.v qCoded) (j:=0) (l2:=[.I a,.I b,.N G.length,.LL G,.I e]) (c:=(true&&(true&&(decide (G.length=G.length)&&(true&&true))))) (ls':=[.I a,.I b,.LL G,.I e]) (by intro τ κ;kernel_rfl) (by simp) (fun κ=>key κ)
theorem T230_of {x e:Int} {m W:List Int} (h:∀ {σ:Type} (κ:Nat→LS_→Option σ),T258 [.I x,.L m] κ=κ 0 [.L W,.I e]) {τ:Type} (k:Nat→LS_→Option τ):T230 [.I x,.L m] k=k 0 [.L W,.I e]:=by
 have key:∀ {σ:Type} (κ:Nat→LS_→Option σ),F230 [.I x,.L m] κ=κ 0 [.N W.length,.L W,.I e]:=fun {σ} κ=>by
  unfold F230
  simp only [g_,h_]
  rw [ck_of (by simp),h]
  simp only [g_,sw_zero,h_]
 exact wrap_of (e:=F230.E) (p:=.v qWorded) (j:=0) (l2:=[.N W.length,.L W,.I e]) (c:=(decide (W.length=W.length)&&(true&&true))) (ls':=[.L W,.I e]) (by intro τ κ;kernel_rfl) (by simp) (fun κ=>key κ)
theorem T233_of {x y a b e:Int} {w g C:List Int} {L:List (List Int)} (h:∀ {σ:Type} (κ:Nat→LS_→Option σ),T260 [.I x,.I y,.L w,.L g] κ=κ 0 [.I a,.I b,.L C,.LL L,.I e]) {τ:Type} (k:Nat→LS_→Option τ):T233 [.I x,.I y,.L w,.L g] k=k 0 [.I a,.I b,.L C,.LL L,.I e]:=by
 have key:∀ {σ:Type} (κ:Nat→LS_→Option σ),F233 [.I x,.I y,.L w,.L g] κ=κ 0 [.I a,.I b,.N C.length,.L C,.N L.length,.LL L,.I e]:=fun {σ} κ=>by
  unfold F233
  simp only [g_,h_]
  rw [ck_of (by simp),h]
  simp only [g_,sw_zero,h_]
 exact wrap_of (e:=F233.E) (p:=.v qAns) (j:=0) (l2:=[.I a,.I b,.N C.length,.L C,.N L.length,.LL L,.I e]) (c:=(true&&(true&&(decide (C.length=C.length)&&(decide (L.length=L.length)&&(true&&true)))))) (ls':=[.I a,.I b,.L C,.LL L,.I e]) (by intro τ κ;kernel_rfl) (by simp) (fun κ=>key κ)
theorem T257_of (hq:q∈Qs) (h3:3≤q) {k:Nat} (k1:1≤k) (k2:k≤q-1) {a b e:Int} {G:List (List Int)} (h:∀ {σ:Type} (κ:Nat→LS_→Option σ),T46 [.I q,.I ((q-1:Nat):Int),.LL (codeR q k)] κ=κ 0 [.I a,.I b,.LL G,.I e]) {τ:Type} (κ:Nat→LS_→Option τ) :
  T257 [.I q,.I k] κ=κ 0 [.I a,.I b,.LL G,.I e] :=
 wrap_of (e:=F257.E) (p:=.tup [pCode,pI]) (j:=1) (l2:=[.I a,.I b,.N G.length,.LL G,.I e]) (c:=(true&&(true&&(decide (G.length=G.length)&&true)))&&(true&&true)) (ls':=[.I a,.I b,.LL G,.I e]) (by intro τ κ;kernel_rfl) (by simp) (fun κ=>F257_spec hq h3 k1 k2 h κ)
theorem T228_ok (hq:q∈Qs) (h3:3≤q) {k:Nat} (k1:1≤k) (k2:k≤q-1) {τ:Type} (κ:Nat→LS_→Option τ):T228 [.I q,.I k] κ=if 4096<q^(redR q (q-1) (codeR q k)).length then κ 0 [.I 0,.I 0,.LL [],.I 2] else κ 0 [.I q,.I ((q-1:Nat):Int),.LL (redR q (q-1) (codeR q k)),.I 0]:=by
 have h16:=qs16 hq
 have h:=fun {σ:Type} (κ:Nat→LS_→Option σ)=>T46_all hq (n:=q-1) (G:=codeR q k) (by omega) (by omega) (by rw [codeR_len];omega) (codeR_all hq (by omega)) κ
 by_cases c:4096<q^(redR q (q-1) (codeR q k)).length
 ·simp only [if_pos c] at h ⊢
  exact T228_of (fun κ=>T257_of hq h3 k1 k2 (fun κ=>h κ) κ) κ
 ·simp only [if_neg c] at h ⊢
  exact T228_of (fun κ=>T257_of hq h3 k1 k2 (fun κ=>h κ) κ) κ
theorem T233_ok (hq:q∈Qs) (h3:3≤q) {k:Nat} (k1:1≤k) (k2:k≤q-1) {w g:List Int} (h:rightB q w g=true) {τ:Type} (κ:Nat→LS_→Option τ):T233 [.I q,.I k,.L w,.L g] κ=κ 0 (decA q k w g):=by
 have h0:=fun {σ:Type} (κ:Nat→LS_→Option σ)=>T260_ok hq h3 k1 k2 h κ
 unfold decA at h0 ⊢
 cases hd:dec q (fadd q) (fmul q) k (lostI g) w with
 | none =>
  rw [hd] at h0
  exact T233_of (fun κ=>h0 κ) κ
 | some m =>
  rw [hd] at h0
  exact T233_of (fun κ=>h0 κ) κ
end
theorem rank164:(redR 16 15 (codeR 16 4)).length=4:=by decide +kernel
theorem near1:Cl 5 (fadd 5) (fmul 5) 2 (lostI []) [3,0,2,0] [1,2]:=⟨rfl,inB_iff.1 (by decide +kernel),by decide +kernel⟩
theorem near2:Cl 5 (fadd 5) (fmul 5) 2 (lostI [0,1]) [0,1,2,4] [1,2]:=⟨rfl,inB_iff.1 (by decide +kernel),by decide +kernel⟩
theorem near3:(List.range 5).all (fun a=>(List.range 5).all fun b=>decide (¬ (2*far (lostI [0]) [0,0,2,0] (wordI 5 (fadd 5) (fmul 5) [(a:Int),(b:Int)]) 0 4+nlost (lostI [0]) 4+2≤4)))=true:=by decide +kernel
theorem near3_no (m:List Int):¬ Cl 5 (fadd 5) (fmul 5) 2 (lostI [0]) [0,0,2,0] m:=fun ⟨h1,h2,h3⟩=>by
 match m,h1 with
 | [a,b],_ =>
  have ha:=h2 0 (by simp)
  have hb:=h2 1 (by simp)
  simp at ha hb
  obtain ⟨a',rfl⟩:=Int.eq_ofNat_of_zero_le ha.1
  obtain ⟨b',rfl⟩:=Int.eq_ofNat_of_zero_le hb.1
  have e:=List.all_eq_true.1 near3 a' (List.mem_range.2 (by omega))
  have e:=List.all_eq_true.1 e b' (List.mem_range.2 (by omega))
  exact of_decide_eq_true e h3
theorem T226_spec {τ:Type} (k:Nat→LS_→Option τ):T226 [] k=k 0 [.B true]:=by
 have q5:5∈Qs:=by decide
 have fld5:=fld 5 q5
 have w12:wordI 5 (fadd 5) (fmul 5) [1,2]=[3,0,2,4]:=by decide +kernel
 have e1:=fun {σ:Type} (κ:Nat→LS_→Option σ)=>T230_of (fun κ=>T258_ok (q:=5) q5 (by omega) (m:=[1,2]) (by simp) (by simp) (inB_iff.1 (by decide +kernel)) κ) κ
 have e2:=fun {σ:Type} (κ:Nat→LS_→Option σ)=>T233_ok (q:=5) q5 (by omega) (k:=2) (by omega) (by omega) (w:=[3,0,2,0]) (g:=[]) (by decide +kernel) κ
 have e3:=fun {σ:Type} (κ:Nat→LS_→Option σ)=>T233_ok (q:=5) q5 (by omega) (k:=2) (by omega) (by omega) (w:=[0,1,2,4]) (g:=[0,1]) (by decide +kernel) κ
 have e4:=fun {σ:Type} (κ:Nat→LS_→Option σ)=>T233_ok (q:=5) q5 (by omega) (k:=2) (by omega) (by omega) (w:=[0,0,2,0]) (g:=[0]) (by decide +kernel) κ
 have e5:=fun {σ:Type} (κ:Nat→LS_→Option σ)=>T233_of (fun κ=>T260_bad (x:=5) (y:=2) (w:=[3,0,2]) (g:=[]) (by simp) (by simp) (by decide +kernel) κ) κ
 have e6:=fun {σ:Type} (κ:Nat→LS_→Option σ)=>T233_of (fun κ=>T260_bad (x:=6) (y:=2) (w:=[3,0,2,4]) (g:=[]) (by simp) (by simp) (by decide +kernel) κ) κ
 have e7:=fun {σ:Type} (κ:Nat→LS_→Option σ)=>T228_ok (q:=16) (by decide) (by omega) (k:=4) (by omega) (by omega) κ
 have e8:=fun {σ:Type} (κ:Nat→LS_→Option σ)=>T230_of (fun κ=>T258_bad (x:=5) (m:=[5]) (by simp) (by decide +kernel) κ) κ
 have f1:far (lostI []) [3,0,2,0] [3,0,2,4] 0 (5-1)=1:=by decide +kernel
 have f2:far (lostI [0,1]) [0,1,2,4] [3,0,2,4] 0 (5-1)=0:=by decide +kernel
 unfold decA at e2 e3 e4
 rw [dec_some fld5 near1] at e2
 rw [dec_some fld5 near2] at e3
 rw [dec_none near3_no] at e4
 rw [rank164] at e7
 simp only [w12,f1] at e2
 simp only [w12,f2] at e3
 simp only [w12] at e1
 unfold T226 F226
 refine Eq.trans (e1 _) ?_
 simp only [g_,sw_zero,h_]
 rw [br_no (by simp),ck_of (by simp),T232_spec _ _ (by simp)]
 simp only [sw_zero,gB_zero,h_]
 rw [br_no (by simp)]
 refine Eq.trans (e2 _) ?_
 simp only [g_,sw_zero,h_]
 rw [ck_of (by simp),T255_spec (by simp) (by simp) (by simp)]
 simp only [sw_zero,gB_zero,h_]
 rw [br_no (by simp)]
 refine Eq.trans (e3 _) ?_
 simp only [g_,sw_zero,h_]
 rw [ck_of (by simp),T255_spec (by simp) (by simp) (by simp)]
 simp only [sw_zero,gB_zero,h_]
 rw [br_no (by simp)]
 refine Eq.trans (e4 _) ?_
 simp only [g_,sw_zero,h_]
 rw [ck_of (by simp),T256_spec (by simp) (by simp) (by simp)]
 simp only [sw_zero,gB_zero,h_]
 rw [br_of (by simp)]
 refine Eq.trans (e5 _) ?_
 simp only [sw_zero,gI_zero,gI_succ,h_]
 rw [br_of (by simp)]
 refine Eq.trans (e6 _) ?_
 simp only [sw_zero,gI_zero,gI_succ,h_]
 rw [br_of (by simp)]
 refine Eq.trans (e7 _) ?_
 rw [if_pos (by decide)]
 simp only [sw_zero,gI_zero,gI_succ,h_]
 rw [br_of (by simp)]
 refine Eq.trans (e8 _) ?_
 simp only [sw_zero,gI_zero,gI_succ,h_]
 rfl
end
end Go.Proofs.Yticbdgmcofjkeaa.Ai
namespace Go.Proofs.Yticbdgmcofjkeaa.Ai
open Go Go.RowKit
noncomputable section
variable {τ:Type} (t:Nat) (nx ex:Nat→LS_→Option τ) (l:LS_) (k κ:Nat→LS_→Option τ)
def F309.ps:List PV2:=[qRaw33,(pK IntKind.u8)]
def F309.sh:List PA:=[(PA.mk (PV3.v pB) [])]
def F309.O:Orc P:=⟨[T226.E,T227.E,T241.E,T230.E,T239.E,T233.E,T263.E,T255.E],[],[],40⟩
def F309:Option τ :=
 T226 []
 (fun j A=>(sw (br (!(gB A 0))
 (k 0 [.B false])
 (ck (((eqM (gL l 2).length (gL l 2).length)&&((decide ((@HDiv.hDiv Nat Nat Nat (@instHDiv Nat Nat.instDiv) (gL l 3).length 2)=(@HDiv.hDiv Nat Nat Nat (@instHDiv Nat Nat.instDiv) (gL l 3).length 2)))&&((eqM (gL l 4).length (gL l 4).length)&&true)))&&true)
 (T227 [iG l 0,iG l 1,vG l 2,vG l 3,vG l 4]
 (fun j B=>(sw (ck (!((wr .i64 ((wr .i64 ((wr .i64 ((gI B 0)-1))-(gI B 1)))+1))==0))
 (ck (((eqM (gL l 2).length (gL l 2).length)&&((decide ((@HDiv.hDiv Nat Nat Nat (@instHDiv Nat Nat.instDiv) (gL l 3).length 2)=(@HDiv.hDiv Nat Nat Nat (@instHDiv Nat Nat.instDiv) (gL l 3).length 2)))&&((eqM (gL l 4).length (gL l 4).length)&&true)))&&true)
 (T241 [iG l 0,iG l 1,vG l 2,vG l 3,vG l 4]
 (fun j C=>(sw (ck ((eqM (gL C 0).length (gL C 0).length)&&true)
 (T230 [iG B 0,vG C 0]
 (fun j D=>(sw (br ((gI D 1) != 0)
 (k 0 [.B false])
 (br ((((gL D 0).length:Nat):Int) != (wr .i64 ((gI B 0)-1)))
 (k 0 [.B false])
 (ck (((eqM (gL l 2).length (gL l 2).length)&&((decide ((@HDiv.hDiv Nat Nat Nat (@instHDiv Nat Nat.instDiv) (gL l 3).length 2)=(@HDiv.hDiv Nat Nat Nat (@instHDiv Nat Nat.instDiv) (gL l 3).length 2)))&&((eqM (gL l 4).length (gL l 4).length)&&true)))&&((eqM (gL D 0).length (gL D 0).length)&&true))
 (T239 [iG l 0,iG l 1,vG l 2,vG l 3,vG l 4,vG D 0,.I (wr .i64 (Int.tdiv (wr .i64 ((wr .i64 ((wr .i64 ((gI B 0)-1))-(gI B 1)))-(Int.tmod (wr .i64 (gI l 5)) (wr .i64 ((wr .i64 ((wr .i64 ((gI B 0)-1))-(gI B 1)))+1))))) 2)),.I (Int.tmod (wr .i64 (gI l 5)) (wr .i64 ((wr .i64 ((wr .i64 ((gI B 0)-1))-(gI B 1)))+1)))]
 (fun j E=>(sw (ck (((eqM (gL E 0).length (gL E 0).length)&&((eqM (gL E 1).length (gL E 1).length)&&true))&&true)
 (T233 [iG B 0,iG B 1,vG E 0,vG E 1]
 (fun j F=>(sw (ck (((eqM (gL E 0).length (gL E 0).length)&&((eqM (gL E 1).length (gL E 1).length)&&true))&&((eqM (gL D 0).length (gL D 0).length)&&true))
 (T263 [vG E 0,vG E 1,vG D 0]
 (fun j G=>(sw (ck (((eqM (gL F 2).length (gL F 2).length)&&((eqM (gLL F 3).length (gLL F 3).length)&&true))&&((eqM (gL D 0).length (gL D 0).length)&&true))
 (T255 [iG F 0,iG F 1,vG F 2,wG F 3,iG F 4,vG D 0,iG G 0]
 (fun j H=>(sw (br (gB H 0)
 (k 0 [bG A 0])
 (k 0 [.B false]))
 (fun _=>none)) j)))
 (fun _=>none)) j)))
 (fun _=>none)) j)))
 (fun _=>none)) j)))))
 (fun _=>none)) j)))
 (fun _=>none)) j))))
 (fun _=>none)) j))))
 (fun _=>none)) j)
theorem F309.eq:FEq F309.O 4 F309.ps F309.sh F309:=by intro τ l κ;kernel_rfl
def F309.E:Ent P:=mkF F309.eq
def F310.ps:List PV2:=[qRaw33]
def F310.sh:List PA:=[(PA.mk (PV3.v pB) [])]
def F310.O:Orc P:=⟨[T226.E,T227.E,T241.E,T240.E,T239.E,T233.E,T255.E,T256.E],[],[],40⟩
def F310:Option τ :=
 T226 []
 (fun j A=>(sw (br (!(gB A 0))
 (k 0 [.B false])
 (ck (((eqM (gL l 2).length (gL l 2).length)&&((decide ((@HDiv.hDiv Nat Nat Nat (@instHDiv Nat Nat.instDiv) (gL l 3).length 2)=(@HDiv.hDiv Nat Nat Nat (@instHDiv Nat Nat.instDiv) (gL l 3).length 2)))&&((eqM (gL l 4).length (gL l 4).length)&&true)))&&true)
 (T227 [iG l 0,iG l 1,vG l 2,vG l 3,vG l 4]
 (fun j B=>(sw (ck (((eqM (gL l 2).length (gL l 2).length)&&((decide ((@HDiv.hDiv Nat Nat Nat (@instHDiv Nat Nat.instDiv) (gL l 3).length 2)=(@HDiv.hDiv Nat Nat Nat (@instHDiv Nat Nat.instDiv) (gL l 3).length 2)))&&((eqM (gL l 4).length (gL l 4).length)&&true)))&&true)
 (T241 [iG l 0,iG l 1,vG l 2,vG l 3,vG l 4]
 (fun j C=>(sw (ck ((eqM (gL C 0).length (gL C 0).length)&&true)
 (T240 [iG B 0,vG C 0]
 (fun j D=>(sw (ck (((eqM (gL l 2).length (gL l 2).length)&&((decide ((@HDiv.hDiv Nat Nat Nat (@instHDiv Nat Nat.instDiv) (gL l 3).length 2)=(@HDiv.hDiv Nat Nat Nat (@instHDiv Nat Nat.instDiv) (gL l 3).length 2)))&&((eqM (gL l 4).length (gL l 4).length)&&true)))&&((eqM (gL D 0).length (gL D 0).length)&&true))
 (T239 [iG l 0,iG l 1,vG l 2,vG l 3,vG l 4,vG D 0,.I 0,.I 15]
 (fun j E=>(sw (ck (((eqM (gL E 0).length (gL E 0).length)&&((eqM (gL E 1).length (gL E 1).length)&&true))&&true)
 (T233 [iG B 0,iG B 1,vG E 0,vG E 1]
 (fun j F=>(sw (br (leI (((gL E 1).length:Nat):Int) (wr .i64 ((wr .i64 ((gI B 0)-1))-(gI B 1))))
 (ck (((eqM (gL F 2).length (gL F 2).length)&&((eqM (gLL F 3).length (gLL F 3).length)&&true))&&((eqM (gL D 0).length (gL D 0).length)&&true))
 (T255 [iG F 0,iG F 1,vG F 2,wG F 3,iG F 4,vG D 0,.I 0]
 (fun j G=>(sw (br (gB G 0)
 (k 0 [bG A 0])
 (k 0 [.B false]))
 (fun _=>none)) j)))
 (ck (((eqM (gL F 2).length (gL F 2).length)&&((eqM (gLL F 3).length (gLL F 3).length)&&true))&&true)
 (T256 [iG F 0,iG F 1,vG F 2,wG F 3,iG F 4]
 (fun j G=>(sw (br (gB G 0)
 (k 0 [bG A 0])
 (k 0 [.B false]))
 (fun _=>none)) j))))
 (fun _=>none)) j)))
 (fun _=>none)) j)))
 (fun _=>none)) j)))
 (fun _=>none)) j)))
 (fun _=>none)) j))))
 (fun _=>none)) j)
theorem F310.eq:FEq F310.O 5 F310.ps F310.sh F310:=by intro τ l κ;kernel_rfl
def F310.E:Ent P:=mkF F310.eq
def F311.ps:List PV2:=[qRaw33,qB8]
def F311.sh:List PA:=[(PA.mk (PV3.v pB) [])]
def F311.O:Orc P:=⟨[T226.E,T227.E,T241.E,T240.E,T239.E,T264.E,T30.E,T233.E,T256.E,T255.E],[],[],40⟩
def F311:Option τ :=
 T226 []
 (fun j A=>(sw (br (!(gB A 0))
 (k 0 [.B false])
 (ck (((eqM (gL l 2).length (gL l 2).length)&&((decide ((@HDiv.hDiv Nat Nat Nat (@instHDiv Nat Nat.instDiv) (gL l 3).length 2)=(@HDiv.hDiv Nat Nat Nat (@instHDiv Nat Nat.instDiv) (gL l 3).length 2)))&&((eqM (gL l 4).length (gL l 4).length)&&true)))&&true)
 (T227 [iG l 0,iG l 1,vG l 2,vG l 3,vG l 4]
 (fun j B=>(sw (ck (((eqM (gL l 2).length (gL l 2).length)&&((decide ((@HDiv.hDiv Nat Nat Nat (@instHDiv Nat Nat.instDiv) (gL l 3).length 2)=(@HDiv.hDiv Nat Nat Nat (@instHDiv Nat Nat.instDiv) (gL l 3).length 2)))&&((eqM (gL l 4).length (gL l 4).length)&&true)))&&true)
 (T241 [iG l 0,iG l 1,vG l 2,vG l 3,vG l 4]
 (fun j C=>(sw (ck ((eqM (gL C 0).length (gL C 0).length)&&true)
 (T240 [iG B 0,vG C 0]
 (fun j D=>(sw (ck (((eqM (gL l 2).length (gL l 2).length)&&((decide ((@HDiv.hDiv Nat Nat Nat (@instHDiv Nat Nat.instDiv) (gL l 3).length 2)=(@HDiv.hDiv Nat Nat Nat (@instHDiv Nat Nat.instDiv) (gL l 3).length 2)))&&((eqM (gL l 4).length (gL l 4).length)&&true)))&&((eqM (gL D 0).length (gL D 0).length)&&true))
 (T239 [iG l 0,iG l 1,vG l 2,vG l 3,vG l 4,vG D 0,.I 15,.I 4]
 (fun j E=>(sw (ck (((eqM (gL l 5).length (gL l 5).length)&&((decide ((@HDiv.hDiv Nat Nat Nat (@instHDiv Nat Nat.instDiv) (gL l 3).length 2)=(@HDiv.hDiv Nat Nat Nat (@instHDiv Nat Nat.instDiv) (gL l 3).length 2)))&&((eqM (gL l 4).length (gL l 4).length)&&true)))&&true)
 (T241 [iG l 0,iG l 1,vG l 5,vG l 3,vG l 4]
 (fun j F=>(sw (ck ((eqM (gL F 0).length (gL F 0).length)&&true)
 (T240 [iG B 0,vG F 0]
 (fun j G=>(sw (T264 [iG B 0]
 (fun j H=>(sw (ck (((eqM (gL H 2).length (gL H 2).length)&&true)&&((eqM (gL E 0).length (gL E 0).length)&&((eqM (gL G 0).length (gL G 0).length)&&true)))
 (T30 [iG H 0,iG H 1,vG H 2,vG E 0,vG G 0]
 (fun j M=>(sw (ck (((eqM (gL E 0).length (gL E 0).length)&&((eqM (gL E 1).length (gL E 1).length)&&true))&&true)
 (T233 [iG B 0,iG B 1,vG E 0,vG E 1]
 (fun j N=>(sw (ck (((eqM (gL M 0).length (gL M 0).length)&&((eqM (gL E 1).length (gL E 1).length)&&true))&&true)
 (T233 [iG B 0,iG B 1,vG M 0,vG E 1]
 (fun j Q=>(sw (ck (((eqM (gL N 2).length (gL N 2).length)&&((eqM (gLL N 3).length (gLL N 3).length)&&true))&&true)
 (T256 [iG N 0,iG N 1,vG N 2,wG N 3,iG N 4]
 (fun j S=>(sw (br (gB S 0)
 (ck (((eqM (gL Q 2).length (gL Q 2).length)&&((eqM (gLL Q 3).length (gLL Q 3).length)&&true))&&true)
 (T256 [iG Q 0,iG Q 1,vG Q 2,wG Q 3,iG Q 4]
 (fun j T=>(sw (br (gB T 0)
 (k 0 [bG A 0])
 (k 0 [.B false]))
 (fun _=>none)) j)))
 (br ((((gL N 2).length:Nat):Int)==(((gL G 0).length:Nat):Int))
 (ck (((eqM (gL H 2).length (gL H 2).length)&&true)&&((eqM (gL N 2).length (gL N 2).length)&&((eqM (gL G 0).length (gL G 0).length)&&true)))
 (T30 [iG H 0,iG H 1,vG H 2,vG N 2,vG G 0]
 (fun j T=>(sw (ck (((eqM (gL Q 2).length (gL Q 2).length)&&((eqM (gLL Q 3).length (gLL Q 3).length)&&true))&&((eqM (gL T 0).length (gL T 0).length)&&true))
 (T255 [iG Q 0,iG Q 1,vG Q 2,wG Q 3,iG Q 4,vG T 0,iG N 1]
 (fun j U=>(sw (br (gB U 0)
 (k 0 [bG A 0])
 (k 0 [.B false]))
 (fun _=>none)) j)))
 (fun _=>none)) j)))
 (k 0 [.B false])))
 (fun _=>none)) j)))
 (fun _=>none)) j)))
 (fun _=>none)) j)))
 (fun _=>none)) j)))
 (fun _=>none)) j))
 (fun _=>none)) j)))
 (fun _=>none)) j)))
 (fun _=>none)) j)))
 (fun _=>none)) j)))
 (fun _=>none)) j)))
 (fun _=>none)) j))))
 (fun _=>none)) j)
theorem F311.eq:FEq F311.O 6 F311.ps F311.sh F311:=by intro τ l κ;kernel_rfl
def F311.E:Ent P:=mkF F311.eq
end
end Go.Proofs.Yticbdgmcofjkeaa.Ai
namespace Go.Proofs.Yticbdgmcofjkeaa.Ai
open Go Ma Go.RowKit
noncomputable section
theorem ok_pairs {x:Leaf} (h:okLeaf (.ar2 .u8) x):∃ l,x=.L l∧Bytes2 l:=by
 obtain ⟨l,e,h1,_,h2⟩:=ok_ar2 h
 refine ⟨l,e,h1,fun j=>?_⟩
 by_cases hj:j<l.length
 ·rw [List.getD_eq_getElem?_getD,List.getElem?_eq_getElem hj]
  exact wf_u8 (h2 _ (List.getElem_mem hj))
 ·rw [List.getD_eq_getElem?_getD,List.getElem?_eq_none (by omega)]
  decide
theorem raw33 {ps:List PV1} {ls:LS_} (h:okLs (.int .u8::.int .u8::.arr (.i .u8)::.ar2 .u8::.arr (.i .u8)::ps) ls) :
  ∃ Q K M E G ls',ls=.I Q::.I K::.L M::.L E::.L G::ls'∧(0≤Q∧Q<256)∧(0≤K∧K<256)∧Bytes M∧Bytes2 E∧Bytes G∧okLs ps ls':=by
 obtain ⟨x0,l0,rfl,a0,g0⟩:=okLs_cons h
 obtain ⟨Q,rfl,h1⟩:=ok_int a0
 obtain ⟨x1,l1,rfl,a1,g1⟩:=okLs_cons g0
 obtain ⟨K,rfl,h2⟩:=ok_int a1
 obtain ⟨x2,l2,rfl,a2,g2⟩:=okLs_cons g1
 obtain ⟨M,rfl,h3⟩:=ok_bytes a2
 obtain ⟨x3,l3,rfl,a3,g3⟩:=okLs_cons g2
 obtain ⟨E,rfl,h4⟩:=ok_pairs a3
 obtain ⟨x4,l4,rfl,a4,g4⟩:=okLs_cons g3
 obtain ⟨G,rfl,h5⟩:=ok_bytes a4
 exact ⟨Q,K,M,E,G,l4,rfl,wf_u8 h1,wf_u8 h2,h3,h4,h5,g4⟩
section
variable {Q K:Int} {M E G:List Int}
theorem right_of {q:Nat} {W g:List Int} (h3:3≤q) (hW:Wd q (q-1) W) (hg:goneB (q-1) g=true):rightB q W g=true:=by
 have wl:=hW.1
 unfold rightB
 rw [wl,hg,inB_iff.2 fun j hj=>hW.2 j (by omega)]
 simp;omega
theorem F309_true (hQ:0≤Q∧Q<256) (hK:0≤K∧K<256) (hM:Bytes M) (hE:Bytes2 E) (hG:Bytes G) {L:Int} (hL:0≤L∧L<256) {τ:Type} (k:Nat→LS_→Option τ):F309 [.I Q,.I K,.L M,.L E,.L G,.I L] k=k 0 [.B true]:=by
 obtain ⟨hq,h3⟩:=szq_qs Q
 obtain ⟨k1,k2⟩:=szk_le Q K
 have h16:=qs16 hq
 have F:=fld _ hq
 have ml:=msgR_len Q K M
 have mi:=msgR_in Q K M
 have wW:=wordI_wd F mi
 have wl:=wW.1
 generalize hw:wordI (szq Q) (fadd (szq Q)) (fmul (szq Q)) (msgR Q K M)=w at wW wl
 obtain ⟨room,hroom⟩:∃ room,room=szq Q-1-szk Q K:=⟨_,rfl⟩
 have e1:wr .i64 (((szq Q-1:Nat):Int)-(szk Q K:Int))=(room:Nat):=by
  rw [wr64 (by omega) (by omega)];omega
 have e1':wr .i64 ((szq Q:Int)-1)=((szq Q-1:Nat):Int):=by rw [wr64 (by omega) (by omega)];omega
 have e2:wr .i64 ((room:Int)+1)=((room+1:Nat):Int):=by rw [wr64 (by omega) (by omega)];rfl
 have e3:Int.tmod (wr .i64 L) ((room+1:Nat):Int)=((L.toNat % (room+1):Nat):Int):=by
  rw [wr64 (by omega) (by omega)];exact tmodN hL.1 (by omega)
 have hf:=Nat.mod_lt L.toNat (show 0<room+1 by omega)
 obtain ⟨f,hff⟩:∃ f,f=L.toNat % (room+1):=⟨_,rfl⟩
 rw [←hff] at e3 hf
 have e4:wr .i64 (Int.tdiv (wr .i64 ((room:Int)-(f:Int))) 2)=(((room-f) / 2:Nat):Int):=by
  have:wr .i64 ((room:Int)-(f:Int))=((room-f:Nat):Int):=by rw [wr64 (by omega) (by omega)];omega
  rw [this,show Int.tdiv ((room-f:Nat):Int) 2=(((room-f) / 2:Nat):Int) from rfl]
  exact wr64 (by omega) (by omega)
 obtain ⟨W,g,a1,a2,a3,a4,a5⟩:=T239_spec hQ hK (M:=M) hE hG wW (((room-f) / 2:Nat):Int) (f:Int)
 rw [Int.max_eq_right (by omega)] at a3 a4
 have Wl:=a1.1
 have gl:=goneB_lost a2
 have hr:=right_of h3 a1 a2
 have hcl:Cl (szq Q) (fadd (szq Q)) (fmul (szq Q)) (szk Q K) (lostI g) W (msgR Q K M):=⟨ml,mi,by rw [hw,gl];omega⟩
 have hdec:=fun {σ:Type} (κ:Nat→LS_→Option σ)=>T233_ok hq h3 k1 k2 hr κ
 unfold decA at hdec
 rw [dec_some F hcl] at hdec
 simp only [hw] at hdec
 have t230:=fun {σ:Type} (κ:Nat→LS_→Option σ)=>T230_of (fun κ=>T258_ok hq h3 (by rw [ml];exact k1) (by rw [ml];exact k2) mi κ) κ
 rw [hw] at t230
 unfold F309
 simp only [g_,h_]
 rw [T226_spec]
 simp only [sw_zero,gB_zero,h_]
 rw [br_no (b:=!true) rfl,ck_of (by simp),T227_spec hQ hK]
 simp only [sw_zero,gI_zero,gI_succ,e1',e1,e2,e3,e4,h_]
 rw [ck_of (nzI (by omega)),ck_of (by simp),T241_spec hQ hK hM]
 simp only [sw_zero,gL_zero,h_]
 rw [ck_of (by simp)]
 refine Eq.trans (t230 _) ?_
 simp only [g_,sw_zero,h_]
 rw [br_no (by simp),br_no (by simp;omega),ck_of (by simp),a5]
 simp only [sw_zero,gL_zero,gL_succ,h_]
 rw [ck_of (by simp)]
 refine Eq.trans (hdec _) ?_
 simp only [g_,sw_zero,h_]
 have gle:g.length<2^20:=by omega
 rw [ck_of (by simp),T263_spec (by omega) (by omega) gle,wl]
 simp only [sw_zero,gI_zero,h_]
 rw [ck_of (by simp),T255_spec (by omega) (by simp) (by simp)]
 simp only [sw_zero,gB_zero,h_]
 rw [br_of (by simp)]
theorem law309 (ls:LS_) (h:okLs ([PV2.agg [.int .u8,.int .u8,.arr (.i .u8),.ar2 .u8,.arr (.i .u8)],PV2.v (.int .u8)].flatMap cells2) ls):CS P 4 (fL2 ls [PV2.agg [.int .u8,.int .u8,.arr (.i .u8),.ar2 .u8,.arr (.i .u8)],PV2.v (.int .u8)] 0) ⟨.bool true,[]⟩:=by
 obtain ⟨Q,K,M,E,G,ls',rfl,hQ,hK,hM,hE,hG,g⟩:=raw33 h
 obtain ⟨x,l1,rfl,a,g1⟩:=okLs_cons g
 obtain ⟨L,rfl,hL⟩:=ok_int a
 obtain rfl:=okLs_nil g1
 exact F_ok F309.eq ((F309_true hQ hK hM hE hG (wf_u8 hL) _).trans (by kernel_rfl))
theorem F310_true (hQ:0≤Q∧Q<256) (hK:0≤K∧K<256) (hM:Bytes M) (hE:Bytes2 E) (hG:Bytes G) {τ:Type} (k:Nat→LS_→Option τ):F310 [.I Q,.I K,.L M,.L E,.L G] k=k 0 [.B true]:=by
 obtain ⟨hq,h3⟩:=szq_qs Q
 obtain ⟨k1,k2⟩:=szk_le Q K
 have h16:=qs16 hq
 have F:=fld _ hq
 have ml:=msgR_len Q K M
 have mi:=msgR_in Q K M
 have wW:=wordI_wd F mi
 have wl:=wW.1
 have t240:=fun {σ:Type} (κ:Nat→LS_→Option σ)=>T240_spec hq mi (by omega) κ
 generalize hw:wordI (szq Q) (fadd (szq Q)) (fmul (szq Q)) (msgR Q K M)=w at wW wl t240
 have e1:wr .i64 (wr .i64 ((szq Q:Int)-1)-(szk Q K:Int))=((szq Q-1-szk Q K:Nat):Int):=by
  rw [wr64 (n:=(szq Q:Int)-1) (by omega) (by omega),wr64 (by omega) (by omega)];omega
 obtain ⟨W,g,a1,a2,a3,a4,a5⟩:=T239_spec hQ hK (M:=M) hE hG wW 0 15
 have Wl:=a1.1
 have gl:=goneB_lost a2
 have hr:=right_of h3 a1 a2
 have hdec:=fun {σ:Type} (κ:Nat→LS_→Option σ)=>T233_ok hq h3 k1 k2 hr κ
 unfold decA at hdec
 have f0:far (lostI g) W w 0 (szq Q-1)=0:=by omega
 unfold F310
 simp only [g_,h_]
 rw [T226_spec]
 simp only [sw_zero,gB_zero,h_]
 rw [br_no (b:=!true) rfl,ck_of (by simp),T227_spec hQ hK]
 simp only [sw_zero,gI_zero,gI_succ,e1,h_]
 rw [ck_of (by simp),T241_spec hQ hK hM]
 simp only [sw_zero,gL_zero,h_]
 rw [ck_of (by simp),t240]
 simp only [sw_zero,gL_zero,h_]
 rw [ck_of (by simp),a5]
 simp only [sw_zero,gL_zero,gL_succ,h_]
 rw [ck_of (by simp)]
 refine Eq.trans (hdec _) ?_
 by_cases hl:g.length≤szq Q-1-szk Q K
 ·have hcl:Cl (szq Q) (fadd (szq Q)) (fmul (szq Q)) (szk Q K) (lostI g) W (msgR Q K M):=⟨ml,mi,by rw [hw,gl,f0];omega⟩
  rw [dec_some F hcl]
  simp only [hw,f0]
  simp only [g_,sw_zero,h_]
  rw [br_of (by simp;omega),ck_of (by simp),T255_spec (by omega) (by simp) (by simp)]
  simp only [sw_zero,gB_zero,h_]
  rw [br_of (by simp)]
 ·rw [dec_none fun m hm=>by
   have:=hm.2.2
   rw [gl] at this
   omega]
  simp only [g_,sw_zero,h_]
  rw [br_no (by simp;omega),ck_of (by simp),T256_spec (by simp) (by simp) (by simp)]
  simp only [sw_zero,gB_zero,h_]
  rw [br_of (by simp)]
theorem law310 (ls:LS_) (h:okLs ([PV2.agg [.int .u8,.int .u8,.arr (.i .u8),.ar2 .u8,.arr (.i .u8)]].flatMap cells2) ls):CS P 5 (fL2 ls [PV2.agg [.int .u8,.int .u8,.arr (.i .u8),.ar2 .u8,.arr (.i .u8)]] 0) ⟨.bool true,[]⟩:=by
 obtain ⟨Q,K,M,E,G,ls',rfl,hQ,hK,hM,hE,hG,g⟩:=raw33 h
 obtain rfl:=okLs_nil g
 exact F_ok F310.eq ((F310_true hQ hK hM hE hG _).trans (by kernel_rfl))
end
end
end Go.Proofs.Yticbdgmcofjkeaa.Ai
namespace Go.Proofs.Yticbdgmcofjkeaa.Ai
open Go Ma Go.RowKit
noncomputable section
section
variable {q:Nat} {add mul:Int→Int→Int} {neg inv:Int→Int}
theorem word_vadd (F:Fld q add mul neg inv) {k:Nat} {a b:List Int} (ha:Wd q k a) (hb:Wd q k b):wordI q add mul (vadd add a b)=vadd add (wordI q add mul a) (wordI q add mul b):=by
 have ia:InQ q a:=fun j hj=>ha.2 j (by rw [←ha.1];exact hj)
 have ib:InQ q b:=fun j hj=>hb.2 j (by rw [←hb.1];exact hj)
 have hab:=ha.vadd F hb
 have iab:InQ q (vadd add a b):=fun j hj=>hab.2 j (by rw [←hab.1];exact hj)
 have e:wordI q add mul (vadd add a b)=wordI q add mul (lv (pa (a.map (tE F)) (b.map (tE F)))):=word_cong F iab (lv_in _) fun j=>by
  rw [lv_get,cf_pa]
  have g1:(cf (a.map (tE F)) j).1=a.getD j 0:=by rw [←lv_get,tE_lv ia]
  have g2:(cf (b.map (tE F)) j).1=b.getD j 0:=by rw [←lv_get,tE_lv ib]
  show _=add (cf (a.map (tE F)) j).1 (cf (b.map (tE F)) j).1
  rw [g1,g2]
  by_cases hj:j<k
  ·rw [vadd_get (by rw [ha.1,hb.1]) (by rw [ha.1];exact hj)]
  ·have z:∀ {l:List Int},l.length=k→l.getD j 0=0:=fun h=>by rw [List.getD_eq_getElem?_getD,List.getElem?_eq_none (by omega)];rfl
   rw [z hab.1,z ha.1,z hb.1,F.zero_add _ (by omega) (by have:=F.one_lt;omega)]
 rw [e]
 refine ext_getD (by rw [wordI_len,vadd_len (by rw [wordI_len,wordI_len]),wordI_len]) fun j hj=>?_
 rw [wordI_len] at hj
 rw [wordI_lv _ hj,pv_pa,vadd_get (by rw [wordI_len,wordI_len]) (by rw [wordI_len];exact hj)]
 show add (Ma.pv (a.map (tE F)) (px F j)).1 (Ma.pv (b.map (tE F)) (px F j)).1=_
 rw [←wordI_lv _ hj,←wordI_lv _ hj,tE_lv ia,tE_lv ib]
theorem word_less (F:Fld q add mul neg inv) {k:Nat} {a b:List Int} (ha:Wd q k a) (hb:Wd q k b):∃ m,Wd q k m∧vadd add m b=a:=by
 have q1:=F.one_lt
 have n1:=F.neg_in 1 (by omega) (by omega)
 refine ⟨vadd add a (vmul mul (neg 1) b),ha.vadd F (Wd.vmul F n1.1 n1.2 hb),?_⟩
 have e:vadd add (vmul mul (neg 1) b) (vmul mul 1 b)=vmul mul (add (neg 1) 1) b:=vmul_add F hb n1.1 n1.2 (by omega) (by omega)
 rw [F.add_comm _ _ n1.1 n1.2 (by omega) (by omega),F.add_neg 1 (by omega) (by omega),vmul_zero F hb,vmul_one F hb] at e
 rw [vadd_assoc F ha (Wd.vmul F n1.1 n1.2 hb) hb,e,vadd_zeros F ha]
theorem wd_of {k:Nat} {a:List Int} (h:a.length=k) (hi:InQ q a):Wd q k a:=⟨h,fun j hj=>hi j (by omega)⟩
theorem wd_inq {k:Nat} {a:List Int} (h:Wd q k a):InQ q a:=fun j hj=>h.2 j (by rw [←h.1];exact hj)
theorem cl_add (F:Fld q add mul neg inv) {k:Nat} {lost:Nat→Bool} {w m m2:List Int} (hw:Wd q (q-1) w) (h2:Wd q k m2) (h:Cl q add mul k lost w m):Cl q add mul k lost (vadd add w (wordI q add mul m2)) (vadd add m m2):=by
 have hm:=wd_of h.1 h.2.1
 have hs:=hm.vadd F h2
 refine ⟨hs.1,(wd_inq hs),?_⟩
 rw [word_vadd F hm h2,far_vadd F lost hw (wordI_wd F h.2.1) (wordI_wd F (wd_inq h2)) _ (Nat.le_refl _)]
 exact h.2.2
theorem cl_less (F:Fld q add mul neg inv) {k:Nat} {lost:Nat→Bool} {w m m2:List Int} (hw:Wd q (q-1) w) (h2:Wd q k m2) (h:Cl q add mul k lost (vadd add w (wordI q add mul m2)) m):∃ m',Cl q add mul k lost w m':=by
 obtain ⟨m',hm,e⟩:=word_less F (wd_of h.1 h.2.1) h2
 refine ⟨m',hm.1,(wd_inq hm),?_⟩
 have:=h.2.2
 rw [←e,word_vadd F hm h2,far_vadd F lost hw (wordI_wd F (wd_inq hm)) (wordI_wd F (wd_inq h2)) _ (Nat.le_refl _)] at this
 exact this
end
section
variable {Q K:Int} {M E G:List Int}
theorem F311_true (hQ:0≤Q∧Q<256) (hK:0≤K∧K<256) (hM:Bytes M) (hE:Bytes2 E) (hG:Bytes G) {N:List Int} (hN:Bytes N) {τ:Type} (k:Nat→LS_→Option τ):F311 [.I Q,.I K,.L M,.L E,.L G,.L N] k=k 0 [.B true]:=by
 obtain ⟨hq,h3⟩:=szq_qs Q
 obtain ⟨k1,k2⟩:=szk_le Q K
 have h16:=qs16 hq
 have F:=fld _ hq
 have ml:=msgR_len Q K M
 have mi:=msgR_in Q K M
 have wW:=wordI_wd F mi
 have wl:=wW.1
 have nl:=msgR_len Q K N
 have ni:=msgR_in Q K N
 have wN:=wordI_wd F ni
 have t240:=fun {σ:Type} (κ:Nat→LS_→Option σ)=>T240_spec hq mi (by omega) κ
 have t240':=fun {σ:Type} (κ:Nat→LS_→Option σ)=>T240_spec hq ni (by omega) κ
 obtain ⟨W,g,a1,a2,a3,a4,a5⟩:=T239_spec hQ hK (M:=M) hE hG wW 15 4
 have hr:=right_of h3 a1 a2
 have aN:=a1.vadd F wN
 have hr':=right_of h3 aN a2
 have hdec:=fun {σ:Type} (κ:Nat→LS_→Option σ)=>T233_ok hq h3 k1 k2 hr κ
 have hdec':=fun {σ:Type} (κ:Nat→LS_→Option σ)=>T233_ok hq h3 k1 k2 hr' κ
 unfold decA at hdec hdec'
 unfold F311
 simp only [g_,h_]
 rw [T226_spec]
 simp only [sw_zero,gB_zero,h_]
 rw [br_no (b:=!true) rfl,ck_of (by simp),T227_spec hQ hK]
 simp only [sw_zero,gI_zero,gI_succ,h_]
 rw [ck_of (by simp),T241_spec hQ hK hM]
 simp only [sw_zero,gL_zero,h_]
 rw [ck_of (by simp),t240]
 simp only [sw_zero,gL_zero,h_]
 rw [ck_of (by simp),a5]
 simp only [sw_zero,gL_zero,gL_succ,h_]
 rw [ck_of (by simp),T241_spec hQ hK hN]
 simp only [sw_zero,gL_zero,h_]
 rw [ck_of (by simp),t240']
 simp only [sw_zero,gL_zero,h_]
 rw [T264_spec hq]
 simp only [g_,sw_zero,h_]
 rw [ck_of (by simp),T30_spec hq a1 wN (by omega)]
 simp only [sw_zero,gL_zero,h_]
 rw [ck_of (by simp)]
 refine Eq.trans (hdec _) ?_
 cases hd:dec (szq Q) (fadd (szq Q)) (fmul (szq Q)) (szk Q K) (lostI g) W with
 | none =>
  have hno:∀ m,¬ Cl (szq Q) (fadd (szq Q)) (fmul (szq Q)) (szk Q K) (lostI g) (vadd (fadd (szq Q)) W (wordI (szq Q) (fadd (szq Q)) (fmul (szq Q)) (msgR Q K N))) m:=fun m hm=>by
   obtain ⟨m',h⟩:=cl_less F a1 (wd_of nl ni) hm
   rw [dec_some F h] at hd
   cases hd
  rw [dec_none hno] at hdec'
  simp only [g_,sw_zero,h_]
  rw [ck_of (by simp)]
  refine Eq.trans (hdec' _) ?_
  simp only [g_,sw_zero,h_]
  rw [ck_of (by simp),T256_spec (by simp) (by simp) (by simp)]
  simp only [sw_zero,gB_zero,h_]
  rw [br_of (by simp),ck_of (by simp),T256_spec (by simp) (by simp) (by simp)]
  simp only [sw_zero,gB_zero,h_]
  rw [br_of (by simp)]
 | some m =>
  have hcl:=(dec_spec F).1 hd
  have hcl':=cl_add F a1 (wd_of nl ni) hcl
  have wm:=wordI_wd F hcl.2.1
  rw [dec_some F hcl'] at hdec'
  dsimp only at hdec'
  rw [word_vadd F (wd_of hcl.1 hcl.2.1) (wd_of nl ni),far_vadd F _ a1 wm wN _ (Nat.le_refl _)] at hdec'
  have ws:=wm.vadd F wN
  have sl:=ws.1
  have l1:=wm.1
  have l2:=wN.1
  simp only [g_,sw_zero,h_]
  rw [ck_of (by simp)]
  refine Eq.trans (hdec' _) ?_
  simp only [g_,sw_zero,h_]
  rw [ck_of (by simp),T256_spec (by omega) (by simp) (by simp)]
  simp only [sw_zero,gB_zero,h_]
  rw [br_no (by simp),br_of (by simp [l1,l2]),ck_of (by simp),T30_spec hq wm wN (by omega)]
  simp only [sw_zero,gL_zero,h_]
  rw [ck_of (by simp),T255_spec (by omega) (by simp) (by simp)]
  simp only [sw_zero,gB_zero,h_]
  rw [br_of (by simp)]
theorem law311 (ls:LS_) (h:okLs ([PV2.agg [.int .u8,.int .u8,.arr (.i .u8),.ar2 .u8,.arr (.i .u8)],PV2.v (.arr (.i .u8))].flatMap cells2) ls):CS P 6 (fL2 ls [PV2.agg [.int .u8,.int .u8,.arr (.i .u8),.ar2 .u8,.arr (.i .u8)],PV2.v (.arr (.i .u8))] 0) ⟨.bool true,[]⟩:=by
 obtain ⟨Q,K,M,E,G,ls',rfl,hQ,hK,hM,hE,hG,g⟩:=raw33 h
 obtain ⟨x,l1,rfl,a,g1⟩:=okLs_cons g
 obtain ⟨N,rfl,hN⟩:=ok_bytes a
 obtain rfl:=okLs_nil g1
 exact F_ok F311.eq ((F311_true hQ hK hM hE hG hN _).trans (by kernel_rfl))
end
end
end Go.Proofs.Yticbdgmcofjkeaa.Ai
