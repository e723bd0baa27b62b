/-
Part 7 of 7 of the texts for one claim: Wo Xq Xm Wl Wm Xu Wp Xo Wq Wr P44 Xl9 P35 P45 Xmk Fl0 P46 P47 Qab Xw13 P48.
-/
import Derived.Test.YticbdgmcofjkeaaCm6
set_option linter.unusedVariables false
set_option linter.unusedSimpArgs false
namespace Go.Proofs.Yticbdgmcofjkeaa.Ai
open Go Ma
noncomputable section
section
variable {q n:Nat} {G:List (List Int)}
def mg (G:List (List Int)) (w:List Int):List Int:=G.map fun r=>w.getD (fnz r) 0
theorem mg_len (G:List (List Int)) (w:List Int):(mg G w).length=G.length:=by simp [mg]
theorem mg_get {G:List (List Int)} {w:List Int} {i:Nat} (hi:i<G.length):(mg G w).getD i 0=w.getD (fnz (G.getD i [])) 0:=by
 simp [mg,List.getD_eq_getElem?_getD,hi]
theorem mg_in (h:Lc q n G) {w:List Int} (hw:Wd q n w):InQ q (mg G w):=fun i hi=>by
 rw [mg_len] at hi
 rw [mg_get hi]
 exact hw.2 _ (h.fnzs hi).1
theorem mg_word (h:Lc q n G) {w:List Int} (hw:Wd q n w):isWord q G.length (mg G w)=true :=
 isWord_wd ⟨mg_len G w,fun i hi=>mg_in h hw i (by rw [mg_len];exact hi)⟩
theorem mg_comb (h:Lc q n G) {w:List Int} (hw:Wd q n w):comb (fadd q) (fmul q) G (mg G w) (List.replicate n 0)=w↔Sp q n (fadd q) (fmul q) G w:=by
 have F:=fld q h.fq
 obtain ⟨piv,R⟩:=h.form
 constructor
 ·intro e
  have:=comb_mem F G (mg G w) (List.replicate n 0) (mg_len G w) (mg_in h hw)
  rw [e] at this
  exact this
 ·intro hs
  obtain ⟨cs,h1,h2,h3⟩:=mem_comb F G _ _ hs
  have:mg G w=cs:=ext_getD (by rw [mg_len,h1]) fun i hi=>by
   rw [mg_len] at hi
   have hz:(List.replicate n (0:Int)).getD (piv i) 0=0:=by simp [List.getD_eq_getElem?_getD,R.lt i hi]
   have c:=h2 i (by omega)
   rw [mg_get hi,rref_fz R hi,h3,comb_at F G piv cs _ R h1 h2 (Wd.zeros (by have:=qs_lt h.fq;omega)) i hi,hz,F.zero_add _ c.1 c.2]
  rw [this,←h3]
theorem L47_5_spec (h:Lc q n G) {w:List Int} (hw:Wd q n w) (a b:Int) {τ:Type} (κ:Nat→LS_→Option τ):∀ (f i:Nat) (m:List Int),i≤G.length→G.length<f+i→m=(mg G w).take i++(List.replicate G.length 0).drop i →
  runE L47_5 f κ 0 [.N n,.L w,.N G.length,.N G.length,.LL G,.I G.length,.I i,.I a,.I b,.N G.length,.LL G,.L m]
   = κ 0 [.N n,.L w,.N G.length,.I a,.I b,.N G.length,.LL G,.L (mg G w)]
 | 0,i,m,h1,h2,h3=>by omega
 | f+1,i,m,h1,h2,h3=>by
  have hR:=h.rows
  have gf:=hR.few
  have n1:=h.n1
  have wl:=hw.1
  have ml:=mg_len G w
  have rl:(mg G w).length=(List.replicate G.length (0:Int)).length:=by simp [mg]
  have hm:=half_len rl (j:=i) (by simpa using h1)
  rw [runE_succ]
  show L47_5.s0 _ _ _=_
  unfold L47_5.s0
  simp only [g_,Int.toNat_natCast,Nat.mul_one,Nat.zero_add]
  by_cases hj:i<G.length
  ·obtain ⟨p1,p2⟩:=h.fnzs hj
   have hm2:m.length=G.length:=by rw [h3,hm];simp
   have ih:=L47_5_spec h hw a b κ f (i+1) (m.set i (w.getD (fnz (G.getD i [])) 0)) (by omega) (by omega) (by rw [h3,←mg_get hj,half_set rl (by simpa using hj)])
   rw [br_of (by simp;omega),ck_of (by simp;omega),ck_of (by simp;omega),ck_of (by simp),F82_spec (by omega) (by omega)]
   simp only [sw_zero,gI_zero,Int.toNat_natCast]
   generalize fnz (G.getD i [])=z at p1 p2 ih ⊢
   rw [ck_of (by simp;omega),ck_of (by simp;omega),ck_of (by simp;omega),ck_of (by simp;omega),wsucc (j:=i) (by omega)]
   exact ih
  ·have:i=G.length:=by omega
   subst this
   have e:=half_all rl
   simp only [List.length_replicate] at e
   rw [br_no (by simp),h3,e]
theorem F47_spec (h:Lc q n G) {w:List Int} (hs:w.length<2^60) {τ:Type} (k:Nat→LS_→Option τ):F47 [.I q,.I n,.LL G,.L w] k =
  if isWord q n w=true then (if comb (fadd q) (fmul q) G (mg G w) (List.replicate n 0)=w then k 2 [.N G.length,.L (mg G w)] else k 1 []) else k 0 []:=by
 have hfu:=fuel_le
 have n0:=h.n0
 have n1:=h.n1
 have gl:=h.len
 have qq:=qs_lt h.fq
 unfold F47 T37
 simp only [g_]
 rw [ck_of (by simp),F37_spec h.fq n (by omega) h.short,h.valid]
 simp only [sw_zero,gB_zero]
 rw [br_no (b:=!true) rfl,ck_of (by simp),F93_spec _ _ hs]
 simp only [sw_zero,gB_zero]
 by_cases hw:isWord q n w=true
 ·have ww:=isWord_to hw
  have wl:=ww.1
  rw [hw,if_pos rfl,br_no (b:=!true) rfl,ck_of (by simp;omega)]
  simp only [Int.toNat_natCast]
  unfold L47_5.b
  rw [wl]
  refine (L47_5_spec h ww q n _ fuel 0 _ (by omega) (by omega) (by simp)).trans ?_
  simp only [g_,sw_zero,Nat.mul_one,List.drop_zero]
  have ft:List.take G.length (mg G w)=mg G w:=List.take_of_length_le (by rw [mg_len];exact Nat.le_refl _)
  have wx:=words_wd (fld q h.fq) G _ h.rows.wd (Wd.zeros (q:=q) (n:=n) (by omega)) _ (comb_mem (fld q h.fq) G (mg G w) (List.replicate n 0) (mg_len G w) (mg_in h ww))
  have xl:=wx.1
  rw [ft,ck_of (by simp [mg_len]),T49_ok h (mg_word h ww)]
  simp only [sw_zero,gI_succ,gI_zero,gL_zero]
  rw [br_no (by rfl),ck_of (by simp;omega),F88_spec _ _ _ (by omega)]
  simp only [sw_zero,gB_zero]
  by_cases e:comb (fadd q) (fmul q) G (mg G w) (List.replicate n 0)=w
  ·rw [if_pos e,decide_eq_true e,br_no (b:=!true) rfl]
  ·rw [if_neg e,decide_eq_false e,br_of (b:=!false) rfl]
 ·have hf:=Bool.eq_false_iff.2 hw
  rw [if_neg hw,hf,br_of (b:=!false) rfl]
def T47 {τ:Type} (l:LS_) (k:Nat→LS_→Option τ):Option τ:=wrapB F47.E (.tup [pR,pI]) l k
def T47.E:Ent P:=F47.E.wrap (.tup [pR,pI])
theorem T47_ok (h:Lc q n G) {w:List Int} (hw:Wd q n w) (hs:Sp q n (fadd q) (fmul q) G w) {τ:Type} (k:Nat→LS_→Option τ):T47 [.I q,.I n,.LL G,.L w] k=k 0 [.L (mg G w),.I 0]:=by
 have n1:=h.n1
 have wl:=hw.1
 have h2:=fun {τ:Type} (κ:Nat→LS_→Option τ)=>((F47_spec h (w:=w) (by omega) κ).trans (if_pos (isWord_wd hw))).trans (if_pos ((mg_comb h hw).2 hs))
 have ml:=mg_len G w
 generalize mg G w=M at h2 ml ⊢
 rw [←ml] at h2
 exact wrap_of (e:=F47.E) (p:=.tup [pR,pI]) (j:=2) (l2:=[.N M.length,.L M]) (c:=(true&&(true&&true))&&(true&&(true&&(decide (M.length=M.length)&&(true&&true))))) (ls':=[.L M,.I 0]) (by intro τ κ;kernel_rfl) (by simp) (k:=k) (fun κ=>h2 κ)
theorem T47_not (h:Lc q n G) {w:List Int} (hw:Wd q n w) (hs:¬ Sp q n (fadd q) (fmul q) G w) {τ:Type} (k:Nat→LS_→Option τ):T47 [.I q,.I n,.LL G,.L w] k=k 0 [.L [],.I 6]:=by
 have n1:=h.n1
 have wl:=hw.1
 have h2:=fun {τ:Type} (κ:Nat→LS_→Option τ)=>((F47_spec h (w:=w) (by omega) κ).trans (if_pos (isWord_wd hw))).trans (if_neg fun e=>hs ((mg_comb h hw).1 e))
 exact wrap_of (e:=F47.E) (p:=.tup [pR,pI]) (j:=1) (l2:=[]) (c:=true) (ls':=[.L [],.I 6]) (by intro τ κ;kernel_rfl) rfl (fun κ=>h2 κ)
theorem L97_3_spec (hq:q∈Qs) (hn:n<2^60) {a b:List Int} (ha:Wd q n a) (hb:Wd q n b) {τ:Type} (κ:Nat→LS_→Option τ):∀ (f j:Nat),j≤n→n<f+j →
  runE L97_3 f κ 0 [.N n,.L a,.N n,.L b,.I (dot (fadd q) (fmul q) a b j),.I n,.I j,.I (fp q),.I (fe q),.N (fm q).length,.L (fm q)]=κ 0 [.I (dot (fadd q) (fmul q) a b n)]
 | 0,j,h1,h2=>by omega
 | f+1,j,h1,h2=>by
  have F:=fld q hq
  have al:=ha.1
  have bl:=hb.1
  rw [runE_succ]
  show L97_3.s0 _ _ _=_
  unfold L97_3.s0
  simp only [g_,Int.toNat_natCast,Nat.mul_one]
  by_cases hj:j<n
  ·have ih:=L97_3_spec hq hn ha hb κ f (j+1) (by omega) (by omega)
   have aj:=ha.2 j hj
   have bj:=hb.2 j hj
   have mj:=F.mul_in _ _ aj.1 aj.2 bj.1 bj.2
   have dj:=dot_in F ha hb j (by omega)
   rw [br_of (by simp;omega),ck_of (by simp;omega),ck_of (by simp;omega),ck_of (by simp;omega),ck_of (by simp;omega),ck_of (by simp)]
   unfold T104 T103
   rw [tab2_of hq aj.1 aj.2 bj.1 bj.2]
   simp only [sw_zero,gI_zero]
   rw [ck_of (by simp),tab2_of hq dj.1 dj.2 mj.1 mj.2]
   simp only [sw_zero,gI_zero]
   rw [wsucc (j:=j) (by omega)]
   exact ih
  ·have:j=n:=by omega
   subst this
   rw [br_no (by simp)]
theorem F97_spec (hq:q∈Qs) (hn:n<2^60) {a b:List Int} (ha:Wd q n a) (hb:Wd q n b) {τ:Type} (k:Nat→LS_→Option τ):F97 [.I (fp q),.I (fe q),.L (fm q),.L a,.L b] k=k 0 [.I (dot (fadd q) (fmul q) a b n)]:=by
 have hfu:=fuel_le
 unfold F97 L97_3.b
 simp only [g_]
 rw [ha.1,hb.1]
 refine (L97_3_spec hq hn ha hb _ fuel 0 (by omega) (by omega)).trans ?_
 simp only [sw_zero,gI_zero]
def synd (q n:Nat) (G:List (List Int)) (w:List Int):List Int:=(dualR q n G).map fun r=>dot (fadd q) (fmul q) r w n
theorem synd_len (w:List Int):(synd q n G w).length=(dualR q n G).length:=by simp [synd]
theorem synd_get {w:List Int} {i:Nat} (hi:i<(dualR q n G).length):(synd q n G w).getD i 0=dot (fadd q) (fmul q) ((dualR q n G).getD i []) w n:=by
 simp [synd,List.getD_eq_getElem?_getD,hi]
theorem L57_7_spec (h:Lc q n G) {w:List Int} (hw:Wd q n w) {τ:Type} (κ:Nat→LS_→Option τ):∀ (f i:Nat) (m:List Int),i≤(dualR q n G).length→(dualR q n G).length<f+i→m=(synd q n G w).take i++(List.replicate (dualR q n G).length 0).drop i →
  runE L57_7 f κ 0 [.N n,.L w,.N (dualR q n G).length,.N (dualR q n G).length,.LL (dualR q n G),.I (dualR q n G).length,.I i,.I (fp q),.I (fe q),.N (fm q).length,.L (fm q),.L m]
   = κ 0 [.N (dualR q n G).length,.L (synd q n G w)]
 | 0,i,m,h1,h2,h3=>by omega
 | f+1,i,m,h1,h2,h3=>by
  obtain ⟨D,dl,_⟩:=h.dual
  have hR:=D.rows
  have gf:=hR.few
  have n1:=h.n1
  have wl:=hw.1
  have ml:=synd_len (q:=q) (n:=n) (G:=G) w
  have rl:(synd q n G w).length=(List.replicate (dualR q n G).length (0:Int)).length:=by simp [synd]
  have hm:=half_len rl (j:=i) (by simpa using h1)
  rw [runE_succ]
  show L57_7.s0 _ _ _=_
  unfold L57_7.s0
  simp only [g_,Int.toNat_natCast,Nat.mul_one,Nat.zero_add]
  by_cases hj:i<(dualR q n G).length
  ·have hm2:m.length=(dualR q n G).length:=by rw [h3,hm];simp
   have ih:=L57_7_spec h hw κ f (i+1) (m.set i (dot (fadd q) (fmul q) ((dualR q n G).getD i []) w n)) (by omega) (by omega) (by rw [h3,←synd_get hj,half_set rl (by simpa using hj)])
   rw [br_of (by simp;omega),ck_of (by simp;omega),ck_of (by simp;omega),ck_of (by simp;omega),F97_spec h.fq (by omega) (hR.wd i hj) hw]
   simp only [sw_zero,gI_zero]
   rw [ck_of (by simp;omega),ck_of (by simp;omega),wsucc (j:=i) (by omega)]
   exact ih
  ·have:i=(dualR q n G).length:=by omega
   subst this
   have e:=half_all rl
   simp only [List.length_replicate] at e
   rw [br_no (by simp),h3,e]
theorem F57_ok (h:Lc q n G) {w:List Int} (hw:Wd q n w) {τ:Type} (k:Nat→LS_→Option τ):F57 [.I q,.I n,.LL G,.L w] k=k 1 [.N (dualR q n G).length,.L (synd q n G w)]:=by
 have hfu:=fuel_le
 have n0:=h.n0
 have n1:=h.n1
 have gl:=h.len
 obtain ⟨D,dl,_⟩:=h.dual
 have wl:=hw.1
 unfold F57 T37
 simp only [g_]
 rw [ck_of (by simp),F37_spec h.fq n (by omega) h.short,h.valid]
 simp only [sw_zero,gB_zero]
 rw [br_no (b:=!true) rfl,ck_of (by simp),F93_spec _ _ (by omega),isWord_wd hw]
 simp only [sw_zero,gB_zero]
 rw [br_no (b:=!true) rfl,T81_spec h.fq]
 simp only [g_,sw_zero]
 rw [ck_of (by simp),T36_spec h]
 simp only [sw_zero,gLL_succ,gLL_zero,Int.toNat_natCast]
 rw [ck_of (by simp;omega),wl]
 unfold L57_7.b
 refine (L57_7_spec h hw _ fuel 0 _ (by omega) (by omega) (by simp)).trans ?_
 simp only [sw_zero,gN_zero,gL_succ,gL_zero]
def T57 {τ:Type} (l:LS_) (k:Nat→LS_→Option τ):Option τ:=wrapB F57.E (.tup [pR,pI]) l k
def T57.E:Ent P:=F57.E.wrap (.tup [pR,pI])
theorem T57_ok (h:Lc q n G) {w:List Int} (hw:Wd q n w) {τ:Type} (k:Nat→LS_→Option τ):T57 [.I q,.I n,.LL G,.L w] k=k 0 [.L (synd q n G w),.I 0]:=by
 have h2:=fun {τ:Type} (κ:Nat→LS_→Option τ)=>F57_ok h hw κ
 have ml:=synd_len (q:=q) (n:=n) (G:=G) w
 generalize synd q n G w=M at h2 ml ⊢
 rw [←ml] at h2
 have:=wrap_of (e:=F57.E) (p:=.tup [pR,pI]) (j:=1) (l2:=[.N M.length,.L M]) (c:=(true&&(true&&true))&&(true&&(true&&(decide (M.length=(List.take (M.length*1) (List.drop 0 M)).length)&&(true&&true))))) (ls':=[.L (List.take (M.length*1) (List.drop 0 M)),.I 0]) (by intro τ κ;kernel_rfl) (by simp) (k:=k) (fun κ=>h2 κ)
 rw [Nat.mul_one,List.drop_zero,List.take_length] at this
 exact this
end
end
end Go.Proofs.Yticbdgmcofjkeaa.Ai
namespace Go.Proofs.Yticbdgmcofjkeaa.Ai
open Go Go.RowKit
noncomputable section
variable {τ:Type} (t:Nat) (nx ex:Nat→LS_→Option τ) (l:LS_) (k κ:Nat→LS_→Option τ)
def F38.ps:List PV2:=[pCode]
def F38.sh:List PA:=[(PA.mk (PV3.v pI) [])]
def F38.O:Orc P:=⟨[],[],[],40⟩
def F38:Option τ :=
 k 0 [.I (((List.length (gLL l 2)):Nat):Int)]
theorem F38.eq:FEq F38.O 36 F38.ps F38.sh F38:=by intro τ l κ;kernel_rfl
def F38.E:Ent P:=mkF F38.eq
end
end Go.Proofs.Yticbdgmcofjkeaa.Ai
namespace Go.Proofs.Yticbdgmcofjkeaa.Ai
open Go Go.RowKit
noncomputable section
variable {τ:Type} (t:Nat) (nx ex:Nat→LS_→Option τ) (l:LS_) (k κ:Nat→LS_→Option τ)
def L41_5.H:LHead:=⟨false,true,0,131077,131077,46,12,0,[(PS.mk (us 1 ((pp 0)::nS::qM::us 1 (pI::us 24 []))) [(oG [pI,pI,qM])])],[(Out.ret,(PS.mk (us 2 (nS::qM::us 26 [])) [])),((Out.exit 0),(PS.mk (us 2 (nS::qM::us 26 [])) []))]⟩
def L41_5.O:Orc P:=⟨[T31.E],[],[],40⟩
def L41_5.s0:Option τ :=
 br (ltI (gI l 2) (gN l 0))
 (ck (((leI 0 (gI l 2))&&(ltI (gI l 2) (gN l 0)))&&true)
 (ck (ltN ((Int.toNat (gI l 2))*1) (List.length (gLL l 1)))
 (ck ((eqM (List.length (List.getD (gLL l 1) ((Int.toNat (gI l 2))*1) [])) (List.length (List.getD (gLL l 1) ((Int.toNat (gI l 2))*1) [])))&&true)
 (T31 [.I (gI l 3),.I (gI l 4),.L (List.getD (gLL l 1) ((Int.toNat (gI l 2))*1) [])]
 (fun j A=>(sw (br (!(gB A 0))
 (ex 0 [.N (gN l 0),.LL (gLL l 1)])
 (nx 0 [.N (gN l 0),.LL (gLL l 1),.I (wr .i64 ((gI l 2)+1)),.I (gI l 3),.I (gI l 4),.N (gN l 5),.LL (gLL l 6)]))
 (fun _=>none)) j)))))
 (ex 1 [.N (gN l 0),.LL (gLL l 1)])
theorem L41_5.e0:LEq L41_5.O L41_5.H 0 L41_5.s0:=by intro τ next κ l;kernel_rfl
def L41_5:LStep P Cf:=LStep.mk1 (by decide) L41_5.e0
def L41_5.b:Option τ:=runE L41_5 fuel κ t l
def L41_5.E:LEnt P:=LStep.E L41_5
def F41.ps:List PV2:=[pCode]
def F41.sh:List PA:=[(PA.mk (PV3.v nS) []),(PA.mk (PV3.v qM) [])]
def F41.O:Orc P:=⟨[T64.E],[L41_5.E],[],40⟩
def F41:Option τ :=
 ck (((eqM (List.length (gLL l 2)) (List.length (gLL l 2)))&&true)&&true)
 (T64 [.I (gI l 0),.I (gI l 1),.LL (gLL l 2)]
 (fun j A=>(sw (br ((gI A 1) != 0)
 (k 0 [])
 (L41_5.b 0 [.N (List.length (gLL A 0)),.LL (gLL A 0),.I 0,.I (gI l 0),.I (gI l 1),.N (List.length (gLL l 2)),.LL (gLL l 2)]
 (fun j B=>(sw (k 0 [])
 (sw (k 1 [.N (gN B 0),.LL (gLL B 1)])
 (fun _=>none))) j)))
 (fun _=>none)) j))
theorem F41.eq:FEq F41.O 32 F41.ps F41.sh F41:=by intro τ l κ;kernel_rfl
def F41.E:Ent P:=mkF F41.eq
def F43.ps:List PV2:=[pCode]
def F43.sh:List PA:=[(PA.mk (PV3.v pI) [])]
def F43.O:Orc P:=⟨[T50.E],[],[],40⟩
def F43:Option τ :=
 ck (((eqM (List.length (gLL l 2)) (List.length (gLL l 2)))&&true)&&true)
 (T50 [.I (gI l 0),.I (gI l 1),.LL (gLL l 2)]
 (fun j A=>(sw (br ((gI A 1) != 0)
 (k 0 [.I (-1)])
 (k 0 [.I (gI A 0)]))
 (fun _=>none)) j))
theorem F43.eq:FEq F43.O 53 F43.ps F43.sh F43:=by intro τ l κ;kernel_rfl
def F43.E:Ent P:=mkF F43.eq
end
end Go.Proofs.Yticbdgmcofjkeaa.Ai
namespace Go.Proofs.Yticbdgmcofjkeaa.Ai
open Go Ma
noncomputable section
theorem raw13 {ps:List PV1} {ls:LS_} (h:okLs (.int .u8::.int .u8::.int .u8::.arr (.i .u8)::ps) ls) :
  ∃ Q N K L ls',ls=.I Q::.I N::.I K::.L L::ls'∧(0≤Q∧Q<256)∧(0≤N∧N<256)∧(0≤K∧K<256)∧Bytes L∧okLs ps ls':=by
 obtain ⟨x0,l0,rfl,a0,g0⟩:=okLs_cons h
 obtain ⟨Q,rfl,h1⟩:=ok_int a0
 obtain ⟨x1,l1,rfl,a1,g1⟩:=okLs_cons g0
 obtain ⟨N,rfl,h2⟩:=ok_int a1
 obtain ⟨x2,l2,rfl,a2,g2⟩:=okLs_cons g1
 obtain ⟨K,rfl,h3⟩:=ok_int a2
 obtain ⟨x3,l3,rfl,a3,g3⟩:=okLs_cons g2
 obtain ⟨L,rfl,h4⟩:=ok_bytes a3
 exact ⟨Q,N,K,L,l3,rfl,wf_u8 h1,wf_u8 h2,wf_u8 h3,h4,g3⟩
theorem ham_succ (a b:List Int) (k:Nat):ham (k+1) a b=ham k a b+(if b.getD k 0=a.getD k 0 then 0 else 1):=by
 unfold ham
 rw [far_succ,Nat.zero_add]
 by_cases h:b.getD k 0=a.getD k 0
 ·rw [h];simp
 ·have:(b.getD k 0 != a.getD k 0)=true:=by simpa using h
  rw [this,if_neg h];rfl
theorem ham_self (a:List Int):∀ k,ham k a a=0
 | 0=>rfl
 | k+1=>by rw [ham_succ,ham_self a k,if_pos rfl]
def T43 {τ:Type} (l:LS_) (k:Nat→LS_→Option τ):Option τ:=F43 l k
def T43.E:Ent P:=F43.E
def T41 {τ:Type} (l:LS_) (k:Nat→LS_→Option τ):Option τ:=wrapB F41.E (.v pM) l k
def T41.E:Ent P:=F41.E.wrap (.v pM)
theorem L41_5_spec {q n:Nat} (G:List (List Int)) {W:List (List Int)} (hW:∀ y∈W,Wd q n y) (hn:n<2^60) (hs:W.length<2^60) {τ:Type} (κ:Nat→LS_→Option τ):∀ (f j:Nat),j≤W.length→W.length<f+j →
  runE L41_5 f κ 0 [.N W.length,.LL W,.I j,.I q,.I n,.N G.length,.LL G]=κ 1 [.N W.length,.LL W]
 | 0,j,h1,h2=>by omega
 | f+1,j,h1,h2=>by
  rw [runE_succ]
  show L41_5.s0 _ _ _=_
  unfold L41_5.s0
  simp only [g_,Int.toNat_natCast,Nat.mul_one]
  by_cases hj:j<W.length
  ·have hy:W.getD j []∈W:=by
    rw [List.getD_eq_getElem?_getD,List.getElem?_eq_getElem hj]
    exact List.getElem_mem hj
   have wy:=hW _ hy
   have wl:=wy.1
   rw [br_of (by simp;omega),ck_of (by simp;omega),ck_of (by simp;omega)]
   generalize W.getD j []=y at wy wl ⊢
   unfold T31
   rw [ck_of (by simp),F31_spec _ _ (by omega),isWord_wd wy]
   simp only [sw_zero,gB_zero]
   rw [br_no (b:=!true) rfl,wsucc (j:=j) (by omega)]
   exact L41_5_spec G hW hn hs κ f (j+1) (by omega) (by omega)
  ·rw [br_no (by simp;omega)]
theorem T41_spec {q n:Nat} {G:List (List Int)} (h:Cd q n G) {τ:Type} (k:Nat→LS_→Option τ):T41 [.I q,.I n,.LL G] k=k 0 [.LL (words q (fadd q) (fmul q) G (List.replicate n 0))]:=by
 have hfu:=fuel_le
 have hc:=h.count
 have n1:=h.n1
 have hqq:=qs_lt h.fq
 have hW:=words_wd (fld q h.fq) G _ h.rows.wd (Wd.zeros (q:=q) (n:=n) (by omega))
 have hl:=words_len (n:=n) h.fq G (List.replicate n 0)
 have h2:∀ {τ:Type} (κ:Nat→LS_→Option τ),F41 [.I q,.I n,.LL G] κ=κ 1 [.N (words q (fadd q) (fmul q) G (List.replicate n 0)).length,.LL (words q (fadd q) (fmul q) G (List.replicate n 0))]:=fun {τ} κ=>by
  unfold F41
  simp only [g_]
  rw [ck_of (by simp),T64_spec h]
  simp only [sw_zero,gI_succ,gI_zero,gLL_zero]
  rw [br_no (by rfl)]
  unfold L41_5.b
  refine (L41_5_spec G hW (by omega) (by omega) _ fuel 0 (by omega) (by omega)).trans ?_
  simp only [sw_one,sw_zero,gN_zero,gLL_succ,gLL_zero]
 generalize words q (fadd q) (fmul q) G (List.replicate n 0)=M at h2 ⊢
 exact wrap_of (e:=F41.E) (p:=.v pM) (j:=1) (l2:=[.N M.length,.LL M]) (c:=(true&&(true&&(true&&decide (M.length=M.length))))) (ls':=[.LL M]) (by intro τ κ;kernel_rfl) (by simp) (k:=k) (fun κ=>h2 κ)
def T38 {τ:Type} (l:LS_) (k:Nat→LS_→Option τ):Option τ:=F38 l k
def T38.E:Ent P:=F38.E
def T39 {τ:Type} (l:LS_) (k:Nat→LS_→Option τ):Option τ:=F39 l k
def T39.E:Ent P:=F39.E
def T40 {τ:Type} (l:LS_) (k:Nat→LS_→Option τ):Option τ:=F40 l k
def T40.E:Ent P:=F40.E
theorem F38_spec (a b:Int) (G:List (List Int)) {τ:Type} (k:Nat→LS_→Option τ):F38 [.I a,.I b,.LL G] k=k 0 [.I G.length]:=rfl
theorem F39_spec (a b c d:Int) {G H:List (List Int)} (hs:G.length<2^60) (hr:∀ i,(G.getD i []).length<2^60) {τ:Type} (k:Nat→LS_→Option τ):F39 [.I a,.I b,.LL G,.I c,.I d,.LL H] k=k 0 [.B (decide (a=c∧b=d∧G=H))]:=by
 unfold F39
 simp only [g_]
 by_cases h1:a=c
 ·rw [br_of (by simpa using h1)]
  by_cases h2:b=d
  ·rw [br_of (by simpa using h2),ck_of (by simp),F22_spec _ _ _ hs hr]
   simp only [sw_zero,gB_zero]
   congr 3
   rw [decide_eq_decide]
   exact ⟨fun h=>⟨h1,h2,h⟩,fun h=>h.2.2⟩
  ·rw [br_no (by simpa using h2),decide_eq_false (fun h=>h2 h.2.1)]
 ·rw [br_no (by simpa using h1),decide_eq_false (fun h=>h1 h.1)]
theorem L40_3_spec {q n:Nat} (hq:q∈Qs) (hn:n<2^60) {a b:List Int} (ha:Wd q n a) (hb:Wd q n b) {τ:Type} (κ:Nat→LS_→Option τ):∀ (f j:Nat),j≤n→n<f+j →
  runE L40_3 f κ 0 [.N n,.L a,.N n,.L b,.I (dot (fadd q) (fmul q) a b j),.I j,.I (fp q),.I (fe q),.N (fm q).length,.L (fm q)]=κ 0 [.I (dot (fadd q) (fmul q) a b n)]
 | 0,j,h1,h2=>by omega
 | f+1,j,h1,h2=>by
  have F:=fld q hq
  have al:=ha.1
  have bl:=hb.1
  rw [runE_succ]
  show L40_3.s0 _ _ _=_
  unfold L40_3.s0
  simp only [g_,Int.toNat_natCast,Nat.mul_one]
  by_cases hj:j<n
  ·have ih:=L40_3_spec hq hn ha hb κ f (j+1) (by omega) (by omega)
   have aj:=ha.2 j hj
   have bj:=hb.2 j hj
   have mj:=F.mul_in _ _ aj.1 aj.2 bj.1 bj.2
   have dj:=dot_in F ha hb j (by omega)
   rw [br_of (by simp;omega),ck_of (by simp;omega),ck_of (by simp;omega),ck_of (by simp;omega),ck_of (by simp;omega),ck_of (by simp)]
   unfold T89 T77
   rw [tab2_of hq aj.1 aj.2 bj.1 bj.2]
   simp only [sw_zero,gI_zero]
   rw [ck_of (by simp),tab2_of hq dj.1 dj.2 mj.1 mj.2]
   simp only [sw_zero,gI_zero]
   rw [wsucc (j:=j) (by omega)]
   exact ih
  ·have:j=n:=by omega
   subst this
   rw [br_no (by simp)]
theorem F40_spec {q n:Nat} (hq:q∈Qs) (hn:n<2^60) {a b:List Int} (ha:Wd q n a) (hb:Wd q n b) {τ:Type} (k:Nat→LS_→Option τ):F40 [.I (fp q),.I (fe q),.L (fm q),.L a,.L b] k=k 0 [.I (dot (fadd q) (fmul q) a b n)]:=by
 have hfu:=fuel_le
 unfold F40 L40_3.b
 simp only [g_]
 rw [ha.1,hb.1]
 refine (L40_3_spec hq hn ha hb _ fuel 0 (by omega) (by omega)).trans ?_
 simp only [sw_zero,gI_zero]
end
end Go.Proofs.Yticbdgmcofjkeaa.Ai
namespace Go.Proofs.Yticbdgmcofjkeaa.Ai
open Go Go.RowKit
noncomputable section
variable {τ:Type} (t:Nat) (nx ex:Nat→LS_→Option τ) (l:LS_) (k κ:Nat→LS_→Option τ)
end
end Go.Proofs.Yticbdgmcofjkeaa.Ai
namespace Go.Proofs.Yticbdgmcofjkeaa.Ai
open Go Ma
noncomputable section
section
variable {q n:Nat} {G:List (List Int)}
def T27 {τ:Type} (l:LS_) (k:Nat→LS_→Option τ):Option τ:=F27 l k
def T27.E:Ent P:=F27.E
def T63 {τ:Type} (l:LS_) (k:Nat→LS_→Option τ):Option τ:=F63 l k
def T63.E:Ent P:=F63.E
def T30 {τ:Type} (l:LS_) (k:Nat→LS_→Option τ):Option τ:=wrapB F30.E (.v pR) l k
def T30.E:Ent P:=F30.E.wrap (.v pR)
def T54 {τ:Type} (l:LS_) (k:Nat→LS_→Option τ):Option τ:=wrapB F54.E (.v pR) l k
def T54.E:Ent P:=F54.E.wrap (.v pR)
theorem L54_3_spec (hq:q∈Qs) (hn:n<2^20) {L:List Int} (hL:Bytes L):∀ (f j:Nat) (w:List Int),Wd q n w→j≤n→n<f+j→∃ w',Wd q n w'∧∀ {τ:Type} (κ:Nat→LS_→Option τ),
  runE L54_3 f κ 0 [.I q,.I n,.N L.length,.L L,.N n,.I j,.L w]=κ 0 [.N n,.L w']
 | 0,j,w,hw,h1,h2=>by omega
 | f+1,j,w,hw,h1,h2=>by
  have hl:=hL.1
  have qq:=qs_lt hq
  have wl:=hw.1
  by_cases hj:j<n∧j<L.length
  ·obtain ⟨j1,j2⟩:=hj
   have b:=hL.2 j
   have t:=tmod_in (a:=L.getD j 0) (b:=(q:Int)) b.1 (by omega)
   obtain ⟨w',h3,h4⟩:=L54_3_spec hq hn hL f (j+1) (w.set j (Int.tmod (L.getD j 0) q)) (Wd.set hw t.1 t.2) (by omega) (by omega)
   refine ⟨w',h3,fun {τ} κ=>?_⟩
   rw [runE_succ]
   show L54_3.s0 _ _ _=_
   unfold L54_3.s0
   simp only [g_,Int.toNat_natCast,Nat.mul_one,Nat.zero_add]
   rw [br_of (by simp;omega),br_of (by simp;omega),ck_of (by simp;omega),ck_of (by simp;omega),ck_of (by simp;omega),ck_of (by simp;omega),ck_of (by simp;omega),wr64 (n:=L.getD j 0) (by omega) (by omega),wsucc (j:=j) (by omega)]
   exact h4 κ
  ·refine ⟨w,hw,fun {τ} κ=>?_⟩
   rw [runE_succ]
   show L54_3.s0 _ _ _=_
   unfold L54_3.s0
   simp only [g_,Int.toNat_natCast,Nat.mul_one,Nat.zero_add]
   by_cases j1:j<n
   ·rw [br_of (by simp;omega),br_no (by simp;omega)]
   ·rw [br_no (by simp;omega)]
theorem T54_spec (hq:q∈Qs) (hn:n<2^20) {L:List Int} (hL:Bytes L):∃ w,Wd q n w∧∀ {τ:Type} (k:Nat→LS_→Option τ),T54 [.I q,.I n,.L L] k=k 0 [.L w]:=by
 have hfu:=fuel_le
 have qq:=qs_lt hq
 obtain ⟨w,hw,h⟩:=L54_3_spec hq hn hL fuel 0 _ (Wd.zeros (q:=q) (n:=n) (by omega)) (by omega) (by omega)
 refine ⟨w,hw,fun {τ} k=>?_⟩
 have h2:∀ {τ:Type} (κ:Nat→LS_→Option τ),F54 [.I q,.I n,.L L] κ=κ 0 [.N w.length,.L w]:=fun {τ} κ=>by
  unfold F54
  simp only [g_]
  rw [F32_spec (by omega)]
  simp only [sw_zero,gN_zero,gL_succ,gL_zero]
  unfold L54_3.b
  refine (h _).trans ?_
  simp only [sw_zero,gN_zero,gL_succ,gL_zero]
  rw [hw.1]
 have:=wrap_of (e:=F54.E) (p:=.v pR) (j:=0) (l2:=[.N w.length,.L w]) (c:=true&&(true&&(true&&decide (w.length=(List.take (w.length*1) (List.drop 0 w)).length)))) (ls':=[.L (List.take (w.length*1) (List.drop 0 w))]) (by intro τ κ;kernel_rfl) (by simp) (k:=k) (fun κ=>h2 κ)
 rw [Nat.mul_one,List.drop_zero,List.take_length] at this
 exact this
end
theorem wt_succ (j:Nat) (w:List Int):wt (j+1) w=wt j w+(if w.getD j 0=0 then 0 else 1):=by
 have z:∀ m k:Nat,(List.replicate m (0:Int)).getD k 0=0:=fun m k=>by
  rw [List.getD_eq_getElem?_getD,List.getElem?_replicate];split <;> rfl
 have e:∀ k,ham k (List.replicate (j+1) (0:Int)) w=ham k (List.replicate j (0:Int)) w:=fun k=>by
  induction k with
  | zero=>rfl
  | succ k ih=>rw [ham_succ,ham_succ,ih,z,z]
 unfold wt
 rw [ham_succ,e,z]
theorem L63_3_spec {w:List Int} (hs:w.length<2^60) {τ:Type} (κ:Nat→LS_→Option τ):∀ (f j:Nat),j≤w.length→w.length<f+j →
  runE L63_3 f κ 0 [.N w.length,.L w,.I (wt j w:Nat),.I j]=κ 0 [.I (wt w.length w:Nat)]
 | 0,j,h1,h2=>by omega
 | f+1,j,h1,h2=>by
  have hb:wt j w≤j:=wt_le j w
  have hw:=wt_succ j w
  rw [runE_succ]
  show L63_3.s0 _ _ _=_
  unfold L63_3.s0
  simp only [g_,Int.toNat_natCast,Nat.mul_one]
  by_cases hj:j<w.length
  ·have ih:=L63_3_spec hs κ f (j+1) (by omega) (by omega)
   rw [br_of (by simp;omega),ck_of (by simp;omega),ck_of (by simp;omega),wsucc (j:=j) (by omega)]
   by_cases h:w.getD j 0=0
   ·rw [hw,if_pos h,Nat.add_zero] at ih
    rw [br_no (by rw [h];rfl)]
    exact ih
   ·rw [hw,if_neg h] at ih
    rw [br_of (by simpa using h),wsucc (j:=wt j w) (by omega)]
    exact ih
  ·have:j=w.length:=by omega
   subst this
   rw [br_no (by simp)]
theorem F63_spec {w:List Int} (hs:w.length<2^60) {τ:Type} (k:Nat→LS_→Option τ):F63 [.L w] k=k 0 [.I (wt w.length w:Nat)]:=by
 have hfu:=fuel_le
 unfold F63 L63_3.b
 simp only [gL_zero]
 refine (L63_3_spec hs _ fuel 0 (by omega) (by omega)).trans ?_
 simp only [sw_zero,gI_zero]
end
end Go.Proofs.Yticbdgmcofjkeaa.Ai
namespace Go.Proofs.Yticbdgmcofjkeaa.Ai
open Go Go.RowKit
noncomputable section
variable {τ:Type} (t:Nat) (nx ex:Nat→LS_→Option τ) (l:LS_) (k κ:Nat→LS_→Option τ)
def F46.ps:List PV2:=[pI,pI,pM]
def F46.sh:List PA:=[(PA.mk (PV3.tup [(PV2.agg [(PV1.intC .i64 0),(PV1.intC .i64 0),PV1.nilS]),(pC 1)]) []),(PA.mk (PV3.tup [(PV2.agg [(PV1.intC .i64 0),(PV1.intC .i64 0),PV1.nilS]),(pC 2)]) []),(PA.mk (PV3.tup [(PV2.agg [iI,iI,(PV1.sl (PC0.m .i64))]),(pC 0)]) []),(PA.mk (PV3.tup [(PV2.agg [iI,iI,(PV1.sl PC0.e)]),(pC 0)]) [])]
def F46.O:Orc P:=⟨[F85.E,T48.E],[],[S87_0.E,S84_0.E],40⟩
def F46:Option τ :=
 ck ((eqM (List.length (gLL l 2)) (List.length (gLL l 2)))&&true)
 (F85 [.I (gI l 0),.I (gI l 1),.I 64,.LL (gLL l 2)]
 (fun j A=>(sw (br (!(gB A 3))
 (k 0 [])
 (S87_0 [.N (List.length (gLL l 2)),.LL (gLL l 2)]
 (fun j B=>(sw (S84_0 [.I (gI A 0),.I (gI A 1),.N (gN A 2),.I (gI l 1),.N (gN B 0),.L (gL A 4),.LN (gLN B 1),.LL (gLL B 2)]
 (fun j C=>(sw (ck (((@List.all Nat (List.take ((gN C 0)*1) (List.drop 0 (gLN C 2))) (fun y46=>(ltN y46 (List.length (gLL C 3)))))&&true)&&true)
 (ck (((eqM (gN C 0) (List.length (List.map (fun y45=>(List.getD (gLL C 3) y45 [])) (List.take ((gN C 0)*1) (List.drop 0 (gLN C 2))))))&&true)&&true)
 (T48 [.I (gI l 0),.I (gI l 1),.LL (List.map (fun y44=>(List.getD (gLL C 3) y44 [])) (List.take ((gN C 0)*1) (List.drop 0 (gLN C 2))))]
 (fun j D=>(sw (br (gtI (gI D 0) 4096)
 (k 1 [])
 (ck (((@List.all Nat (List.take ((gN C 0)*1) (List.drop 0 (gLN C 2))) (fun y43=>(ltN y43 (List.length (gLL C 3)))))&&true)&&true)
 (k 2 [.I (gI l 0),.I (gI l 1),.N (gN C 0),.LL (List.map (fun y42=>(List.getD (gLL C 3) y42 [])) (List.take ((gN C 0)*1) (List.drop 0 (gLN C 2))))])))
 (fun _=>none)) j))))
 (sw (ck (((eqM (gN C 0) 0)&&true)&&true)
 (T48 [.I (gI l 0),.I (gI l 1),.LL []]
 (fun j D=>(sw (br (gtI (gI D 0) 4096)
 (k 1 [])
 (k 3 [.I (gI l 0),.I (gI l 1),.N (gN C 0)]))
 (fun _=>none)) j)))
 (fun _=>none))) j))
 (fun _=>none)) j)))
 (sw (k 0 [])
 (sw (k 0 [])
 (fun _=>none)))) j))
theorem F46.eq:FEq F46.O 11 F46.ps F46.sh F46:=by intro τ l κ;kernel_rfl
def F46.E:Ent P:=mkF F46.eq
end
end Go.Proofs.Yticbdgmcofjkeaa.Ai
namespace Go.Proofs.Yticbdgmcofjkeaa.Ai
open Go Ma
noncomputable section
section
variable {q:Nat}
def redR (q n:Nat) (G:List (List Int)):List (List Int):=reduce (fadd q) (fmul q) (fneg q) (finv q) n G
theorem F46_no (hq:q∈Qs) (n:Int) {G:List (List Int)} (hs:G.length<2^60) (hw:∀ i,(G.getD i []).length<2^60) (h:¬ (1≤n∧n≤24∧(G.length:Int)≤64∧allWord q n G=true)) {τ:Type} (k:Nat→LS_→Option τ):F46 [.I q,.I n,.LL G] k=k 0 []:=by
 unfold F46
 simp only [g_]
 rw [ck_of (by simp),F85_spec hq n 64 hs hw]
 by_cases c:1≤n∧n≤24∧(G.length:Int)≤64
 ·rw [if_pos c]
  simp only [sw_zero,gB_zero,gB_succ]
  have:allWord q n G=false:=by
   cases e:allWord q n G with
   | false=>rfl
   | true=>exact absurd ⟨c.1,c.2.1,c.2.2,e⟩ h
  rw [this,br_of (b:=!false) rfl]
 ·rw [if_neg c]
  simp only [sw_one,sw_zero]
theorem F46_ok (hq:q∈Qs) {n:Nat} {G:List (List Int)} (n0:1≤n) (n1:n≤24) (hl:G.length≤64) (hR:Rw q n G):∀ {τ:Type} (k:Nat→LS_→Option τ),F46 [.I q,.I n,.LL G] k =
  if 4096<q^(redR q n G).length then k 1 [] else if (redR q n G).length=0 then k 3 [.I q,.I n,.N 0] else k 2 [.I q,.I n,.N (redR q n G).length,.LL (redR q n G)]:=by
 have R:Rows q n G:=⟨hR,by omega,by omega⟩
 have hqq:=qs_lt hq
 have hs:∀ i,(G.getD i []).length<2^60:=short2 fun r hr=>by
  obtain ⟨i,hi,rfl⟩:=List.getElem_of_mem hr
  have:=(hR i hi).1
  rw [List.getD_eq_getElem?_getD,List.getElem?_eq_getElem hi] at this
  simp at this
  omega
 obtain ⟨perm',fam',d1,d2⟩:=S84_0_spec hq R (Mx_copy G)
 obtain ⟨a,b,d⟩:=red_len (add:=fadd q) (mul:=fmul q) (neg:=fneg q) (inv:=finv q) n 0 0 G
 have d:=d (Nat.zero_le _)
 have e0:redR q n G=(red (fadd q) (fmul q) (fneg q) (finv q) n 0 0 G).1.take (red (fadd q) (fmul q) (fneg q) (finv q) n 0 0 G).2:=rfl
 have el:(redR q n G).length=(red (fadd q) (fmul q) (fneg q) (finv q) n 0 0 G).2:=by rw [e0,List.length_take];omega
 intro τ k
 unfold F46 T48
 simp only [g_]
 rw [ck_of (by simp),F85_spec hq n 64 (by omega) hs,if_pos ⟨by omega,by omega,by omega⟩]
 simp only [g_,sw_zero]
 rw [allWord_iff.2 fun i _ hi=>isWord_wd (hR i hi),br_no (b:=!true) rfl,S87_0_spec R]
 simp only [g_,sw_zero,gLN_zero,gLN_succ]
 rw [d2,el]
 by_cases hz:(red (fadd q) (fmul q) (fneg q) (finv q) n 0 0 G).2=0
 ·rw [if_pos hz,hz,Nat.pow_zero,if_neg (by omega),if_pos rfl]
  simp only [sw_one,sw_zero,gN_zero]
  rw [ck_of (by simp),F48_spec (by omega) (by omega) n [] (by simp)]
  simp only [sw_zero,gI_zero]
  rw [br_no (by simp [cnt])]
 ·rw [if_neg hz,if_neg hz]
  simp only [sw_zero,gN_zero,gLN_zero,gLN_succ,gLL_zero,gLL_succ,Nat.mul_one,List.drop_zero]
  have tl:=Mx_take d1 (r:=(red (fadd q) (fmul q) (fneg q) (finv q) n 0 0 G).2) (by omega)
  rw [ck_of (by rw [Mx_lt d1 (by omega)];rfl),tl,←e0,ck_of (by rw [el];simp),F48_spec (by omega) (by omega) n _ (by omega)]
  simp only [sw_zero,gI_zero]
  rw [el]
  unfold cnt
  by_cases c:q^(red (fadd q) (fmul q) (fneg q) (finv q) n 0 0 G).2≤4096
  ·rw [if_pos c,if_neg (by omega),br_no (by simp only [gtI_no];omega),ck_of (by rw [Mx_lt d1 (by omega)];rfl)]
  ·rw [if_neg c,if_pos (by omega),br_of (by simp)]
def T46 {τ:Type} (l:LS_) (k:Nat→LS_→Option τ):Option τ:=wrapB F46.E (.tup [pCode,pI]) l k
def T46.E:Ent P:=F46.E.wrap (.tup [pCode,pI])
theorem T46_ok (hq:q∈Qs) {n:Nat} {G:List (List Int)} (n0:1≤n) (n1:n≤24) (hl:G.length≤64) (hR:Rw q n G) (hc:q^(redR q n G).length≤4096) {τ:Type} (k:Nat→LS_→Option τ):T46 [.I q,.I n,.LL G] k=k 0 [.I q,.I n,.LL (redR q n G),.I 0]:=by
 have h:=fun {τ:Type} (κ:Nat→LS_→Option τ)=>(F46_ok hq n0 n1 hl hR κ).trans (if_neg (by omega))
 generalize redR q n G=M at h ⊢
 by_cases hz:M.length=0
 ·obtain rfl:=List.length_eq_zero_iff.1 hz
  exact wrap_of (e:=F46.E) (p:=.tup [pCode,pI]) (j:=3) (l2:=[.I q,.I n,.N 0]) (c:=true) (ls':=[.I q,.I n,.LL [],.I 0]) (by intro τ κ;kernel_rfl) rfl (fun κ=>(h κ).trans (if_pos rfl))
 ·exact wrap_of (e:=F46.E) (p:=.tup [pCode,pI]) (j:=2) (l2:=[.I q,.I n,.N M.length,.LL M]) (c:=(true&&(true&&(true&&(true&&(true&&(decide (M.length=M.length)&&true))))))&&(true&&true)) (ls':=[.I q,.I n,.LL M,.I 0]) (by intro τ κ;kernel_rfl) (by simp) (k:=k) (fun κ=>(h κ).trans (if_neg hz))
theorem T46_big (hq:q∈Qs) {n:Nat} {G:List (List Int)} (n0:1≤n) (n1:n≤24) (hl:G.length≤64) (hR:Rw q n G) (hc:4096<q^(redR q n G).length) {τ:Type} (k:Nat→LS_→Option τ):T46 [.I q,.I n,.LL G] k=k 0 [.I 0,.I 0,.LL [],.I 2]:=by
 have h:=fun {τ:Type} (κ:Nat→LS_→Option τ)=>(F46_ok hq n0 n1 hl hR κ).trans (if_pos hc)
 exact wrap_of (e:=F46.E) (p:=.tup [pCode,pI]) (j:=1) (l2:=[]) (c:=true) (ls':=[.I 0,.I 0,.LL [],.I 2]) (by intro τ κ;kernel_rfl) rfl (fun κ=>h κ)
theorem T46_no (hq:q∈Qs) (n:Int) {G:List (List Int)} (hs:G.length<2^60) (hw:∀ i,(G.getD i []).length<2^60) (h:¬ (1≤n∧n≤24∧(G.length:Int)≤64∧allWord q n G=true)) {τ:Type} (k:Nat→LS_→Option τ):T46 [.I q,.I n,.LL G] k=k 0 [.I 0,.I 0,.LL [],.I 1] :=
 wrap_of (e:=F46.E) (p:=.tup [pCode,pI]) (j:=0) (l2:=[]) (c:=true) (ls':=[.I 0,.I 0,.LL [],.I 1]) (by intro τ κ;kernel_rfl) rfl (fun κ=>F46_no hq n hs hw h κ)
end
end
end Go.Proofs.Yticbdgmcofjkeaa.Ai
namespace Go.Proofs.Yticbdgmcofjkeaa.Ai
open Go Ma
noncomputable section
section
variable {q n:Nat} {G:List (List Int)}
theorem F55_ok (h:Lc q n G) {l:List Int} (hw:isWord q G.length l=true) {τ:Type} (k:Nat→LS_→Option τ):F55 [.I q,.I n,.LL G,.L l] k=k 1 [.N n,.L (comb (fadd q) (fmul q) G l (List.replicate n 0))]:=by
 have wl:=isWord_to hw
 have l1:=wl.1
 have n1:=h.n1
 have gl:=h.len
 unfold F55
 simp only [g_]
 rw [ck_of (by simp),F31_spec _ _ (by omega),hw]
 simp only [sw_zero,gB_zero]
 rw [br_no (b:=!true) rfl,ck_of (by simp),F96_spec h.fq h.rows (In.of wl) (by omega)]
 simp only [sw_zero,gN_zero,gL_succ,gL_zero]
theorem L56_5_spec (h:Lc q n G) {w:List Int} (hw:Wd q n w) (a b:Int) {τ:Type} (κ:Nat→LS_→Option τ):∀ (f i:Nat) (m:List Int),i≤G.length→G.length<f+i→m=(mg G w).take i →
  runE L56_5 f κ 0 [.N w.length,.L w,.N i,.I i,.I a,.I b,.N G.length,.LL G,.L m]=κ 0 [.N w.length,.L w,.N G.length,.I a,.I b,.N G.length,.LL G,.L (mg G w)]
 | 0,i,m,h1,h2,h3=>by omega
 | f+1,i,m,h1,h2,h3=>by
  have n1:=h.n1
  have gl:=h.len
  have wl:=hw.1
  have ml:=mg_len G w
  have hm:m.length=i:=by rw [h3,List.length_take,ml];omega
  rw [runE_succ]
  show L56_5.s0 _ _ _=_
  unfold L56_5.s0
  simp only [g_,Int.toNat_natCast,Nat.mul_one,List.drop_zero]
  by_cases hi:i<G.length
  ·obtain ⟨p1,p2⟩:=h.fnzs hi
   have st:(mg G w).take (i+1)=m++[w.getD (fnz (G.getD i [])) 0]:=by rw [take_succ_getD 0 (by omega),mg_get hi,h3]
   rw [br_of (by simp;omega),ck_of (by simp;omega),ck_of (by simp;omega),ck_of (by simp),F78_spec (by omega) (by omega)]
   simp only [sw_zero,gI_zero,Int.toNat_natCast,Nat.mul_one]
   generalize fnz (G.getD i [])=pz at p1 st ⊢
   rw [ck_of (by simp;omega),ck_of (by simp;omega),ck_of (by simp;omega),wsucc (j:=i) (by omega)]
   exact L56_5_spec h hw a b κ f (i+1) _ (by omega) (by omega) st.symm
  ·have:i=G.length:=by omega
   subst this
   rw [br_no (by simp),h3,List.take_of_length_le (by omega)]
theorem F56_spec (h:Lc q n G) {w:List Int} (hs:w.length<2^60) {τ:Type} (k:Nat→LS_→Option τ):F56 [.I q,.I n,.LL G,.L w] k =
  if isWord q n w=true then (if comb (fadd q) (fmul q) G (mg G w) (List.replicate n 0)=w then k 2 [.N G.length,.L (mg G w)] else k 1 []) else k 0 []:=by
 have hfu:=fuel_le
 have n0:=h.n0
 have n1:=h.n1
 have gl:=h.len
 have qq:=qs_lt h.fq
 unfold F56
 simp only [g_]
 rw [ck_of (by simp),F31_spec _ _ hs]
 simp only [sw_zero,gB_zero]
 by_cases hw:isWord q n w=true
 ·have ww:=isWord_to hw
  have wl:=ww.1
  have ml:=mg_len G w
  rw [hw,if_pos rfl,br_no (b:=!true) rfl]
  unfold L56_5.b
  refine (L56_5_spec h ww q n _ fuel 0 _ (by omega) (by omega) (by simp)).trans ?_
  simp only [g_,sw_zero,Nat.mul_one,List.drop_zero]
  have ft:List.take G.length (mg G w)=mg G w:=List.take_of_length_le (by omega)
  have wx:=words_wd (fld q h.fq) G _ h.rows.wd (Wd.zeros (q:=q) (n:=n) (by omega)) _ (comb_mem (fld q h.fq) G (mg G w) (List.replicate n 0) (mg_len G w) (mg_in h ww))
  have xl:=wx.1
  rw [ft,ck_of (by simp [mg_len]),F96_spec h.fq h.rows (In.of (isWord_to (mg_word h ww))) ml]
  simp only [sw_zero,gN_zero,gL_succ,gL_zero,Nat.mul_one,List.drop_zero]
  have ft2:List.take n (comb (fadd q) (fmul q) G (mg G w) (List.replicate n 0))=comb (fadd q) (fmul q) G (mg G w) (List.replicate n 0):=List.take_of_length_le (by omega)
  rw [ft2,ck_of (by simp;omega),F27_spec _ _ _ (by omega)]
  simp only [sw_zero,gB_zero]
  by_cases e:comb (fadd q) (fmul q) G (mg G w) (List.replicate n 0)=w
  ·rw [if_pos e,decide_eq_true e,br_no (b:=!true) rfl]
  ·rw [if_neg e,decide_eq_false e,br_of (b:=!false) rfl]
 ·have hf:=Bool.eq_false_iff.2 hw
  rw [if_neg hw,hf,br_of (b:=!false) rfl]
theorem L58_6_spec (h:Lc q n G) {w:List Int} (hw:Wd q n w) {M:List (List Int)} (hM:M.take (dualR q n G).length=dualR q n G) {τ:Type} (κ:Nat→LS_→Option τ):∀ (f i:Nat) (m:List Int),i≤(dualR q n G).length→(dualR q n G).length<f+i→m=(synd q n G w).take i →
  runE L58_6 f κ 0 [.N w.length,.L w,.N (dualR q n G).length,.N i,.I i,.I (fp q),.I (fe q),.N (fm q).length,.L (fm q),.LL M,.L m]=κ 0 [.N (dualR q n G).length,.L (synd q n G w)]
 | 0,i,m,h1,h2,h3=>by omega
 | f+1,i,m,h1,h2,h3=>by
  obtain ⟨D,dl,_⟩:=h.dual
  have n1:=h.n1
  have gl:=h.len
  have wl:=hw.1
  have sl:=synd_len (q:=q) (n:=n) (G:=G) w
  have hm:m.length=i:=by rw [h3,List.length_take,sl];omega
  have Ml:(dualR q n G).length≤M.length:=by
   have:=congrArg List.length hM
   rw [List.length_take] at this
   omega
  rw [runE_succ]
  show L58_6.s0 _ _ _=_
  unfold L58_6.s0
  simp only [g_,Int.toNat_natCast,Nat.mul_one,Nat.zero_add,List.drop_zero]
  by_cases hi:i<(dualR q n G).length
  ·have e:M.getD i []=(dualR q n G).getD i []:=by
    rw [←hM]
    simp [List.getD_eq_getElem?_getD,List.getElem?_take,hi]
   have st:(synd q n G w).take (i+1)=m++[dot (fadd q) (fmul q) ((dualR q n G).getD i []) w n]:=by rw [take_succ_getD 0 (by omega),synd_get hi,h3]
   rw [br_of (by simp;omega),ck_of (by simp;omega),ck_of (by simp;omega),ck_of (by simp),e,F40_spec h.fq (by omega) (D.rows.wd i hi) hw]
   simp only [sw_zero,gI_zero]
   rw [ck_of (by simp;omega),wsucc (j:=i) (by omega)]
   exact L58_6_spec h hw hM κ f (i+1) _ (by omega) (by omega) st.symm
  ·have:i=(dualR q n G).length:=by omega
   subst this
   rw [br_no (by simp),h3,List.take_of_length_le (by omega)]
theorem L58_6_1_run (f:Nat) {τ:Type} (κ:Nat→LS_→Option τ) (l:LS_):runE L58_6_1 (f+1) κ 0 l=L58_6_1.s0 (runE L58_6_1 f κ) κ l:=rfl
theorem F58_ok (h:Lc q n G) {w:List Int} (hw:Wd q n w) {τ:Type} (k:Nat→LS_→Option τ):F58 [.I q,.I n,.LL G,.L w] k=k 1 [.N (dualR q n G).length,.L (synd q n G w)]:=by
 have hfu:=fuel_le
 have n1:=h.n1
 have gl:=h.len
 obtain ⟨D,dl,_⟩:=h.dual
 have wl:=hw.1
 obtain ⟨M,hM,h33⟩:=F33_spec h
 unfold F58
 simp only [g_]
 rw [ck_of (by simp),F31_spec _ _ (by omega),isWord_wd hw]
 simp only [sw_zero,gB_zero]
 rw [br_no (b:=!true) rfl,T29_spec h.fq]
 simp only [g_,sw_zero]
 rw [ck_of (by simp),h33]
 by_cases hz:(dualR q n G).length=0
 ·rw [if_pos hz]
  simp only [sw_one,sw_zero,gN_zero,gN_succ]
  unfold L58_6_1.b
  obtain ⟨f,hf⟩:∃ f,fuel=f+1:=⟨fuel-1,by omega⟩
  rw [hf,L58_6_1_run]
  unfold L58_6_1.s0
  simp only [g_]
  rw [br_no (by simp)]
  simp only [sw_zero,gN_zero,gL_succ,gL_zero]
  have:synd q n G w=[]:=List.length_eq_zero_iff.1 (by rw [synd_len,hz])
  rw [this,hz]
 ·rw [if_neg hz]
  simp only [g_,sw_zero]
  unfold L58_6.b
  refine (L58_6_spec h hw hM _ fuel 0 _ (by omega) (by omega) (by simp)).trans ?_
  simp only [sw_zero,gN_zero,gL_succ,gL_zero]
end
end
end Go.Proofs.Yticbdgmcofjkeaa.Ai
namespace Go.Proofs.Yticbdgmcofjkeaa.Ai
open Go Go.RowKit
noncomputable section
variable {τ:Type} (t:Nat) (nx ex:Nat→LS_→Option τ) (l:LS_) (k κ:Nat→LS_→Option τ)
end
end Go.Proofs.Yticbdgmcofjkeaa.Ai
namespace Go.Proofs.Yticbdgmcofjkeaa.Ai
open Go Ma
noncomputable section
theorem hist_at {q n k:Nat} {G:List (List Int)} (hk:k≤n):(hist q n G).getD k 0=((words q (fadd q) (fmul q) G (List.replicate n 0)).countP fun y=>wt n y==k:Nat):=by
 unfold hist
 rw [hist_get hk _ _ (by simp),List.getD_eq_getElem?_getD,List.getElem?_replicate,if_pos (by omega)]
 simp
theorem minw_some (n:Nat):∀ (L:List (List Int)) (m:Nat),minw n L m=m∨∃ y∈L,0<wt n y∧minw n L m=wt n y
 | [],m=>.inl rfl
 | y::L,m=>by
  have e:minw n (y::L) m=minw n L (if 0<wt n y then min m (wt n y) else m):=rfl
  rw [e]
  by_cases h:0<wt n y
  ·rw [if_pos h]
   rcases minw_some n L (min m (wt n y)) with h1 | ⟨z,hz,h2,h3⟩
   ·rcases Nat.le_total m (wt n y) with h4 | h4
    ·left;rw [h1];omega
    ·right;exact ⟨y,by simp,h,by rw [h1];omega⟩
   ·right;exact ⟨z,by simp [hz],h2,h3⟩
  ·rw [if_neg h]
   rcases minw_some n L m with h1 | ⟨z,hz,h2,h3⟩
   ·left;exact h1
   ·right;exact ⟨z,by simp [hz],h2,h3⟩
section
variable {q n:Nat} {G:List (List Int)}
theorem zero_word (h:Cd q n G):List.replicate n 0∈words q (fadd q) (fmul q) G (List.replicate n 0):=by
 have F:=fld q h.fq
 have q1:=qs_lt h.fq
 have go:∀ (G:List (List Int)),(∀ i,i<G.length→Wd q n (G.getD i []))→List.replicate n (0:Int)∈words q (fadd q) (fmul q) G (List.replicate n 0):=by
  intro G
  induction G with
  | nil=>intro _;unfold words;simp
  | cons g gs ih =>
   intro hG
   have wg:Wd q n g:=by simpa using hG 0 (by simp)
   unfold words
   refine List.mem_flatMap.2 ⟨0,by simp;omega,?_⟩
   rw [show (((0:Nat):Int))=(0:Int) from rfl,vadd_zero F wg (Wd.zeros (by omega))]
   exact ih fun i hi=>by simpa using hG (i+1) (by simpa using hi)
 exact go G h.rows.wd
theorem wt_zero (h:Cd q n G) {y:List Int} (hy:y∈words q (fadd q) (fmul q) G (List.replicate n 0)):wt n y=0↔y=List.replicate n 0:=by
 have wy:=words_wd (fld q h.fq) G _ h.rows.wd (Wd.zeros (q:=q) (n:=n) (by have:=qs_lt h.fq;omega)) y hy
 constructor
 ·intro e
  by_cases hne:y=List.replicate n 0
  ·exact hne
  ·have:=ham_pos (n:=n) (a:=List.replicate n 0) (by simp) wy.1 (fun e=>hne e.symm)
   unfold wt at e
   omega
 ·intro e
  rw [e]
  exact ham_self _ n
theorem dist_hit (h:Cd q n G) (hg:G.length≠0):0<((words q (fadd q) (fmul q) G (List.replicate n 0)).countP fun y=>wt n y==minw n (words q (fadd q) (fmul q) G (List.replicate n 0)) n):=by
 have q1:=qs_lt h.fq
 have hz:=zero_word h
 have hl:=words_len (n:=n) h.fq G (List.replicate n 0)
 obtain ⟨piv,R⟩:=h.form
 have nd:=words_nodup (fld q h.fq) R
 have hbig:1<(words q (fadd q) (fmul q) G (List.replicate n 0)).length:=by
  rw [hl]
  exact Nat.one_lt_pow hg q1.1
 rcases minw_some n (words q (fadd q) (fmul q) G (List.replicate n 0)) n with h1 | ⟨y,hy,h2,h3⟩
 ·obtain ⟨y,hy,hne⟩:∃ y∈words q (fadd q) (fmul q) G (List.replicate n 0),y≠List.replicate n 0:=by
   by_cases hex:∃ y∈words q (fadd q) (fmul q) G (List.replicate n 0),y≠List.replicate n 0
   ·exact hex
   ·exfalso
    have hall:∀ y∈words q (fadd q) (fmul q) G (List.replicate n 0),y=List.replicate n 0:=fun y hy=>by
     by_cases e:y=List.replicate n 0
     ·exact e
     ·exact absurd ⟨y,hy,e⟩ hex
    have:=filter_one (p:=fun _=>true) nd hz fun y hy=>⟨fun _=>hall y hy,fun _=>rfl⟩
    rw [List.filter_eq_self.2 (fun _ _=>rfl)] at this
    rw [this] at hbig
    simp at hbig
  refine List.countP_pos_iff.2 ⟨y,hy,?_⟩
  have hp:0<wt n y:=by
   rcases Nat.eq_zero_or_pos (wt n y) with e | e
   ·exact absurd ((wt_zero h hy).1 e) hne
   ·exact e
  have h4:=minw_all n _ n y hy hp
  have h5:=wt_le n y
  rw [beq_iff_eq]
  omega
 ·exact List.countP_pos_iff.2 ⟨y,hy,by rw [beq_iff_eq];exact h3.symm⟩
end
end
end Go.Proofs.Yticbdgmcofjkeaa.Ai
namespace Go.Proofs.Yticbdgmcofjkeaa.Ai
open Go Ma
noncomputable section
section
variable {q n:Nat} {G:List (List Int)}
theorem F74_spec (hq:q∈Qs) (hG:Rows q n G) (hc:q^G.length≤4096) {τ:Type} (k:Nat→LS_→Option τ) :
  F74 [.I q,.I n,.LL G] k=k 1 [.N (q^G.length),.LL (words q (fadd q) (fmul q) G (List.replicate n 0))]:=by
 have hfu:=fuel_le
 have h3:=hG.few
 have hq1:=qs_lt hq
 rw [←words_digs q (by omega)]
 unfold F74 L74_5.b
 simp only [g_]
 rw [ck_of (by simp),F61_spec hq n G hc h3]
 simp only [sw_zero,gI_zero]
 rw [br_no (by simp only [gtI_no];omega)]
 exact L74_spec hq hG hc _ fuel 0 (by omega) (by omega)
theorem L59_6_spec (hn:n<2^20) {W:List (List Int)} (hW:∀ y∈W,y.length=n) (hl:W.length<2^30) {τ:Type} (κ:Nat→LS_→Option τ):∀ (f i:Nat) (s:List Int),i≤W.length→W.length<f+i→Hb n s (W.length-i) →
  runE L59_6 f κ 0 [.N W.length,.N (n+1),.I i,.LL W,.L s]=κ 0 [.N (n+1),.L ((W.drop i).foldl (cnt1 n) s)]
 | 0,i,s,h1,h2,h3=>by omega
 | f+1,i,s,h1,h2,h3=>by
  rw [runE_succ]
  show L59_6.s0 _ _ _=_
  unfold L59_6.s0
  simp only [g_,Int.toNat_natCast,Nat.mul_one,Nat.zero_add]
  by_cases hi:i<W.length
  ·have yl:(W.getD i []).length=n:=by
    rw [List.getD_eq_getElem?_getD,List.getElem?_eq_getElem hi]
    exact hW _ (List.getElem_mem _)
   have hs:=h3.1
   have hw:=wt_le n (W.getD i [])
   have hb2:=h3.2 (wt n (W.getD i []))
   have st:Hb n s (W.length-(i+1)+1):=h3.mono (by omega)
   have ih:=L59_6_spec hn hW hl κ f (i+1) (cnt1 n s (W.getD i [])) (by omega) (by omega) (st.step _)
   rw [drop_cons [] hi,List.foldl_cons]
   rw [br_of (by simp;omega),ck_of (by simp;omega),ck_of (by simp;omega),ck_of (by simp),F63_spec (by omega),yl]
   simp only [sw_zero,gI_zero,Int.toNat_natCast]
   unfold cnt1 at ih ⊢
   generalize wt n (W.getD i [])=t at hw hb2 ih ⊢
   rw [ck_of (by simp;omega),ck_of (by simp;omega),ck_of (by simp;omega),ck_of (by simp;omega),wsucc (j:=i) (by omega),wr64 (n:=s.getD t 0+1) (by omega) (by omega)]
   exact ih
  ·have:i=W.length:=by omega
   subst this
   rw [br_no (by simp),List.drop_length]
   rfl
theorem F59_spec (h:Lc q n G) (hc:q^G.length≤4096) {τ:Type} (k:Nat→LS_→Option τ):F59 [.I q,.I n,.LL G] k=k 1 [.N (n+1),.L (hist q n G)]:=by
 have hfu:=fuel_le
 have n1:=h.n1
 have qq:=qs_lt h.fq
 have hl:=words_len (n:=n) h.fq G (List.replicate n 0)
 have hW:=words_wd (fld q h.fq) G _ h.rows.wd (Wd.zeros (q:=q) (n:=n) (by omega))
 unfold F59
 simp only [g_]
 rw [ck_of (by simp),F74_spec h.fq h.rows hc]
 simp only [sw_one,sw_zero,gN_zero,gLL_succ,gLL_zero]
 rw [wsucc (j:=n) (by omega)]
 simp only [Int.toNat_natCast]
 rw [ck_of (by simp;omega),←hl]
 unfold L59_6.b
 refine (L59_6_spec (by omega) (fun y hy=>(hW y hy).1) (by omega) _ fuel 0 (List.replicate (n+1) 0) (by omega) (by omega) ⟨by simp,fun j=>?_⟩).trans ?_
 ·have:(List.replicate (n+1) (0:Int)).getD j 0=0:=by rw [List.getD_eq_getElem?_getD,List.getElem?_replicate];split <;> rfl
  rw [this]
  omega
 ·simp only [sw_zero,gN_zero,gL_succ,gL_zero,List.drop_zero]
  rfl
theorem L60_5_hit (hn:n<2^20) (a b q':Int) {H:List Int} (hH:H.length=n+1) {d:Nat} (d1:d≤n) (hd:0<H.getD d 0) (hz:∀ j,1≤j→j<d→H.getD j 0=0) {τ:Type} (κ:Nat→LS_→Option τ):∀ (f i:Nat),1≤i→i≤d→n<f+i →
  runE L60_5 f κ 0 [.I a,.I b,.N (n+1),.I i,.I q',.I n,.N G.length,.LL G,.L H]=κ 0 [.I d,.I 0]
 | 0,i,h1,h2,h3=>by omega
 | f+1,i,h1,h2,h3=>by
  rw [runE_succ]
  show L60_5.s0 _ _ _=_
  unfold L60_5.s0
  simp only [g_,Int.toNat_natCast,Nat.mul_one,Nat.zero_add]
  rw [br_of (by simp;omega),ck_of (by simp;omega),ck_of (by simp;omega)]
  by_cases hi:i=d
  ·subst hi
   rw [br_of (by simpa using hd)]
  ·rw [br_no (by rw [hz i h1 (by omega)];rfl),wsucc (j:=i) (by omega)]
   exact L60_5_hit hn a b q' hH d1 hd hz κ f (i+1) (by omega) (by omega) (by omega)
theorem L60_5_miss (hn:n<2^20) (a b q':Int) {H:List Int} (hH:H.length=n+1) (hz:∀ j,1≤j→j≤n→H.getD j 0=0) {τ:Type} (κ:Nat→LS_→Option τ):∀ (f i:Nat),1≤i→i≤n+1→n+1<f+i →
  runE L60_5 f κ 0 [.I a,.I b,.N (n+1),.I i,.I q',.I n,.N G.length,.LL G,.L H]=κ 1 [.I a,.I b]
 | 0,i,h1,h2,h3=>by omega
 | f+1,i,h1,h2,h3=>by
  rw [runE_succ]
  show L60_5.s0 _ _ _=_
  unfold L60_5.s0
  simp only [g_,Int.toNat_natCast,Nat.mul_one,Nat.zero_add]
  by_cases hi:i≤n
  ·rw [br_of (by simp;omega),ck_of (by simp;omega),ck_of (by simp;omega),br_no (by rw [hz i h1 hi];rfl),wsucc (j:=i) (by omega)]
   exact L60_5_miss hn a b q' hH hz κ f (i+1) (by omega) (by omega) (by omega)
  ·rw [br_no (by simp;omega)]
theorem F60_spec (h:Cd q n G) {τ:Type} (k:Nat→LS_→Option τ):F60 [.I q,.I n,.LL G] k =
  if G.length=0 then k 2 [] else k 1 [.I ((minw n (words q (fadd q) (fmul q) G (List.replicate n 0)) n:Nat):Int),.I 0]:=by
 have hfu:=fuel_le
 have n0:=h.n0
 have n1:=h.n1
 have hc:=h.count
 have qq:=qs_lt h.fq
 have hl:(hist q n G).length=n+1:=by unfold hist;rw [hist_len];simp
 unfold F60
 simp only [g_]
 rw [ck_of (by simp),F59_spec h.lc (by omega)]
 simp only [sw_one,sw_zero,gN_zero,gL_succ,gL_zero]
 unfold L60_5.b
 by_cases hg:G.length=0
 ·rw [if_pos hg]
  have hG:=List.length_eq_zero_iff.1 hg
  refine (L60_5_miss (G:=G) (by omega) 0 0 q hl (fun j j1 j2=>?_) _ fuel 1 (by omega) (by omega) (by omega)).trans ?_
  ·rw [hist_at j2]
   have:((words q (fadd q) (fmul q) G (List.replicate n 0)).countP fun y=>wt n y==j)=0:=by
    rw [List.countP_eq_zero]
    intro y hy
    have e:wt n y=0:=(wt_zero h hy).2 (by subst hG;simpa [words] using hy)
    rw [e]
    simp
    omega
   rw [this]
   rfl
  ·simp only [sw_one,sw_zero]
 ·rw [if_neg hg]
  have hh:=dist_hit h hg
  have ml:=minw_le n (words q (fadd q) (fmul q) G (List.replicate n 0)) n
  have m1:1≤minw n (words q (fadd q) (fmul q) G (List.replicate n 0)) n:=by
   rcases minw_some n (words q (fadd q) (fmul q) G (List.replicate n 0)) n with h1 | ⟨y,_,h2,h3⟩
   ·omega
   ·omega
  refine (L60_5_hit (G:=G) (by omega) 0 0 q hl ml (by rw [hist_at ml];omega) (fun j j1 j2=>?_) _ fuel 1 (by omega) m1 (by omega)).trans ?_
  ·rw [hist_at (by omega)]
   have:((words q (fadd q) (fmul q) G (List.replicate n 0)).countP fun y=>wt n y==j)=0:=by
    rw [List.countP_eq_zero]
    intro y hy e
    have e:=beq_iff_eq.1 e
    have:=minw_all n _ n y hy (by omega)
    omega
   rw [this]
   rfl
  ·simp only [sw_zero,gI_zero,gI_succ]
end
end
end Go.Proofs.Yticbdgmcofjkeaa.Ai
namespace Go.Proofs.Yticbdgmcofjkeaa.Ai
open Go Go.RowKit
noncomputable section
variable {τ:Type} (t:Nat) (nx ex:Nat→LS_→Option τ) (l:LS_) (k κ:Nat→LS_→Option τ)
abbrev qRows:PV2:=.agg [.int .i64,.int .i64,.arr (.m .i64)]
def L52_4.H:LHead:=⟨false,true,0,49156,49156,455,199,0,[(PS.mk (pI::pI::qM::us 3 ((pp 0)::pI::pI::us 46 [])) [(oG [pI,pI,nS])])],[(Out.ret,(PS.mk (pI::pI::qM::us 3 ((pp 0)::pI::us 47 [])) [(oG [pI,pI,nS])])),((Out.exit 0),(PS.mk (pI::pI::qM::us 3 ((pp 0)::pI::us 47 [])) [(oG [pI,pI,nS])]))]⟩
def L52_4.O:Orc P:=⟨[F31.E],[],[],40⟩
def L52_4.s0:Option τ :=
 br (ltI (gI l 5) (gN l 2))
 (ck (((leI 0 (gI l 5))&&(ltI (gI l 5) (gN l 2)))&&true)
 (ck (ltN ((Int.toNat (gI l 5))*1) (List.length (gLL l 3)))
 (ck ((eqM (List.length (List.getD (gLL l 3) ((Int.toNat (gI l 5))*1) [])) (List.length (List.getD (gLL l 3) ((Int.toNat (gI l 5))*1) [])))&&true)
 (F31 [.I (gI l 0),.I (gI l 1),.L (List.getD (gLL l 3) ((Int.toNat (gI l 5))*1) [])]
 (fun j A=>(sw (br (!(gB A 0))
 (ex 0 [.I (gI l 0),.I (gI l 1),.N (gN l 2),.LL (gLL l 3),.I 1,.I 0,.I 0])
 (nx 0 [.I (gI l 0),.I (gI l 1),.N (gN l 2),.LL (gLL l 3),.I (gI l 4),.I (wr .i64 ((gI l 5)+1)),.I (gI l 6),.I (gI l 7)]))
 (fun _=>none)) j)))))
 (ex 1 [.I (gI l 0),.I (gI l 1),.N (gN l 2),.LL (gLL l 3),.I (gI l 4),.I (gI l 6),.I (gI l 7)])
theorem L52_4.e0:LEq L52_4.O L52_4.H 0 L52_4.s0:=by intro τ next κ l;kernel_rfl
def L52_4:LStep P Cf:=LStep.mk1 (by decide) L52_4.e0
def L52_4.b:Option τ:=runE L52_4 fuel κ t l
def L52_4.E:LEnt P:=LStep.E L52_4
def F52.ps:List PV2:=[pI,pI,pM]
def F52.sh:List PA:=[(PA.mk (PV3.tup [(PV2.agg [(PV1.intC .i64 0),(PV1.intC .i64 0),PV1.nilS]),(pC 1)]) []),(PA.mk (PV3.tup [(PV2.agg [iI,iI,PV1.nilS]),pI]) []),(PA.mk (PV3.tup [(PV2.agg [(PV1.intC .i64 0),(PV1.intC .i64 0),PV1.nilS]),(pC 2)]) []),(PA.mk (PV3.tup [(PV2.agg [iI,iI,(r1 0)]),(pC 0)]) [cM]),(PA.mk (PV3.tup [(PV2.agg [iI,iI,(PV1.sl PC0.e)]),(pC 0)]) [])]
def F52.O:Orc P:=⟨[F95.E,F29.E,F80.E,F61.E],[L52_4.E],[],40⟩
def F52:Option τ :=
 F95 [.I (gI l 0)]
 (fun j A=>(sw (br (!(gB A 0))
 (k 0 [])
 (br (ltI (gI l 1) 1)
 (k 0 [])
 (br (gtI (gI l 1) 24)
 (k 0 [])
 (br (gtI (((List.length (gLL l 2)):Nat):Int) 64)
 (k 0 [])
 (L52_4.b 0 [.I (gI l 0),.I (gI l 1),.N (List.length (gLL l 2)),.LL (gLL l 2),.I 0,.I 0,.I 0,.I 0]
 (fun j B=>(sw (k 1 [.I (gI B 5),.I (gI B 6),.I (gI B 4)])
 (sw (F29 [.I (gI B 0)]
 (fun j C=>(sw (ck (((eqM (gN C 2) (List.length (List.take ((gN C 2)*1) (List.drop 0 (gL C 3)))))&&true)&&((eqM (gN B 2) (List.length (gLL B 3)))&&true))
 (F80 [.I (gI C 0),.I (gI C 1),.L (List.take ((gN C 2)*1) (List.drop 0 (gL C 3))),.I (gI B 1),.LL (gLL B 3)]
 (fun j D=>(sw (ck (((eqM (gN D 0) (List.length (List.take ((gN D 0)*1) (List.drop 0 (gLL D 1)))))&&true)&&true)
 (F61 [.I (gI B 0),.I (gI B 1),.LL (List.take ((gN D 0)*1) (List.drop 0 (gLL D 1)))]
 (fun j E=>(sw (br (gtI (gI E 0) 4096)
 (k 2 [])
 (k 3 [.I (gI B 0),.I (gI B 1),.N (gN D 0),.LL (gLL D 1)]))
 (fun _=>none)) j)))
 (sw (ck (((eqM (gN D 0) 0)&&true)&&true)
 (F61 [.I (gI B 0),.I (gI B 1),.LL []]
 (fun j E=>(sw (br (gtI (gI E 0) 4096)
 (k 2 [])
 (k 4 [.I (gI B 0),.I (gI B 1),.N (gN D 0)]))
 (fun _=>none)) j)))
 (fun _=>none))) j)))
 (sw (ck ((eqM (gN B 2) (List.length (gLL B 3)))&&true)
 (F80 [.I (gI C 0),.I (gI C 1),.L [],.I (gI B 1),.LL (gLL B 3)]
 (fun j D=>(sw (ck (((eqM (gN D 0) (List.length (List.take ((gN D 0)*1) (List.drop 0 (gLL D 1)))))&&true)&&true)
 (F61 [.I (gI B 0),.I (gI B 1),.LL (List.take ((gN D 0)*1) (List.drop 0 (gLL D 1)))]
 (fun j E=>(sw (br (gtI (gI E 0) 4096)
 (k 2 [])
 (k 3 [.I (gI B 0),.I (gI B 1),.N (gN D 0),.LL (gLL D 1)]))
 (fun _=>none)) j)))
 (sw (ck (((eqM (gN D 0) 0)&&true)&&true)
 (F61 [.I (gI B 0),.I (gI B 1),.LL []]
 (fun j E=>(sw (br (gtI (gI E 0) 4096)
 (k 2 [])
 (k 4 [.I (gI B 0),.I (gI B 1),.N (gN D 0)]))
 (fun _=>none)) j)))
 (fun _=>none))) j)))
 (fun _=>none))) j))
 (fun _=>none))) j))))))
 (fun _=>none)) j)
theorem F52.eq:FEq F52.O 12 F52.ps F52.sh F52:=by intro τ l κ;kernel_rfl
def F52.E:Ent P:=mkF F52.eq
def L51_4.H:LHead:=⟨false,true,0,40964,40964,14,4,0,[(PS.mk (us 1 ((pp 0)::pB::pI::us 18 [])) [(oG [pI,pI,qM])])],[(Out.ret,(PS.mk (us 2 (pB::us 19 [])) [])),((Out.exit 0),(PS.mk (us 2 (pB::us 19 [])) []))]⟩
def L51_4.O:Orc P:=⟨[],[],[],40⟩
def L51_4.s0:Option τ :=
 br (ltI (gI l 1) (gN l 4))
 (ck (((leI 0 (gI l 1))&&(ltI (gI l 1) (gN l 4)))&&true)
 (ck (ltN ((Int.toNat (gI l 1))*1) (List.length (gLL l 5)))
 (br (gtI (((List.length (List.getD (gLL l 5) ((Int.toNat (gI l 1))*1) [])):Nat):Int) 30)
 (ex 0 [.B false])
 (nx 0 [.B (gB l 0),.I (wr .i64 ((gI l 1)+1)),.I (gI l 2),.I (gI l 3),.N (gN l 4),.LL (gLL l 5)]))))
 (ex 1 [.B (gB l 0)])
theorem L51_4.e0:LEq L51_4.O L51_4.H 0 L51_4.s0:=by intro τ next κ l;kernel_rfl
def L51_4:LStep P Cf:=LStep.mk1 (by decide) L51_4.e0
def L51_4.b:Option τ:=runE L51_4 fuel κ t l
def L51_4.E:LEnt P:=LStep.E L51_4
def F51.ps:List PV2:=[qRows]
def F51.sh:List PA:=[(PA.mk (PV3.v pB) [])]
def F51.O:Orc P:=⟨[],[L51_4.E],[],40⟩
def F51:Option τ :=
 br (gtI (((List.length (gLL l 2)):Nat):Int) 70)
 (k 0 [.B false])
 (L51_4.b 0 [.B false,.I 0,.I (gI l 0),.I (gI l 1),.N (List.length (gLL l 2)),.LL (gLL l 2)]
 (fun j A=>(sw (k 0 [.B (gB A 0)])
 (sw (k 0 [.B true])
 (fun _=>none))) j))
theorem F51.eq:FEq F51.O 10 F51.ps F51.sh F51:=by intro τ l κ;kernel_rfl
def F51.E:Ent P:=mkF F51.eq
end
end Go.Proofs.Yticbdgmcofjkeaa.Ai
namespace Go.Proofs.Yticbdgmcofjkeaa.Ai
open Go Ma Go.RowKit
noncomputable section
theorem run_any (e:LStep P Cf) {τ:Type} (s:(Nat→LS_→Option τ)→(Nat→LS_→Option τ)→LS_→Option τ) (t:Nat) (h0:∀ next κ l,e.step next κ t l=s next κ l) (κ:Nat→LS_→Option τ) (S:Nat→LS_) (n:Nat) (p:Nat→Bool) (r rx:Option τ) (hn:n<2^62)
  (hs:∀ j,j<n→∀ next:Nat→LS_→Option τ,s next κ (S j)=if p j=true then r else next t (S (j+1)))
  (hx:∀ next:Nat→LS_→Option τ,s next κ (S n)=rx):runE e fuel κ t (S 0)=if (List.range n).any p=true then r else rx:=by
 have key:∀ f j,j≤n→n<f+j→runE e f κ t (S j)=if (List.range n).any (fun i=>decide (j≤i)&&p i)=true then r else rx:=by
  intro f
  induction f with
  | zero=>intro j h1 h2;omega
  | succ f ih =>
   intro j h1 h2
   rw [runE_succ,h0]
   by_cases hj:j<n
   ·rw [hs j hj]
    by_cases hp:p j=true
    ·rw [if_pos hp,if_pos]
     simp only [List.any_eq_true,List.mem_range,Bool.and_eq_true,decide_eq_true_eq]
     exact ⟨j,hj,Nat.le_refl _,hp⟩
    ·rw [if_neg hp,ih (j+1) hj (by omega)]
     congr 1
     apply propext
     simp only [List.any_eq_true,List.mem_range,Bool.and_eq_true,decide_eq_true_eq]
     constructor
     ·rintro ⟨i,a,b,c⟩;exact ⟨i,a,by omega,c⟩
     ·rintro ⟨i,a,b,c⟩
      refine ⟨i,a,?_,c⟩
      by_cases hi:i=j
      ·subst hi;exact absurd c hp
      ·omega
   ·have:j=n:=by omega
    subst this
    rw [hx,if_neg]
    simp only [List.any_eq_true,List.mem_range,Bool.and_eq_true,decide_eq_true_eq]
    rintro ⟨i,a,b,c⟩;omega
 have:=fuel_le
 refine (key fuel 0 (by omega) (by omega)).trans ?_
 simp
def Bn (w:List Int):Prop:=∀ i,i<w.length→w.getD i 0=0∨w.getD i 0=1
theorem Bn.of {n:Nat} {w:List Int} (h:Wd 2 n w):Bn w:=fun i hi=>by
 have:=h.2 i (by rw [←h.1];exact hi)
 omega
theorem Bn.wd {w:List Int} (h:Bn w):Wd 2 w.length w:=⟨rfl,fun i hi=>by rcases h i hi with e | e <;> rw [e] <;> decide⟩
theorem Bn.bit {w:List Int} (h:Bn w) (i:Nat):w.getD i 0=0∨w.getD i 0=1:=by
 by_cases hi:i<w.length
 ·exact h i hi
 ·left;simp [List.getD_eq_getElem?_getD,List.getElem?_eq_none (Nat.le_of_not_lt hi)]
end
end Go.Proofs.Yticbdgmcofjkeaa.Ai
namespace Go.Proofs.Yticbdgmcofjkeaa.Ai
open Go Ma
noncomputable section
def okq (q:Int):Bool:=decide (0≤q)&&Qs.contains q.toNat
theorem okq_of {q:Int} (h:okq q=true):∃ p:Nat,p∈Qs∧q=p:=by
 unfold okq at h
 simp only [Bool.and_eq_true,decide_eq_true_eq,List.contains_iff_mem] at h
 exact ⟨q.toNat,h.2,by omega⟩
theorem okq_no {q:Int} (h:okq q=false):(∃ p:Nat,p∈Qb∧q=p)∨isq q=false:=by
 cases e:isq q with
 | false=>exact .inr rfl
 | true =>
  unfold isq at e
  simp only [Bool.and_eq_true,decide_eq_true_eq,List.contains_iff_mem,List.mem_append] at e
  obtain ⟨e0,e1 | e1⟩:=e
  ·rw [show okq q=true from by unfold okq;simp only [Bool.and_eq_true,decide_eq_true_eq,List.contains_iff_mem];exact ⟨e0,e1⟩] at h
   cases h
  ·exact .inl ⟨q.toNat,e1,by omega⟩
theorem qb_gt {q:Nat} (h:q∈Qb):16<q:=by
 have:Qb.all (fun q=>decide (16<q))=true:=by decide
 simpa using List.all_eq_true.1 this q h
theorem F95_bad {q:Int} (h:okq q=false) {τ:Type} (k:Nat→LS_→Option τ):F95 [.I q] k=k 0 [.B false]:=by
 unfold F95 T76
 simp only [gI_zero]
 rcases okq_no h with ⟨p,hp,rfl⟩ | hn
 ·have:=qb_gt hp
  rw [tabM_big hp]
  simp only [sw_zero]
  rw [show leI (p:Int) 16=false from by simp only [leI_no];omega]
 ·rw [tabM_no hn]
  simp only [sw_one,sw_zero]
theorem F81_bad {q:Int} (h:okq q=false) {τ:Type} (k:Nat→LS_→Option τ):(∃ (a b:Int) (m:Nat) (M:List Int),F81 [.I q] k=k 0 [.I a,.I b,.N m,.B false,.L M])∨F81 [.I q] k=k 1 []:=by
 unfold F81 T99
 simp only [gI_zero]
 rcases okq_no h with ⟨p,hp,rfl⟩ | hn
 ·have:=qb_gt hp
  refine .inl ⟨fp p,fe p,(fm p).length,fm p,?_⟩
  rw [tabM_big hp]
  simp only [g_,sw_zero]
  rw [show leI (p:Int) 16=false from by simp only [leI_no];omega]
 ·refine .inr ?_
  rw [tabM_no hn]
  simp only [sw_one,sw_zero]
theorem F85_bad {q:Int} (h:okq q=false) (n most:Int) (G:List (List Int)) {τ:Type} (k:Nat→LS_→Option τ):(∃ (a b:Int) (m:Nat) (M:List Int),F85 [.I q,.I n,.I most,.LL G] k=k 1 [.I a,.I b,.N m,.L M])∨F85 [.I q,.I n,.I most,.LL G] k=k 2 []:=by
  unfold F85
  simp only [g_]
  rcases F81_bad h (fun j l44=>(sw (br (gB l44 3)
 (br (geI n (1:Int))
 (br (leI n (24:Int))
 (br (leI (((List.length G):Nat):Int) most)
 (S117_0 [.N (List.length G),.LL G,.I q,.I n]
 (fun j l51=>(sw (k 0 [.I (gI l44 0),.I (gI l44 1),.N (gN l44 2),.B (!(gB l51 0)),.L (gL l44 4)])
 (fun _=>none)) j))
 (k 1 [.I (gI l44 0),.I (gI l44 1),.N (gN l44 2),.L (gL l44 4)]))
 (k 1 [.I (gI l44 0),.I (gI l44 1),.N (gN l44 2),.L (gL l44 4)]))
 (k 1 [.I (gI l44 0),.I (gI l44 1),.N (gN l44 2),.L (gL l44 4)]))
 (k 1 [.I (gI l44 0),.I (gI l44 1),.N (gN l44 2),.L (gL l44 4)]))
 (sw (k 2 [])
 (fun _=>none))) j) with ⟨a,b,m,M,e⟩ | e
  · refine .inl ⟨a,b,m,M,?_⟩
    rw [e]
    simp only [g_,sw_zero]
    exact br_no rfl
  · refine .inr ?_
    rw [e]
    simp only [sw_one,sw_zero]
theorem F37_bad {q:Int} (h:okq q=false) (n:Int) (G:List (List Int)) {τ:Type} (k:Nat→LS_→Option τ):F37 [.I q,.I n,.LL G] k=k 0 [.B false]:=by
 unfold F37
 simp only [g_]
 rw [ck_of (by simp)]
 generalize hk:(fun (j:Nat) (l52:LS_)=>_)=kk
 rcases F85_bad h n n G kk with ⟨a,b,m,M,e⟩ | e
 ·rw [e,←hk]
  simp only [sw_one,sw_zero]
 ·rw [e,←hk]
  simp only [sw_succ,sw_one,sw_zero]
theorem F46_bad {q:Int} (h:okq q=false) (n:Int) (G:List (List Int)) {τ:Type} (k:Nat→LS_→Option τ):F46 [.I q,.I n,.LL G] k=k 0 []:=by
 unfold F46
 simp only [g_]
 rw [ck_of (by simp)]
 generalize hk:(fun (j:Nat) (l52:LS_)=>_)=kk
 rcases F85_bad h n 64 G kk with ⟨a,b,m,M,e⟩ | e
 ·rw [e,←hk]
  simp only [sw_one,sw_zero]
 ·rw [e,←hk]
  simp only [sw_succ,sw_one,sw_zero]
theorem T46_bad {q:Int} (hq:okq q=false) (n:Int) (G:List (List Int)) {τ:Type} (k:Nat→LS_→Option τ):T46 [.I q,.I n,.LL G] k=k 0 [.I 0,.I 0,.LL [],.I 1] :=
 wrap_of (e:=F46.E) (p:=.tup [pCode,pI]) (j:=0) (l2:=[]) (c:=true) (ls':=[.I 0,.I 0,.LL [],.I 1]) (by intro τ κ;kernel_rfl) rfl (fun κ=>F46_bad hq n G κ)
theorem allWord_any {q n:Int} {G:List (List Int)}:(List.range G.length).any (fun j=>!isWord q n (G.getD j []))=!allWord q n G:=by
 unfold allWord
 rw [List.all_eq_not_any_not,Bool.not_not]
theorem L53_gen (q n:Int) {G:List (List Int)} (hs:G.length<2^60) (hw:∀ i,(G.getD i []).length<2^60) (r:Bool) {τ:Type} (κ:Nat→LS_→Option τ) :
  runE L53_4 fuel κ 0 [.B r,.I 0,.I q,.I n,.N G.length,.LL G]=if allWord q n G=true then κ 1 [.B r,.I q,.I n,.N G.length,.LL G] else κ 0 [.B false,.I q,.I n,.N G.length,.LL G]:=by
 have e:=run_any L53_4 L53_4.s0 0 (fun _ _ _=>rfl) κ (fun j=>[.B r,.I j,.I q,.I n,.N G.length,.LL G]) G.length (fun j=>!isWord q n (G.getD j [])) (κ 0 [.B false,.I q,.I n,.N G.length,.LL G]) (κ 1 [.B r,.I q,.I n,.N G.length,.LL G]) (by omega)
  (fun j hj next=>by
   unfold L53_4.s0
   simp only [g_,Int.toNat_natCast,Nat.mul_one]
   rw [br_of (by simp;omega),ck_of (by simp <;> omega),ck_of (by simp <;> omega),ck_of (by simp),F31_spec _ _ (hw j)]
   simp only [sw_zero,gB_zero]
   cases isWord q n (G.getD j []) with
   | true=>rw [br_no (b:=!true) rfl,wsucc (j:=j) (by omega)];simp
   | false=>rw [br_of (b:=!false) rfl];simp)
  (fun next=>by
   unfold L53_4.s0
   simp only [g_,Int.toNat_natCast,Nat.mul_one]
   rw [br_no (by simp)])
 refine e.trans ?_
 rw [allWord_any]
 cases allWord q n G <;> rfl
theorem L52_gen (q n:Int) {G:List (List Int)} (hs:G.length<2^60) (hw:∀ i,(G.getD i []).length<2^60) {τ:Type} (κ:Nat→LS_→Option τ) :
  runE L52_4 fuel κ 0 [.I q,.I n,.N G.length,.LL G,.I 0,.I 0,.I 0,.I 0]=if allWord q n G=true then κ 1 [.I q,.I n,.N G.length,.LL G,.I 0,.I 0,.I 0] else κ 0 [.I q,.I n,.N G.length,.LL G,.I 1,.I 0,.I 0]:=by
 have e:=run_any L52_4 L52_4.s0 0 (fun _ _ _=>rfl) κ (fun j=>[.I q,.I n,.N G.length,.LL G,.I 0,.I j,.I 0,.I 0]) G.length (fun j=>!isWord q n (G.getD j [])) (κ 0 [.I q,.I n,.N G.length,.LL G,.I 1,.I 0,.I 0]) (κ 1 [.I q,.I n,.N G.length,.LL G,.I 0,.I 0,.I 0]) (by omega)
  (fun j hj next=>by
   unfold L52_4.s0
   simp only [g_,Int.toNat_natCast,Nat.mul_one]
   rw [br_of (by simp;omega),ck_of (by simp <;> omega),ck_of (by simp <;> omega),ck_of (by simp),F31_spec _ _ (hw j)]
   simp only [sw_zero,gB_zero]
   cases isWord q n (G.getD j []) with
   | true=>rw [br_no (b:=!true) rfl,wsucc (j:=j) (by omega)];simp
   | false=>rw [br_of (b:=!false) rfl];simp)
  (fun next=>by
   unfold L52_4.s0
   simp only [g_,Int.toNat_natCast,Nat.mul_one]
   rw [br_no (by simp)])
 refine e.trans ?_
 rw [allWord_any]
 cases allWord q n G <;> rfl
theorem F53_bad {q:Int} (h:okq q=false) (n:Int) (G:List (List Int)) {τ:Type} (k:Nat→LS_→Option τ):F53 [.I q,.I n,.LL G] k=k 0 [.B false]:=by
 unfold F53
 simp only [g_]
 rw [F95_bad h]
 simp only [sw_zero,gB_zero]
 rw [br_of (b:=!false) rfl]
theorem rows_of {q n:Nat} {G:List (List Int)} (hn:n≤24) (hl:G.length≤64) (ha:allWord q n G=true):Rows q n G :=
 ⟨fun i hi=>by
  have:=isWord_iff.1 (allWord_iff.1 ha i (Nat.zero_le _) hi)
  exact ⟨by omega,fun j hj=>this.2 j (Nat.zero_le _) (by omega)⟩,by omega,by omega⟩
theorem F53_gen {q:Nat} (hq:q∈Qs) (n:Int) {G:List (List Int)} (hs:G.length<2^60) (hw:∀ i,(G.getD i []).length<2^60) {τ:Type} (k:Nat→LS_→Option τ):F53 [.I q,.I n,.LL G] k=k 0 [.B (validB q n G)]:=by
 unfold F53 validB
 simp only [g_]
 rw [F95_spec hq]
 simp only [sw_zero,gB_zero]
 rw [br_no (b:=!true) rfl]
 by_cases c1:1≤n
 ·rw [br_no (by simp only [ltI_no];omega),decide_eq_true c1]
  by_cases c2:n≤24
  ·rw [br_no (by simp only [gtI_no];omega),decide_eq_true c2]
   by_cases c3:(G.length:Int)≤n
   ·rw [br_no (by simp only [gtI_no];omega),decide_eq_true c3]
    unfold L53_4.b
    rw [L53_gen q n hs hw]
    cases ha:allWord q n G with
    | false =>
     rw [if_neg (by simp)]
     simp only [sw_zero,gB_zero,Bool.false_and,Bool.and_false]
    | true =>
     obtain ⟨n',rfl⟩:∃ n':Nat,n=n':=⟨n.toNat,by omega⟩
     have hG:=rows_of (q:=q) (n:=n') (by omega) (by omega) ha
     rw [if_pos rfl]
     simp only [g_,sw_zero,sw_succ]
     rw [F29_spec hq]
     simp only [g_,sw_zero,Nat.mul_one,List.drop_zero,List.take_length]
     rw [ck_of (by simp),F80_spec hq hG]
     have et:(n':Int).toNat=n':=rfl
     rw [et]
     obtain ⟨a,b,d⟩:=red_len (add:=fadd q) (mul:=fmul q) (neg:=fneg q) (inv:=finv q) n' 0 0 G
     have d:=d (Nat.zero_le _)
     simp only [Bool.true_and]
     by_cases hz:(red (fadd q) (fmul q) (fneg q) (finv q) n' 0 0 G).2=0
     ·rw [if_pos hz,hz]
      simp only [sw_zero,sw_succ,gN_zero,List.take_zero]
      rw [ck_of (by simp),F22_spec _ _ _ hs hw]
      simp only [sw_zero,gB_zero]
      exact congrArg (fun b=>k 0 [.B b]) (decide_eq_decide.2 Iff.rfl)
     ·rw [if_neg hz]
      simp only [g_,sw_zero,Nat.mul_one,List.drop_zero]
      rw [ck_of (by simp;omega),F22_spec _ _ _ hs hw]
      simp only [sw_zero,gB_zero]
   ·rw [br_of (by simp only [gtI_iff];omega),decide_eq_false c3]
    simp only [Bool.false_and,Bool.and_false]
  ·rw [br_of (by simp only [gtI_iff];omega),decide_eq_false c2]
   simp only [Bool.false_and,Bool.and_false]
 ·rw [br_of (by simp only [ltI_iff];omega),decide_eq_false c1]
  simp only [Bool.false_and]
theorem L61_big {q:Nat} (hq:q∈Qs) (n:Int) (G:List (List Int)) (hs:G.length<2^20) {τ:Type} (κ:Nat→LS_→Option τ):∀ (f i:Nat) (a:Int),i≤G.length→G.length<f+i→a=min ((q^i:Nat):Int) 4097 →
  runE L61_3 f κ 0 [.I a,.I i,.I q,.I n,.N G.length,.LL G]=κ 0 [.I (min ((q^G.length:Nat):Int) 4097)]
 | 0,i,a,h1,h2,h3=>by omega
 | f+1,i,a,h1,h2,h3=>by
  have hq1:=qs_lt hq
  rw [L61_run]
  unfold L61_3.s0
  simp only [g_]
  by_cases hj:i<G.length
  ·have hp:0<q^i:=Nat.pow_pos (by omega)
   have e1:((q^(i+1):Nat):Int)=((q^i:Nat):Int)*q:=by rw [Nat.pow_succ];simp
   have q2:(q:Int)≤16∧2≤(q:Int):=by omega
   have b:0≤a*q∧a*q<2^60:=by
    have a0:0≤a:=by omega
    have a1:a≤4097:=by omega
    constructor
    ·exact Int.mul_nonneg a0 (by omega)
    ·have:=Int.mul_le_mul a1 q2.1 (by omega) (by omega)
     omega
   have e2:wr .i64 (a*q)=a*q:=wr64 (by omega) (by omega)
   rw [br_of (by simp;omega),e2,wsucc (by omega)]
   refine L61_big hq n G hs κ f (i+1) _ (by omega) (by omega) ?_
   rw [e1]
   by_cases c:((q^i:Nat):Int)≤4097
   ·have:a=((q^i:Nat):Int):=by omega
    rw [this]
   ·have:a=4097:=by omega
    rw [this]
    have h5:(4097:Int)*1≤4097*q:=Int.mul_le_mul_of_nonneg_left (by omega) (by omega)
    have h6:((q^i:Nat):Int)*1≤((q^i:Nat):Int)*q:=Int.mul_le_mul_of_nonneg_left (by omega) (by omega)
    omega
  ·have:i=G.length:=by omega
   subst this
   rw [br_no (by simp),h3]
theorem F61_big {q:Nat} (hq:q∈Qs) (n:Int) (G:List (List Int)) (hs:G.length<2^20) {τ:Type} (k:Nat→LS_→Option τ) :
  F61 [.I q,.I n,.LL G] k=k 0 [.I (min ((q^G.length:Nat):Int) 4097)]:=by
 have hfu:=fuel_le
 unfold F61 L61_3.b
 simp only [g_]
 exact L61_big hq n G hs (fun j l20=>sw (k 0 [.I (gI l20 0)]) (fun _=>none) j) fuel 0 1 (by omega) (by omega) (by rw [Nat.pow_zero];rfl)
theorem F52_bad {q:Int} (h:okq q=false) (n:Int) (G:List (List Int)) {τ:Type} (k:Nat→LS_→Option τ):F52 [.I q,.I n,.LL G] k=k 0 []:=by
 unfold F52
 simp only [g_]
 rw [F95_bad h]
 simp only [sw_zero,gB_zero]
 rw [br_of (b:=!false) rfl]
theorem F52_no {q:Nat} (hq:q∈Qs) (n:Int) {G:List (List Int)} (hs:G.length<2^60) (hw:∀ i,(G.getD i []).length<2^60) (h:¬ (1≤n∧n≤24∧(G.length:Int)≤64∧allWord q n G=true)) :
  (∀ {τ:Type} (k:Nat→LS_→Option τ),F52 [.I q,.I n,.LL G] k=k 0 [])∨(∀ {τ:Type} (k:Nat→LS_→Option τ),F52 [.I q,.I n,.LL G] k=k 1 [.I 0,.I 0,.I 1]):=by
 by_cases c:1≤n∧n≤24∧(G.length:Int)≤64
 ·refine .inr fun {τ} k=>?_
  have ha:allWord q n G=false:=by
   cases e:allWord q n G with
   | false=>rfl
   | true=>exact absurd ⟨c.1,c.2.1,c.2.2,e⟩ h
  unfold F52
  simp only [g_]
  rw [F95_spec hq]
  simp only [sw_zero,gB_zero]
  unfold L52_4.b
  rw [br_no (b:=!true) rfl,br_no (by simp only [ltI_no];omega),br_no (by simp only [gtI_no];omega),br_no (by simp only [gtI_no];omega),L52_gen q n hs hw,ha,if_neg (by simp)]
  simp only [sw_zero,gI_zero,gI_succ]
 ·refine .inl fun {τ} k=>?_
  unfold F52
  simp only [g_]
  rw [F95_spec hq]
  simp only [sw_zero,gB_zero]
  rw [br_no (b:=!true) rfl]
  by_cases c1:1≤n
  ·rw [br_no (by simp only [ltI_no];omega)]
   by_cases c2:n≤24
   ·rw [br_no (by simp only [gtI_no];omega),br_of (by simp only [gtI_iff];omega)]
   ·rw [br_of (by simp only [gtI_iff];omega)]
  ·rw [br_of (by simp only [ltI_iff];omega)]
section
variable {q:Nat}
theorem F52_ok (hq:q∈Qs) {n:Nat} {G:List (List Int)} (n0:1≤n) (n1:n≤24) (hl:G.length≤64) (ha:allWord q n G=true) :
  if 4096<q^(redR q n G).length then (∀ {τ:Type} (k:Nat→LS_→Option τ),F52 [.I q,.I n,.LL G] k=k 2 [])
  else if (redR q n G).length=0 then (∀ {τ:Type} (k:Nat→LS_→Option τ),F52 [.I q,.I n,.LL G] k=k 4 [.I q,.I n,.N 0])
  else (∃ M:List (List Int),M.take (redR q n G).length=redR q n G∧(redR q n G).length≤M.length∧∀ {τ:Type} (k:Nat→LS_→Option τ),F52 [.I q,.I n,.LL G] k=k 3 [.I q,.I n,.N (redR q n G).length,.LL M]):=by
 have hqq:=qs_lt hq
 have R:=rows_of (q:=q) n1 hl ha
 have hs:∀ i,(G.getD i []).length<2^60:=by
  intro i
  rcases Nat.lt_or_ge i G.length with hi | hi
  ·rw [(R.wd i hi).1];omega
  ·simp [List.getElem?_eq_none hi]
 obtain ⟨a,b,d⟩:=red_len (add:=fadd q) (mul:=fmul q) (neg:=fneg q) (inv:=finv q) n 0 0 G
 have d:=d (Nat.zero_le _)
 have e0:redR q n G=(red (fadd q) (fmul q) (fneg q) (finv q) n 0 0 G).1.take (red (fadd q) (fmul q) (fneg q) (finv q) n 0 0 G).2:=rfl
 have el:(redR q n G).length=(red (fadd q) (fmul q) (fneg q) (finv q) n 0 0 G).2:=by rw [e0,List.length_take];omega
 have start:∀ {τ:Type} (k:Nat→LS_→Option τ),F52 [.I q,.I n,.LL G] k =
   if (red (fadd q) (fmul q) (fneg q) (finv q) n 0 0 G).2=0 then F61 [.I q,.I n,.LL []] (fun j l=>sw (br (gtI (gI l 0) 4096) (k 2 []) (k 4 [.I q,.I n,.N 0])) (fun _=>none) j)
   else F61 [.I q,.I n,.LL (redR q n G)] (fun j l=>sw (br (gtI (gI l 0) 4096) (k 2 []) (k 3 [.I q,.I n,.N (red (fadd q) (fmul q) (fneg q) (finv q) n 0 0 G).2,.LL (red (fadd q) (fmul q) (fneg q) (finv q) n 0 0 G).1])) (fun _=>none) j):=by
  intro τ k
  unfold F52
  simp only [g_]
  rw [F95_spec hq]
  simp only [sw_zero,gB_zero]
  unfold L52_4.b
  rw [br_no (b:=!true) rfl,br_no (by simp only [ltI_no];omega),br_no (by simp only [gtI_no];omega),br_no (by simp only [gtI_no];omega),L52_gen q n (by omega) hs,ha,if_pos rfl]
  simp only [g_,sw_zero,sw_succ]
  rw [F29_spec hq]
  simp only [g_,sw_zero,Nat.mul_one,List.drop_zero,List.take_length]
  rw [ck_of (by simp),F80_spec hq R]
  by_cases hz:(red (fadd q) (fmul q) (fneg q) (finv q) n 0 0 G).2=0
  ·rw [if_pos hz,if_pos hz]
   simp only [sw_zero,sw_succ,gN_zero]
   rw [ck_of (by simp)]
  ·rw [if_neg hz,if_neg hz]
   simp only [g_,sw_zero,Nat.mul_one,List.drop_zero]
   rw [ck_of (by simp;omega),←e0]
 by_cases hz:(red (fadd q) (fmul q) (fneg q) (finv q) n 0 0 G).2=0
 ·rw [if_neg (by rw [el,hz,Nat.pow_zero];omega),if_pos (by rw [el,hz])]
  intro τ k
  rw [start,if_pos hz,F61_big hq _ _ (by simp)]
  simp only [sw_zero,gI_zero]
  rw [br_no (by simp only [gtI_no,List.length_nil,Nat.pow_zero];omega)]
 ·have hp:0<q^(redR q n G).length:=Nat.pow_pos (by omega)
  by_cases c:4096<q^(redR q n G).length
  ·rw [if_pos c]
   intro τ k
   rw [start,if_neg hz,F61_big hq _ _ (by omega)]
   simp only [sw_zero,gI_zero]
   rw [br_of (by simp only [gtI_iff];omega)]
  ·rw [if_neg c,if_neg (by omega)]
   refine ⟨(red (fadd q) (fmul q) (fneg q) (finv q) n 0 0 G).1,by rw [el,←e0],by omega,fun {τ} k=>?_⟩
   rw [start,if_neg hz,F61_big hq _ _ (by omega)]
   simp only [sw_zero,gI_zero]
   rw [br_no (by simp only [gtI_no];omega),el]
def T52 {τ:Type} (l:LS_) (k:Nat→LS_→Option τ):Option τ:=wrapB F52.E (.tup [pCode,pI]) l k
def T52.E:Ent P:=F52.E.wrap (.tup [pCode,pI])
theorem T52_bad {q:Int} (hq:okq q=false) (n:Int) (G:List (List Int)) {τ:Type} (k:Nat→LS_→Option τ):T52 [.I q,.I n,.LL G] k=k 0 [.I 0,.I 0,.LL [],.I 1] :=
 wrap_of (e:=F52.E) (p:=.tup [pCode,pI]) (j:=0) (l2:=[]) (c:=true) (ls':=[.I 0,.I 0,.LL [],.I 1]) (by intro τ κ;kernel_rfl) rfl (fun κ=>F52_bad hq n G κ)
theorem T52_no (hq:q∈Qs) (n:Int) {G:List (List Int)} (hs:G.length<2^60) (hw:∀ i,(G.getD i []).length<2^60) (h:¬ (1≤n∧n≤24∧(G.length:Int)≤64∧allWord q n G=true)) {τ:Type} (k:Nat→LS_→Option τ):T52 [.I q,.I n,.LL G] k=k 0 [.I 0,.I 0,.LL [],.I 1]:=by
 rcases F52_no hq n hs hw h with e | e
 ·exact wrap_of (e:=F52.E) (p:=.tup [pCode,pI]) (j:=0) (l2:=[]) (c:=true) (ls':=[.I 0,.I 0,.LL [],.I 1]) (by intro τ κ;kernel_rfl) rfl (fun κ=>e κ)
 ·exact wrap_of (e:=F52.E) (p:=.tup [pCode,pI]) (j:=1) (l2:=[.I 0,.I 0,.I 1]) (c:=true) (ls':=[.I 0,.I 0,.LL [],.I 1]) (by intro τ κ;kernel_rfl) rfl (fun κ=>e κ)
theorem T52_ok (hq:q∈Qs) {n:Nat} {G:List (List Int)} (n0:1≤n) (n1:n≤24) (hl:G.length≤64) (ha:allWord q n G=true) {τ:Type} (k:Nat→LS_→Option τ):T52 [.I q,.I n,.LL G] k=if 4096<q^(redR q n G).length then k 0 [.I 0,.I 0,.LL [],.I 2] else k 0 [.I q,.I n,.LL (redR q n G),.I 0]:=by
 have h:=F52_ok hq n0 n1 hl ha
 by_cases c:4096<q^(redR q n G).length
 ·rw [if_pos c] at h ⊢
  exact wrap_of (e:=F52.E) (p:=.tup [pCode,pI]) (j:=2) (l2:=[]) (c:=true) (ls':=[.I 0,.I 0,.LL [],.I 2]) (by intro τ κ;kernel_rfl) rfl (fun κ=>h κ)
 ·rw [if_neg c] at h ⊢
  generalize redR q n G=A at h ⊢
  by_cases hz:A.length=0
  ·rw [if_pos hz] at h
   obtain rfl:=List.length_eq_zero_iff.1 hz
   exact wrap_of (e:=F52.E) (p:=.tup [pCode,pI]) (j:=4) (l2:=[.I q,.I n,.N 0]) (c:=true) (ls':=[.I q,.I n,.LL [],.I 0]) (by intro τ κ;kernel_rfl) rfl (fun κ=>h κ)
  ·rw [if_neg hz] at h
   obtain ⟨M,m1,m2,h⟩:=h
   have:=wrap_of (e:=F52.E) (p:=.tup [pCode,pI]) (j:=3) (l2:=[.I q,.I n,.N A.length,.LL M]) (c:=(true&&(true&&(true&&(true&&(true&&(decide (A.length=(List.take (A.length*1) (List.drop 0 M)).length)&&true))))))&&(true&&true)) (ls':=[.I q,.I n,.LL (List.take (A.length*1) (List.drop 0 M)),.I 0]) (by intro τ κ;kernel_rfl) (by simp;omega) (k:=k) (fun κ=>h κ)
   rw [Nat.mul_one,List.drop_zero,m1] at this
   exact this
theorem T46_all (hq:q∈Qs) {n:Nat} {G:List (List Int)} (n0:1≤n) (n1:n≤24) (hl:G.length≤64) (ha:allWord q n G=true) {τ:Type} (k:Nat→LS_→Option τ):T46 [.I q,.I n,.LL G] k=if 4096<q^(redR q n G).length then k 0 [.I 0,.I 0,.LL [],.I 2] else k 0 [.I q,.I n,.LL (redR q n G),.I 0]:=by
 have R:=rows_of (q:=q) n1 hl ha
 by_cases c:4096<q^(redR q n G).length
 ·rw [if_pos c,T46_big hq n0 n1 hl R.wd c]
 ·rw [if_neg c,T46_ok hq n0 n1 hl R.wd (by omega)]
end
def smallB (G:List (List Int)):Bool:=decide (G.length≤70)&&!((List.range G.length).any fun i=>decide (30<(G.getD i []).length))
theorem F51_spec (a b:Int) {G:List (List Int)} {τ:Type} (k:Nat→LS_→Option τ):F51 [.I a,.I b,.LL G] k=k 0 [.B (smallB G)]:=by
 unfold F51 smallB L51_4.b
 simp only [g_]
 by_cases c:G.length≤70
 ·rw [br_no (by simp only [gtI_no];omega),decide_eq_true c]
  refine (run_any L51_4 L51_4.s0 0 (fun _ _ _=>rfl) _ (fun j=>[.B false,.I j,.I a,.I b,.N G.length,.LL G]) G.length (fun j=>decide (30<(G.getD j []).length)) (k 0 [.B false]) (k 0 [.B true]) (by omega) (fun j hj next=>?_) (fun next=>?_)).trans ?_
  ·unfold L51_4.s0
   simp only [g_,Int.toNat_natCast,Nat.mul_one]
   rw [br_of (by simp;omega),ck_of (by simp <;> omega),ck_of (by simp <;> omega)]
   by_cases h:30<(G.getD j []).length
   ·rw [br_of (by simp only [gtI_iff];omega),if_pos (decide_eq_true h)]
    rfl
   ·rw [br_no (by simp only [gtI_no];omega),if_neg (by rw [decide_eq_true_eq];exact h),wsucc (j:=j) (by omega)]
  ·unfold L51_4.s0
   simp only [g_,Int.toNat_natCast,Nat.mul_one]
   rw [br_no (by simp)]
   rfl
  ·cases (List.range G.length).any fun i=>decide (30<(G.getD i []).length) <;> rfl
 ·rw [br_of (by simp only [gtI_iff];omega),decide_eq_false c]
  simp only [Bool.false_and]
def T51 {τ:Type} (l:LS_) (k:Nat→LS_→Option τ):Option τ:=F51 l k
def T51.E:Ent P:=F51.E
def T53 {τ:Type} (l:LS_) (k:Nat→LS_→Option τ):Option τ:=F53 l k
def T53.E:Ent P:=F53.E
theorem smallB_short {G:List (List Int)} (h:smallB G=true):G.length<2^60∧∀ i,(G.getD i []).length<2^60:=by
 unfold smallB at h
 simp only [Bool.and_eq_true,decide_eq_true_eq,Bool.not_eq_true',List.any_eq_false,List.mem_range] at h
 refine ⟨by omega,fun i=>?_⟩
 rcases Nat.lt_or_ge i G.length with hi | hi
 ·have:=h.2 i hi;omega
 ·simp [List.getElem?_eq_none hi]
end
end Go.Proofs.Yticbdgmcofjkeaa.Ai
namespace Go.Proofs.Yticbdgmcofjkeaa.Ai
open Go Ma
noncomputable section
section
variable {q n:Nat} {G:List (List Int)}
def T55 {τ:Type} (l:LS_) (k:Nat→LS_→Option τ):Option τ:=wrapB F55.E (.tup [pR,pI]) l k
def T55.E:Ent P:=F55.E.wrap (.tup [pR,pI])
theorem T55_ok (h:Lc q n G) {l:List Int} (hw:isWord q G.length l=true) {τ:Type} (k:Nat→LS_→Option τ):T55 [.I q,.I n,.LL G,.L l] k=k 0 [.L (comb (fadd q) (fmul q) G l (List.replicate n 0)),.I 0]:=by
 have h2:=fun {τ:Type} (κ:Nat→LS_→Option τ)=>F55_ok h hw κ
 have hl:=isWord_to hw
 have wx:=words_wd (fld q h.fq) G _ h.rows.wd (Wd.zeros (q:=q) (n:=n) (by have:=qs_lt h.fq;omega)) _ (comb_mem (fld q h.fq) G l (List.replicate n 0) hl.1 fun j hj=>hl.2 j (by rw [←hl.1];exact hj))
 have xl:=wx.1
 generalize comb (fadd q) (fmul q) G l (List.replicate n 0)=M at h2 xl ⊢
 have:=wrap_of (e:=F55.E) (p:=.tup [pR,pI]) (j:=1) (l2:=[.N M.length,.L M]) (c:=(true&&(true&&true))&&(true&&(true&&(decide (M.length=(List.take (M.length*1) (List.drop 0 M)).length)&&(true&&true))))) (ls':=[.L (List.take (M.length*1) (List.drop 0 M)),.I 0]) (by intro τ κ;kernel_rfl) (by simp) (k:=k) (fun κ=>by rw [xl];exact h2 κ)
 rw [Nat.mul_one,List.drop_zero,List.take_length] at this
 exact this
def T56 {τ:Type} (l:LS_) (k:Nat→LS_→Option τ):Option τ:=wrapB F56.E (.tup [pR,pI]) l k
def T56.E:Ent P:=F56.E.wrap (.tup [pR,pI])
theorem T56_ok (h:Lc q n G) {w:List Int} (hw:Wd q n w) (hs:Sp q n (fadd q) (fmul q) G w) {τ:Type} (k:Nat→LS_→Option τ):T56 [.I q,.I n,.LL G,.L w] k=k 0 [.L (mg G w),.I 0]:=by
 have n1:=h.n1
 have wl:=hw.1
 have h2:=fun {τ:Type} (κ:Nat→LS_→Option τ)=>((F56_spec h (w:=w) (by omega) κ).trans (if_pos (isWord_wd hw))).trans (if_pos ((mg_comb h hw).2 hs))
 have ml:=mg_len G w
 generalize mg G w=M at h2 ml ⊢
 have:=wrap_of (e:=F56.E) (p:=.tup [pR,pI]) (j:=2) (l2:=[.N M.length,.L M]) (c:=(true&&(true&&true))&&(true&&(true&&(decide (M.length=(List.take (M.length*1) (List.drop 0 M)).length)&&(true&&true))))) (ls':=[.L (List.take (M.length*1) (List.drop 0 M)),.I 0]) (by intro τ κ;kernel_rfl) (by simp) (k:=k) (fun κ=>by rw [ml];exact h2 κ)
 rw [Nat.mul_one,List.drop_zero,List.take_length] at this
 exact this
theorem T56_not (h:Lc q n G) {w:List Int} (hw:Wd q n w) (hs:¬ Sp q n (fadd q) (fmul q) G w) {τ:Type} (k:Nat→LS_→Option τ):T56 [.I q,.I n,.LL G,.L w] k=k 0 [.L [],.I 6]:=by
 have n1:=h.n1
 have wl:=hw.1
 have h2:=fun {τ:Type} (κ:Nat→LS_→Option τ)=>((F56_spec h (w:=w) (by omega) κ).trans (if_pos (isWord_wd hw))).trans (if_neg fun e=>hs ((mg_comb h hw).1 e))
 exact wrap_of (e:=F56.E) (p:=.tup [pR,pI]) (j:=1) (l2:=[]) (c:=true) (ls':=[.L [],.I 6]) (by intro τ κ;kernel_rfl) rfl (fun κ=>h2 κ)
def T58 {τ:Type} (l:LS_) (k:Nat→LS_→Option τ):Option τ:=wrapB F58.E (.tup [pR,pI]) l k
def T58.E:Ent P:=F58.E.wrap (.tup [pR,pI])
theorem T58_ok (h:Lc q n G) {w:List Int} (hw:Wd q n w) {τ:Type} (k:Nat→LS_→Option τ):T58 [.I q,.I n,.LL G,.L w] k=k 0 [.L (synd q n G w),.I 0]:=by
 have h2:=fun {τ:Type} (κ:Nat→LS_→Option τ)=>F58_ok h hw κ
 have sl:=synd_len (q:=q) (n:=n) (G:=G) w
 generalize synd q n G w=M at h2 sl ⊢
 have:=wrap_of (e:=F58.E) (p:=.tup [pR,pI]) (j:=1) (l2:=[.N M.length,.L M]) (c:=(true&&(true&&true))&&(true&&(true&&(decide (M.length=(List.take (M.length*1) (List.drop 0 M)).length)&&(true&&true))))) (ls':=[.L (List.take (M.length*1) (List.drop 0 M)),.I 0]) (by intro τ κ;kernel_rfl) (by simp) (k:=k) (fun κ=>by rw [sl];exact h2 κ)
 rw [Nat.mul_one,List.drop_zero,List.take_length] at this
 exact this
def T59 {τ:Type} (l:LS_) (k:Nat→LS_→Option τ):Option τ:=wrapB F59.E (.tup [pR,pI]) l k
def T59.E:Ent P:=F59.E.wrap (.tup [pR,pI])
theorem T59_spec (h:Cd q n G) {τ:Type} (k:Nat→LS_→Option τ):T59 [.I q,.I n,.LL G] k=k 0 [.L (hist q n G),.I 0]:=by
 have h2:=fun {τ:Type} (κ:Nat→LS_→Option τ)=>F59_spec h.lc (by have:=h.count;omega) κ
 have hl:(hist q n G).length=n+1:=by unfold hist;rw [hist_len];simp
 generalize hist q n G=M at h2 hl ⊢
 have:=wrap_of (e:=F59.E) (p:=.tup [pR,pI]) (j:=1) (l2:=[.N M.length,.L M]) (c:=(true&&(true&&true))&&(true&&(true&&(decide (M.length=(List.take (M.length*1) (List.drop 0 M)).length)&&(true&&true))))) (ls':=[.L (List.take (M.length*1) (List.drop 0 M)),.I 0]) (by intro τ κ;kernel_rfl) (by simp) (k:=k) (fun κ=>by rw [hl];exact h2 κ)
 rw [Nat.mul_one,List.drop_zero,List.take_length] at this
 exact this
def T60 {τ:Type} (l:LS_) (k:Nat→LS_→Option τ):Option τ:=wrapB F60.E (.tup [pI,pI]) l k
def T60.E:Ent P:=F60.E.wrap (.tup [pI,pI])
theorem T60_spec (h:Cd q n G) {τ:Type} (k:Nat→LS_→Option τ):T60 [.I q,.I n,.LL G] k =
  if G.length=0 then k 0 [.I 0,.I 4] else k 0 [.I ((minw n (words q (fadd q) (fmul q) G (List.replicate n 0)) n:Nat):Int),.I 0]:=by
 by_cases hg:G.length=0
 ·rw [if_pos hg]
  exact wrap_of (e:=F60.E) (p:=.tup [pI,pI]) (j:=2) (l2:=[]) (c:=true) (ls':=[.I 0,.I 4]) (by intro τ κ;kernel_rfl) rfl (fun κ=>(F60_spec h κ).trans (if_pos hg))
 ·rw [if_neg hg]
  have h2:=fun {τ:Type} (κ:Nat→LS_→Option τ)=>(F60_spec h κ).trans (if_neg hg)
  generalize ((minw n (words q (fadd q) (fmul q) G (List.replicate n 0)) n:Nat):Int)=M at h2 ⊢
  exact wrap_of (e:=F60.E) (p:=.tup [pI,pI]) (j:=1) (l2:=[.I M,.I 0]) (c:=true) (ls':=[.I M,.I 0]) (by intro τ κ;kernel_rfl) rfl (fun κ=>h2 κ)
def T61 {τ:Type} (l:LS_) (k:Nat→LS_→Option τ):Option τ:=F61 l k
def T61.E:Ent P:=F61.E
def T22 {τ:Type} (l:LS_) (k:Nat→LS_→Option τ):Option τ:=F22 l k
def T22.E:Ent P:=F22.E
end
end
end Go.Proofs.Yticbdgmcofjkeaa.Ai
namespace Go.Proofs.Yticbdgmcofjkeaa.Ai
open Go Go.RowKit
noncomputable section
abbrev qRaw13:PV2:=.agg [.int .u8,.int .u8,.int .u8,.arr (.i .u8)]
variable {τ:Type} (t:Nat) (nx ex:Nat→LS_→Option τ) (l:LS_) (k κ:Nat→LS_→Option τ)
def F13.ps:List PV2:=[qRows,qRaw13,(PV2.agg [(PV1.arr (PC0.i IntKind.u8)),(PV1.arr (PC0.i IntKind.u8))])]
def F13.sh:List PA:=[(PA.mk (PV3.v pB) [])]
def F13.O:Orc P:=⟨[T34.E,T51.E,T46.E,T52.E,T39.E,T37.E,T53.E,T35.E,T54.E,T49.E,T55.E,T47.E,T56.E,T57.E,T58.E,T27.E,T36.E,T33.E,T42.E,T59.E,T60.E,T50.E,T41.E,T25.E,T22.E,T48.E,T61.E,T38.E],[],[],40⟩
def F13:Option τ :=
 T34 []
 (fun j A=>(sw (br (!(gB A 0))
 (k 0 [.B false])
 (ck (((eqM (List.length (gLL l 2)) (List.length (gLL l 2)))&&true)&&true)
 (T51 [.I (gI l 0),.I (gI l 1),.LL (gLL l 2)]
 (fun j B=>(sw (br (gB B 0)
 (ck ((eqM (List.length (gLL l 2)) (List.length (gLL l 2)))&&true)
 (T46 [.I (gI l 0),.I (gI l 1),.LL (gLL l 2)]
 (fun j C=>(sw (ck ((eqM (List.length (gLL l 2)) (List.length (gLL l 2)))&&true)
 (T52 [.I (gI l 0),.I (gI l 1),.LL (gLL l 2)]
 (fun j D=>(sw (br ((gI C 3) != (gI D 3))
 (k 0 [.B false])
 (ck (((eqM (List.length (gLL C 2)) (List.length (gLL C 2)))&&true)&&(((eqM (List.length (gLL D 2)) (List.length (gLL D 2)))&&true)&&true))
 (T39 [.I (gI C 0),.I (gI C 1),.LL (gLL C 2),.I (gI D 0),.I (gI D 1),.LL (gLL D 2)]
 (fun j E=>(sw (br (!(gB E 0))
 (k 0 [.B false])
 (ck (((eqM (List.length (gLL l 2)) (List.length (gLL l 2)))&&true)&&true)
 (T37 [.I (gI l 0),.I (gI l 1),.LL (gLL l 2)]
 (fun j F=>(sw (ck (((eqM (List.length (gLL l 2)) (List.length (gLL l 2)))&&true)&&true)
 (T53 [.I (gI l 0),.I (gI l 1),.LL (gLL l 2)]
 (fun j G=>(sw (br (!((gB F 0)==(gB G 0)))
 (k 0 [.B false])
 (ck (((eqM (List.length (gL l 6)) (List.length (gL l 6)))&&true)&&true)
 (T35 [.I (gI l 3),.I (gI l 4),.I (gI l 5),.L (gL l 6)]
 (fun j H=>(sw (ck ((eqM (List.length (gL l 7)) (List.length (gL l 7)))&&true)
 (T54 [.I (gI H 0),.I (gI H 1),.L (gL l 7)]
 (fun j M=>(sw (ck ((eqM (List.length (gL l 8)) (List.length (gL l 8)))&&true)
 (T54 [.I (gI H 0),.I (((List.length (gLL H 2)):Nat):Int),.L (gL l 8)]
 (fun j N=>(sw (ck (((eqM (List.length (gLL H 2)) (List.length (gLL H 2)))&&true)&&((eqM (List.length (gL N 0)) (List.length (gL N 0)))&&true))
 (T49 [.I (gI H 0),.I (gI H 1),.LL (gLL H 2),.L (gL N 0)]
 (fun j Q=>(sw (ck (((eqM (List.length (gLL H 2)) (List.length (gLL H 2)))&&true)&&((eqM (List.length (gL N 0)) (List.length (gL N 0)))&&true))
 (T55 [.I (gI H 0),.I (gI H 1),.LL (gLL H 2),.L (gL N 0)]
 (fun j S=>(sw (ck (((eqM (List.length (gLL H 2)) (List.length (gLL H 2)))&&true)&&((eqM (List.length (gL M 0)) (List.length (gL M 0)))&&true))
 (T47 [.I (gI H 0),.I (gI H 1),.LL (gLL H 2),.L (gL M 0)]
 (fun j T=>(sw (ck (((eqM (List.length (gLL H 2)) (List.length (gLL H 2)))&&true)&&((eqM (List.length (gL M 0)) (List.length (gL M 0)))&&true))
 (T56 [.I (gI H 0),.I (gI H 1),.LL (gLL H 2),.L (gL M 0)]
 (fun j U=>(sw (ck (((eqM (List.length (gLL H 2)) (List.length (gLL H 2)))&&true)&&((eqM (List.length (gL M 0)) (List.length (gL M 0)))&&true))
 (T57 [.I (gI H 0),.I (gI H 1),.LL (gLL H 2),.L (gL M 0)]
 (fun j V=>(sw (ck (((eqM (List.length (gLL H 2)) (List.length (gLL H 2)))&&true)&&((eqM (List.length (gL M 0)) (List.length (gL M 0)))&&true))
 (T58 [.I (gI H 0),.I (gI H 1),.LL (gLL H 2),.L (gL M 0)]
 (fun j W=>(sw (br ((gI Q 1) != (gI S 1))
 (k 0 [.B false])
 (br ((gI T 1) != (gI U 1))
 (k 0 [.B false])
 (br ((gI V 1) != (gI W 1))
 (k 0 [.B false])
 (ck ((eqM (List.length (gL Q 0)) (List.length (gL Q 0)))&&((eqM (List.length (gL S 0)) (List.length (gL S 0)))&&true))
 (T27 [.L (gL Q 0),.L (gL S 0)]
 (fun j X=>(sw (br (!(gB X 0))
 (k 0 [.B false])
 (ck ((eqM (List.length (gL T 0)) (List.length (gL T 0)))&&((eqM (List.length (gL U 0)) (List.length (gL U 0)))&&true))
 (T27 [.L (gL T 0),.L (gL U 0)]
 (fun j Y=>(sw (br (!(gB Y 0))
 (k 0 [.B false])
 (ck ((eqM (List.length (gL V 0)) (List.length (gL V 0)))&&((eqM (List.length (gL W 0)) (List.length (gL W 0)))&&true))
 (T27 [.L (gL V 0),.L (gL W 0)]
 (fun j Z=>(sw (br (!(gB Z 0))
 (k 0 [.B false])
 (ck (((eqM (List.length (gLL H 2)) (List.length (gLL H 2)))&&true)&&true)
 (T36 [.I (gI H 0),.I (gI H 1),.LL (gLL H 2)]
 (fun j z19=>(sw (ck (((eqM (List.length (gLL H 2)) (List.length (gLL H 2)))&&true)&&true)
 (T33 [.I (gI H 0),.I (gI H 1),.LL (gLL H 2)]
 (fun j z20=>(sw (ck (((eqM (List.length (gLL z19 2)) (List.length (gLL z19 2)))&&true)&&(((eqM (List.length (gLL z20 2)) (List.length (gLL z20 2)))&&true)&&true))
 (T39 [.I (gI z19 0),.I (gI z19 1),.LL (gLL z19 2),.I (gI z20 0),.I (gI z20 1),.LL (gLL z20 2)]
 (fun j z21=>(sw (br (!(gB z21 0))
 (k 0 [.B false])
 (ck (((eqM (List.length (gLL H 2)) (List.length (gLL H 2)))&&true)&&true)
 (T42 [.I (gI H 0),.I (gI H 1),.LL (gLL H 2)]
 (fun j z22=>(sw (ck (((eqM (List.length (gLL H 2)) (List.length (gLL H 2)))&&true)&&true)
 (T59 [.I (gI H 0),.I (gI H 1),.LL (gLL H 2)]
 (fun j z23=>(sw (ck (((eqM (List.length (gLL H 2)) (List.length (gLL H 2)))&&true)&&true)
 (T60 [.I (gI H 0),.I (gI H 1),.LL (gLL H 2)]
 (fun j z24=>(sw (ck (((eqM (List.length (gLL H 2)) (List.length (gLL H 2)))&&true)&&true)
 (T50 [.I (gI H 0),.I (gI H 1),.LL (gLL H 2)]
 (fun j z25=>(sw (br ((gI z22 1)==(gI z23 1))
 (ck ((eqM (List.length (gL z22 0)) (List.length (gL z22 0)))&&((eqM (List.length (gL z23 0)) (List.length (gL z23 0)))&&true))
 (T27 [.L (gL z22 0),.L (gL z23 0)]
 (fun j z26=>(sw (br (gB z26 0)
 (br ((gI z24 0)==(gI z25 0))
 (br ((gI z24 1)==(gI z25 1))
 (ck (((eqM (List.length (gLL H 2)) (List.length (gLL H 2)))&&true)&&true)
 (T41 [.I (gI H 0),.I (gI H 1),.LL (gLL H 2)]
 (fun j z27=>(sw (ck (((eqM (List.length (gLL H 2)) (List.length (gLL H 2)))&&true)&&true)
 (T25 [.I (gI H 0),.I (gI H 1),.LL (gLL H 2)]
 (fun j z28=>(sw (ck ((eqM (List.length (gLL z27 0)) (List.length (gLL z27 0)))&&((eqM (List.length (gLL z28 0)) (List.length (gLL z28 0)))&&true))
 (T22 [.LL (gLL z27 0),.LL (gLL z28 0)]
 (fun j z29=>(sw (br (gB z29 0)
 (ck (((eqM (List.length (gLL H 2)) (List.length (gLL H 2)))&&true)&&true)
 (T48 [.I (gI H 0),.I (gI H 1),.LL (gLL H 2)]
 (fun j z30=>(sw (ck (((eqM (List.length (gLL H 2)) (List.length (gLL H 2)))&&true)&&true)
 (T61 [.I (gI H 0),.I (gI H 1),.LL (gLL H 2)]
 (fun j z31=>(sw (br ((gI z30 0)==(gI z31 0))
 (ck (((eqM (List.length (gLL H 2)) (List.length (gLL H 2)))&&true)&&true)
 (T38 [.I (gI H 0),.I (gI H 1),.LL (gLL H 2)]
 (fun j z32=>(sw (br ((gI z32 0)==(((List.length (gLL H 2)):Nat):Int))
 (ck (((eqM (List.length (gLL H 2)) (List.length (gLL H 2)))&&true)&&true)
 (T37 [.I (gI H 0),.I (gI H 1),.LL (gLL H 2)]
 (fun j z33=>(sw (br (gB z33 0)
 (k 0 [.B (gB A 0)])
 (k 0 [.B false]))
 (fun _=>none)) j)))
 (k 0 [.B false]))
 (fun _=>none)) j)))
 (k 0 [.B false]))
 (fun _=>none)) j)))
 (fun _=>none)) j)))
 (k 0 [.B false]))
 (fun _=>none)) j)))
 (fun _=>none)) j)))
 (fun _=>none)) j)))
 (k 0 [.B false]))
 (k 0 [.B false]))
 (k 0 [.B false]))
 (fun _=>none)) j)))
 (k 0 [.B false]))
 (fun _=>none)) j)))
 (fun _=>none)) j)))
 (fun _=>none)) j)))
 (fun _=>none)) j))))
 (fun _=>none)) j)))
 (fun _=>none)) j)))
 (fun _=>none)) j))))
 (fun _=>none)) j))))
 (fun _=>none)) j))))
 (fun _=>none)) j))))))
 (fun _=>none)) j)))
 (fun _=>none)) j)))
 (fun _=>none)) j)))
 (fun _=>none)) j)))
 (fun _=>none)) j)))
 (fun _=>none)) j)))
 (fun _=>none)) j)))
 (fun _=>none)) j)))
 (fun _=>none)) j))))
 (fun _=>none)) j)))
 (fun _=>none)) j))))
 (fun _=>none)) j))))
 (fun _=>none)) j)))
 (fun _=>none)) j)))
 (ck (((eqM (List.length (gL l 6)) (List.length (gL l 6)))&&true)&&true)
 (T35 [.I (gI l 3),.I (gI l 4),.I (gI l 5),.L (gL l 6)]
 (fun j C=>(sw (ck ((eqM (List.length (gL l 7)) (List.length (gL l 7)))&&true)
 (T54 [.I (gI C 0),.I (gI C 1),.L (gL l 7)]
 (fun j D=>(sw (ck ((eqM (List.length (gL l 8)) (List.length (gL l 8)))&&true)
 (T54 [.I (gI C 0),.I (((List.length (gLL C 2)):Nat):Int),.L (gL l 8)]
 (fun j E=>(sw (ck (((eqM (List.length (gLL C 2)) (List.length (gLL C 2)))&&true)&&((eqM (List.length (gL E 0)) (List.length (gL E 0)))&&true))
 (T49 [.I (gI C 0),.I (gI C 1),.LL (gLL C 2),.L (gL E 0)]
 (fun j F=>(sw (ck (((eqM (List.length (gLL C 2)) (List.length (gLL C 2)))&&true)&&((eqM (List.length (gL E 0)) (List.length (gL E 0)))&&true))
 (T55 [.I (gI C 0),.I (gI C 1),.LL (gLL C 2),.L (gL E 0)]
 (fun j G=>(sw (ck (((eqM (List.length (gLL C 2)) (List.length (gLL C 2)))&&true)&&((eqM (List.length (gL D 0)) (List.length (gL D 0)))&&true))
 (T47 [.I (gI C 0),.I (gI C 1),.LL (gLL C 2),.L (gL D 0)]
 (fun j H=>(sw (ck (((eqM (List.length (gLL C 2)) (List.length (gLL C 2)))&&true)&&((eqM (List.length (gL D 0)) (List.length (gL D 0)))&&true))
 (T56 [.I (gI C 0),.I (gI C 1),.LL (gLL C 2),.L (gL D 0)]
 (fun j M=>(sw (ck (((eqM (List.length (gLL C 2)) (List.length (gLL C 2)))&&true)&&((eqM (List.length (gL D 0)) (List.length (gL D 0)))&&true))
 (T57 [.I (gI C 0),.I (gI C 1),.LL (gLL C 2),.L (gL D 0)]
 (fun j N=>(sw (ck (((eqM (List.length (gLL C 2)) (List.length (gLL C 2)))&&true)&&((eqM (List.length (gL D 0)) (List.length (gL D 0)))&&true))
 (T58 [.I (gI C 0),.I (gI C 1),.LL (gLL C 2),.L (gL D 0)]
 (fun j Q=>(sw (br ((gI F 1) != (gI G 1))
 (k 0 [.B false])
 (br ((gI H 1) != (gI M 1))
 (k 0 [.B false])
 (br ((gI N 1) != (gI Q 1))
 (k 0 [.B false])
 (ck ((eqM (List.length (gL F 0)) (List.length (gL F 0)))&&((eqM (List.length (gL G 0)) (List.length (gL G 0)))&&true))
 (T27 [.L (gL F 0),.L (gL G 0)]
 (fun j S=>(sw (br (!(gB S 0))
 (k 0 [.B false])
 (ck ((eqM (List.length (gL H 0)) (List.length (gL H 0)))&&((eqM (List.length (gL M 0)) (List.length (gL M 0)))&&true))
 (T27 [.L (gL H 0),.L (gL M 0)]
 (fun j T=>(sw (br (!(gB T 0))
 (k 0 [.B false])
 (ck ((eqM (List.length (gL N 0)) (List.length (gL N 0)))&&((eqM (List.length (gL Q 0)) (List.length (gL Q 0)))&&true))
 (T27 [.L (gL N 0),.L (gL Q 0)]
 (fun j U=>(sw (br (!(gB U 0))
 (k 0 [.B false])
 (ck (((eqM (List.length (gLL C 2)) (List.length (gLL C 2)))&&true)&&true)
 (T36 [.I (gI C 0),.I (gI C 1),.LL (gLL C 2)]
 (fun j V=>(sw (ck (((eqM (List.length (gLL C 2)) (List.length (gLL C 2)))&&true)&&true)
 (T33 [.I (gI C 0),.I (gI C 1),.LL (gLL C 2)]
 (fun j W=>(sw (ck (((eqM (List.length (gLL V 2)) (List.length (gLL V 2)))&&true)&&(((eqM (List.length (gLL W 2)) (List.length (gLL W 2)))&&true)&&true))
 (T39 [.I (gI V 0),.I (gI V 1),.LL (gLL V 2),.I (gI W 0),.I (gI W 1),.LL (gLL W 2)]
 (fun j X=>(sw (br (!(gB X 0))
 (k 0 [.B false])
 (ck (((eqM (List.length (gLL C 2)) (List.length (gLL C 2)))&&true)&&true)
 (T42 [.I (gI C 0),.I (gI C 1),.LL (gLL C 2)]
 (fun j Y=>(sw (ck (((eqM (List.length (gLL C 2)) (List.length (gLL C 2)))&&true)&&true)
 (T59 [.I (gI C 0),.I (gI C 1),.LL (gLL C 2)]
 (fun j Z=>(sw (ck (((eqM (List.length (gLL C 2)) (List.length (gLL C 2)))&&true)&&true)
 (T60 [.I (gI C 0),.I (gI C 1),.LL (gLL C 2)]
 (fun j z19=>(sw (ck (((eqM (List.length (gLL C 2)) (List.length (gLL C 2)))&&true)&&true)
 (T50 [.I (gI C 0),.I (gI C 1),.LL (gLL C 2)]
 (fun j z20=>(sw (br ((gI Y 1)==(gI Z 1))
 (ck ((eqM (List.length (gL Y 0)) (List.length (gL Y 0)))&&((eqM (List.length (gL Z 0)) (List.length (gL Z 0)))&&true))
 (T27 [.L (gL Y 0),.L (gL Z 0)]
 (fun j z21=>(sw (br (gB z21 0)
 (br ((gI z19 0)==(gI z20 0))
 (br ((gI z19 1)==(gI z20 1))
 (ck (((eqM (List.length (gLL C 2)) (List.length (gLL C 2)))&&true)&&true)
 (T41 [.I (gI C 0),.I (gI C 1),.LL (gLL C 2)]
 (fun j z22=>(sw (ck (((eqM (List.length (gLL C 2)) (List.length (gLL C 2)))&&true)&&true)
 (T25 [.I (gI C 0),.I (gI C 1),.LL (gLL C 2)]
 (fun j z23=>(sw (ck ((eqM (List.length (gLL z22 0)) (List.length (gLL z22 0)))&&((eqM (List.length (gLL z23 0)) (List.length (gLL z23 0)))&&true))
 (T22 [.LL (gLL z22 0),.LL (gLL z23 0)]
 (fun j z24=>(sw (br (gB z24 0)
 (ck (((eqM (List.length (gLL C 2)) (List.length (gLL C 2)))&&true)&&true)
 (T48 [.I (gI C 0),.I (gI C 1),.LL (gLL C 2)]
 (fun j z25=>(sw (ck (((eqM (List.length (gLL C 2)) (List.length (gLL C 2)))&&true)&&true)
 (T61 [.I (gI C 0),.I (gI C 1),.LL (gLL C 2)]
 (fun j z26=>(sw (br ((gI z25 0)==(gI z26 0))
 (ck (((eqM (List.length (gLL C 2)) (List.length (gLL C 2)))&&true)&&true)
 (T38 [.I (gI C 0),.I (gI C 1),.LL (gLL C 2)]
 (fun j z27=>(sw (br ((gI z27 0)==(((List.length (gLL C 2)):Nat):Int))
 (ck (((eqM (List.length (gLL C 2)) (List.length (gLL C 2)))&&true)&&true)
 (T37 [.I (gI C 0),.I (gI C 1),.LL (gLL C 2)]
 (fun j z28=>(sw (br (gB z28 0)
 (k 0 [.B (gB A 0)])
 (k 0 [.B false]))
 (fun _=>none)) j)))
 (k 0 [.B false]))
 (fun _=>none)) j)))
 (k 0 [.B false]))
 (fun _=>none)) j)))
 (fun _=>none)) j)))
 (k 0 [.B false]))
 (fun _=>none)) j)))
 (fun _=>none)) j)))
 (fun _=>none)) j)))
 (k 0 [.B false]))
 (k 0 [.B false]))
 (k 0 [.B false]))
 (fun _=>none)) j)))
 (k 0 [.B false]))
 (fun _=>none)) j)))
 (fun _=>none)) j)))
 (fun _=>none)) j)))
 (fun _=>none)) j))))
 (fun _=>none)) j)))
 (fun _=>none)) j)))
 (fun _=>none)) j))))
 (fun _=>none)) j))))
 (fun _=>none)) j))))
 (fun _=>none)) j))))))
 (fun _=>none)) j)))
 (fun _=>none)) j)))
 (fun _=>none)) j)))
 (fun _=>none)) j)))
 (fun _=>none)) j)))
 (fun _=>none)) j)))
 (fun _=>none)) j)))
 (fun _=>none)) j)))
 (fun _=>none)) j))))
 (fun _=>none)) j))))
 (fun _=>none)) j)
theorem F13.eq:FEq F13.O 3 F13.ps F13.sh F13:=by intro τ l κ;kernel_rfl
def F13.E:Ent P:=mkF F13.eq
end
end Go.Proofs.Yticbdgmcofjkeaa.Ai
namespace Go.Proofs.Yticbdgmcofjkeaa.Ai
open Go Ma
noncomputable section
theorem ok_mat {k:IntKind} {x:Leaf} (h:okLeaf (.arr (.m k)) x):∃ l,x=.LL l:=by
 cases x <;> first | exact ⟨_,rfl⟩ | exact h.elim
theorem make_same (q n:Int) {G:List (List Int)} (hs:G.length<2^60) (hw:∀ i,(G.getD i []).length<2^60) :
  ∃ (a b:Int) (H:List (List Int)) (e:Int),(H.length<2^60∧∀ i,(H.getD i []).length<2^60)∧(∀ {τ:Type} (k:Nat→LS_→Option τ),T46 [.I q,.I n,.LL G] k=k 0 [.I a,.I b,.LL H,.I e])∧(∀ {τ:Type} (k:Nat→LS_→Option τ),T52 [.I q,.I n,.LL G] k=k 0 [.I a,.I b,.LL H,.I e]):=by
 cases ho:okq q with
 | false=>exact ⟨_,_,_,_,⟨by simp,by simp⟩,fun k=>T46_bad ho n G k,fun k=>T52_bad ho n G k⟩
 | true =>
  obtain ⟨p,hp,rfl⟩:=okq_of ho
  by_cases h:1≤n∧n≤24∧(G.length:Int)≤64∧allWord p n G=true
  ·obtain ⟨h1,h2,h3,h4⟩:=h
   obtain ⟨n',rfl⟩:∃ n':Nat,n=n':=⟨n.toNat,by omega⟩
   by_cases c:4096<p^(redR p n' G).length
   ·exact ⟨_,_,_,_,⟨by simp,by simp⟩,fun k=>(T46_all hp (by omega) (by omega) (by omega) h4 k).trans (if_pos c),fun k=>(T52_ok hp (by omega) (by omega) (by omega) h4 k).trans (if_pos c)⟩
   ·have R:=rows_of (q:=p) (n:=n') (by omega) (by omega) h4
    obtain ⟨piv,hr,hl⟩:=reduce_rref (fld p hp) R.wd
    refine ⟨_,_,_,_,⟨?_,?_⟩,fun k=>(T46_all hp (by omega) (by omega) (by omega) h4 k).trans (if_neg c),fun k=>(T52_ok hp (by omega) (by omega) (by omega) h4 k).trans (if_neg c)⟩
    ·unfold redR;omega
    ·intro i
     unfold redR
     rcases Nat.lt_or_ge i (reduce (fadd p) (fmul p) (fneg p) (finv p) n' G).length with hi | hi
     ·rw [(hr.wd i hi).1];omega
     ·simp [List.getElem?_eq_none hi]
  ·exact ⟨_,_,_,_,⟨by simp,by simp⟩,fun k=>T46_no hp n hs hw h k,fun k=>T52_no hp n hs hw h k⟩
theorem valid_same (q n:Int) {G:List (List Int)} (hs:G.length<2^60) (hw:∀ i,(G.getD i []).length<2^60) :
  ∃ b:Bool,(∀ {τ:Type} (k:Nat→LS_→Option τ),T37 [.I q,.I n,.LL G] k=k 0 [.B b])∧(∀ {τ:Type} (k:Nat→LS_→Option τ),T53 [.I q,.I n,.LL G] k=k 0 [.B b]):=by
 cases ho:okq q with
 | false=>exact ⟨_,fun k=>F37_bad ho n G k,fun k=>F53_bad ho n G k⟩
 | true =>
  obtain ⟨p,hp,rfl⟩:=okq_of ho
  exact ⟨_,fun k=>F37_spec hp n hs hw k,fun k=>F53_gen hp n hs hw k⟩
theorem msg_same {q n:Nat} {G:List (List Int)} (h:Lc q n G) {w:List Int} (hw:Wd q n w) :
  ∃ (m:List Int) (e:Int),m.length<2^60∧(∀ {τ:Type} (k:Nat→LS_→Option τ),T47 [.I q,.I n,.LL G,.L w] k=k 0 [.L m,.I e])∧(∀ {τ:Type} (k:Nat→LS_→Option τ),T56 [.I q,.I n,.LL G,.L w] k=k 0 [.L m,.I e]):=by
 have gl:=h.len
 have n1:=h.n1
 by_cases hs:Sp q n (fadd q) (fmul q) G w
 ·exact ⟨_,_,by rw [mg_len];omega,fun k=>T47_ok h hw hs k,fun k=>T56_ok h hw hs k⟩
 ·exact ⟨[],_,by simp,fun k=>T47_not h hw hs k,fun k=>T56_not h hw hs k⟩
theorem dist_same {q n:Nat} {G:List (List Int)} (h:Cd q n G) :
  ∃ d e:Int,(∀ {τ:Type} (k:Nat→LS_→Option τ),T60 [.I q,.I n,.LL G] k=k 0 [.I d,.I e])∧(∀ {τ:Type} (k:Nat→LS_→Option τ),T50 [.I q,.I n,.LL G] k=k 0 [.I d,.I e]):=by
 by_cases hg:G.length=0
 ·exact ⟨_,_,fun k=>(T60_spec h k).trans (if_pos hg),fun k=>(T50_spec h k).trans (if_pos hg)⟩
 ·exact ⟨_,_,fun k=>(T60_spec h k).trans (if_neg hg),fun k=>(T50_spec h k).trans (if_neg hg)⟩
theorem F13_true {ls:LS_} (h:okLs [.int .i64,.int .i64,.arr (.m .i64),.int .u8,.int .u8,.int .u8,.arr (.i .u8),.arr (.i .u8),.arr (.i .u8)] ls) {τ:Type} (k:Nat→LS_→Option τ):F13 ls k=k 0 [.B true]:=by
 obtain ⟨x1,l1,rfl,a1,h1⟩:=okLs_cons h
 obtain ⟨q0,rfl,_⟩:=ok_int a1
 obtain ⟨x2,l2,rfl,a2,h2⟩:=okLs_cons h1
 obtain ⟨n0,rfl,_⟩:=ok_int a2
 obtain ⟨x3,l3,rfl,a3,h3⟩:=okLs_cons h2
 obtain ⟨M,rfl⟩:=ok_mat a3
 obtain ⟨Q,N,K,L,l4,rfl,hQ,hN,hK,hL,h4⟩:=raw13 h3
 obtain ⟨x5,l5,rfl,a5,h5⟩:=okLs_cons h4
 obtain ⟨z1,rfl,hz1⟩:=ok_bytes a5
 obtain ⟨x6,l6,rfl,a6,h6⟩:=okLs_cons h5
 obtain ⟨z2,rfl,hz2⟩:=ok_bytes a6
 obtain ⟨q,n,G,C,hT⟩:=T35_spec hQ hN hK hL
 have H:=C.lc
 have n1:=C.n1
 have gl:=C.len_le
 have qq:=qs_lt C.fq
 have few:=H.rows.few
 obtain ⟨w,hw,hg1⟩:=T54_spec (n:=n) C.fq (by omega) hz1
 obtain ⟨m,hm,hg2⟩:=T54_spec (n:=G.length) C.fq (by omega) hz2
 have hm':isWord q G.length m=true:=isWord_wd hm
 obtain ⟨p,e,ps,h47,h56⟩:=msg_same H hw
 obtain ⟨d,de,h60,h50⟩:=dist_same C
 have hl:(hist q n G).length<2^60:=by unfold hist;rw [hist_len];simp;omega
 have sl:(synd q n G w).length<2^60:=by
  rw [synd_len]
  obtain ⟨_,dl,_⟩:=H.dual
  omega
 have cw:=words_wd (fld q C.fq) G _ H.rows.wd (Wd.zeros (q:=q) (n:=n) (by omega)) _ (comb_mem (fld q C.fq) G m (List.replicate n 0) hm.1 fun j hj=>hm.2 j (by rw [←hm.1];exact hj))
 have cl:=cw.1
 have ww:=words_wd (fld q C.fq) G _ H.rows.wd (Wd.zeros (q:=q) (n:=n) (by omega))
 have wlen:=words_len (n:=n) C.fq G (List.replicate n 0)
 have wsh:∀ i,((words q (fadd q) (fmul q) G (List.replicate n 0)).getD i []).length<2^60:=by
  intro i
  rcases Nat.lt_or_ge i (words q (fadd q) (fmul q) G (List.replicate n 0)).length with hi | hi
  ·rw [List.getD_eq_getElem?_getD,List.getElem?_eq_getElem hi]
   have:=(ww _ (List.getElem_mem hi)).1
   simp only [Option.getD_some]
   omega
  ·simp [List.getElem?_eq_none hi]
 have hcount:=C.count
 obtain ⟨D,dl,_⟩:=H.dual
 have dsh:∀ i,((dualR q n G).getD i []).length<2^60:=by
  intro i
  rcases Nat.lt_or_ge i (dualR q n G).length with hi | hi
  ·rw [(D.rows.wd i hi).1];omega
  ·simp [List.getElem?_eq_none hi]
 unfold F13 T34 T51 T39 T27 T22 T48 T61 T38
 simp only [g_,sw_zero]
 rw [br_no (b:=!true) rfl,ck_of (by simp)]
 rw [F51_spec]
 simp only [sw_zero,gB_zero]
 cases hb:smallB M
 case' false=>rw [br_no rfl]
 case' true =>
  obtain ⟨s1,s2⟩:=smallB_short hb
  obtain ⟨a,b,R,e',⟨r1,r2⟩,h46,h52⟩:=make_same q0 n0 s1 s2
  obtain ⟨v,h37,h53⟩:=valid_same q0 n0 s1 s2
  rw [br_of rfl,ck_of (by simp),h46]
  simp only [g_,sw_zero]
  rw [ck_of (by simp),h52]
  simp only [g_,sw_zero]
  rw [br_no (by simp),ck_of (by simp)]
  rw [F39_spec _ _ _ _ r1 r2]
  simp only [g_,sw_zero]
  rw [br_no (by simp),ck_of (by simp),h37]
  simp only [g_,sw_zero]
  rw [ck_of (by simp),h53]
  simp only [g_,sw_zero]
  rw [br_no (by simp)]
 all_goals
  rw [ck_of (by simp),hT]
  simp only [g_,sw_zero]
  rw [ck_of (by simp),hg1]
  simp only [g_,sw_zero]
  rw [ck_of (by simp),hg2]
  simp only [g_,sw_zero]
  rw [ck_of (by simp),T49_ok H hm']
  simp only [g_,sw_zero]
  rw [ck_of (by simp),T55_ok H hm']
  simp only [g_,sw_zero]
  rw [ck_of (by simp),h47]
  simp only [g_,sw_zero]
  rw [ck_of (by simp),h56]
  simp only [g_,sw_zero]
  rw [ck_of (by simp),T57_ok H hw]
  simp only [g_,sw_zero]
  rw [ck_of (by simp),T58_ok H hw]
  simp only [g_,sw_zero]
  rw [br_no (by simp),br_no (by simp),br_no (by simp),ck_of (by simp)]
  rw [F27_spec _ _ _ (by omega)]
  simp only [g_,sw_zero]
  rw [br_no (by simp),ck_of (by simp),F27_spec _ _ _ ps]
  simp only [g_,sw_zero]
  rw [br_no (by simp),ck_of (by simp),F27_spec _ _ _ sl]
  simp only [g_,sw_zero]
  rw [br_no (by simp),ck_of (by simp),T36_spec H]
  simp only [g_,sw_zero]
  rw [ck_of (by simp),T33_spec H]
  simp only [g_,sw_zero]
  rw [ck_of (by simp),F39_spec _ _ _ _ (by omega) dsh]
  simp only [g_,sw_zero]
  rw [br_no (by simp),ck_of (by simp),T42_spec C]
  simp only [g_,sw_zero]
  rw [ck_of (by simp),T59_spec C]
  simp only [g_,sw_zero]
  rw [ck_of (by simp),h60]
  simp only [g_,sw_zero]
  rw [ck_of (by simp),h50]
  simp only [g_,sw_zero]
  rw [br_of (by simp),ck_of (by simp),F27_spec _ _ _ hl]
  simp only [g_,sw_zero]
  rw [br_of (by simp),br_of (by simp),br_of (by simp),ck_of (by simp),T41_spec C]
  simp only [g_,sw_zero]
  rw [ck_of (by simp),T25_spec C.fq C.rows (by omega)]
  simp only [g_,sw_zero]
  rw [ck_of (by simp),F22_spec _ _ _ (by omega) wsh]
  simp only [g_,sw_zero]
  rw [br_of (by simp),ck_of (by simp),F48_spec (by omega) (by omega) _ _ (by omega)]
  simp only [g_,sw_zero]
  rw [ck_of (by simp),F61_spec C.fq _ _ (by omega) few]
  simp only [g_,sw_zero]
  rw [br_of (by rw [cnt,if_pos (by omega)];simp),ck_of (by simp),F38_spec]
  simp only [g_,sw_zero]
  unfold T37
  rw [br_of (by simp),ck_of (by simp),F37_spec C.fq _ (by omega) H.short,H.valid]
  simp only [g_,sw_zero]
  exact br_of rfl
theorem law13 (ls:LS_) (h:okLs ([PV2.agg [.int .i64,.int .i64,.arr (.m .i64)],PV2.agg [.int .u8,.int .u8,.int .u8,.arr (.i .u8)],PV2.agg [.arr (.i .u8),.arr (.i .u8)]].flatMap cells2) ls):CS P 3 (fL2 ls [PV2.agg [.int .i64,.int .i64,.arr (.m .i64)],PV2.agg [.int .u8,.int .u8,.int .u8,.arr (.i .u8)],PV2.agg [.arr (.i .u8),.arr (.i .u8)]] 0) ⟨.bool true,[]⟩ :=
 F_ok F13.eq ((F13_true h _).trans (by kernel_rfl))
end
end Go.Proofs.Yticbdgmcofjkeaa.Ai
