/-
Part 8 of 8 of the texts for one claim: Xl15 P42 P43.
-/
import Derived.Test.YtbpjicbpcfkpfaaCf7
set_option linter.unusedVariables false
set_option linter.unusedSimpArgs false
namespace Go.Proofs.Ytbpjicbpcfkpfaa.Ai
open Go Go.RowKit
noncomputable section
variable {τ:Type} (t:Nat) (nx ex:Nat→LS_→Option τ) (l:LS_) (k κ:Nat→LS_→Option τ)
def L15_16.H:LHead:=⟨false,true,0,61456,61456,917632,393344,0,[(PS.mk (us 7 (pB::us 9 (pI::(rr 0)::pI::us 187 []))) [oI])],[((Out.exit 0),(PS.mk (us 7 (pB::us 9 (pI::(rr 0)::us 188 []))) [oI]))]⟩
def L15_16.O:Orc P:=⟨[],[],[],40⟩
def L15_16.s0:Option τ :=
 br (ltI (gI l 3) (gI l 1))
 (ck (((leI 0 (gI l 3))&&(ltI (gI l 3) (gN l 2)))&&true)
 (ck ((leN ((0+((Int.toNat (gI l 3))*1))+1) (List.length (gL l 4)))&&true)
 (nx 0 [.B (gB l 0),.I (gI l 1),.N (gN l 2),.I (wr .i64 ((gI l 3)+1)),.L (List.set (gL l 4) (0+((Int.toNat (gI l 3))*1)) 1)])))
 (ex 0 [.B (gB l 0),.I (gI l 1),.N (gN l 2),.L (gL l 4)])
theorem L15_16.e0:LEq L15_16.O L15_16.H 0 L15_16.s0:=by intro τ next κ l;kernel_rfl
def L15_16:LStep P Cf:=LStep.mk1 (by decide) L15_16.e0
def L15_16.b:Option τ:=runE L15_16 fuel κ t l
def L15_16.E:LEnt P:=LStep.E L15_16
def F15.ps:List PV2:=[pRaw13,pR,(pK IntKind.u8)]
def F15.sh:List PA:=[(PA.mk (PV3.v pB) [])]
def F15.O:Orc P:=⟨[T34.E,T35.E,T31.E,T47.E,T57.E,T49.E,F32.E,T46.E,T36.E,T37.E,T38.E,T64.E,T42.E,T50.E,T48.E],[L15_16.E],[],40⟩
def F15:Option τ :=
 T34 []
 (fun j A=>(sw (br (!(gB A 0))
 (k 0 [.B false])
 (br (gtI (((List.length (gL l 4)):Nat):Int) 40)
 (k 0 [.B (gB A 0)])
 (ck (((eqM (List.length (gL l 3)) (List.length (gL l 3)))&&true)&&true)
 (T35 [.I (gI l 0),.I (gI l 1),.I (gI l 2),.L (gL l 3)]
 (fun j B=>(sw (ck ((eqM (List.length (gL l 4)) (List.length (gL l 4)))&&true)
 (T31 [.I (gI B 0),.I (gI B 1),.L (gL l 4)]
 (fun j C=>(sw (ck ((eqM (List.length (gL l 4)) (List.length (gL l 4)))&&true)
 (T31 [.I (gI B 0),.I (((List.length (gLL B 2)):Nat):Int),.L (gL l 4)]
 (fun j D=>(sw (ck (((eqM (List.length (gLL B 2)) (List.length (gLL B 2)))&&true)&&((eqM (List.length (gL l 4)) (List.length (gL l 4)))&&true))
 (T47 [.I (gI B 0),.I (gI B 1),.LL (gLL B 2),.L (gL l 4)]
 (fun j E=>(sw (ck (((eqM (List.length (gLL B 2)) (List.length (gLL B 2)))&&true)&&((eqM (List.length (gL l 4)) (List.length (gL l 4)))&&true))
 (T57 [.I (gI B 0),.I (gI B 1),.LL (gLL B 2),.L (gL l 4)]
 (fun j F=>(sw (ck (((eqM (List.length (gLL B 2)) (List.length (gLL B 2)))&&true)&&((eqM (List.length (gL l 4)) (List.length (gL l 4)))&&true))
 (T49 [.I (gI B 0),.I (gI B 1),.LL (gLL B 2),.L (gL l 4)]
 (fun j G=>(sw (br (((gI E 1)==1)==(gB C 0))
 (k 0 [.B false])
 (br (((gI F 1)==1)==(gB C 0))
 (k 0 [.B false])
 (br (((gI G 1)==1)==(gB D 0))
 (k 0 [.B false])
 (br (!(gB D 0))
 (br (gtI (((List.length (gL G 0)):Nat):Int) 0)
 (k 0 [.B false])
 (F32 [.I (wr .i64 (12+(wr .i64 (Int.tmod (gI l 5) 13))))]
 (fun j H=>(sw (L15_16.b 0 [.B (gB A 0),.I (wr .i64 (12+(wr .i64 (Int.tmod (gI l 5) 13)))),.N (gN H 0),.I 0,.L (gL H 1)]
 (fun j M=>(sw (ck ((eqM (gN M 2) (List.length (List.take ((gN M 2)*1) (List.drop 0 (gL M 3)))))&&true)
 (T46 [.I 2,.I (gI M 1),.LL (List.take 1 (List.drop 0 [(List.take ((gN M 2)*1) (List.drop 0 (gL M 3)))]))]
 (fun j N=>(sw (ck (((eqM (List.length (gLL N 2)) (List.length (gLL N 2)))&&true)&&true)
 (T36 [.I (gI N 0),.I (gI N 1),.LL (gLL N 2)]
 (fun j Q=>(sw (br ((gI N 3) != 0)
 (k 0 [.B false])
 (ck (((eqM (List.length (gLL Q 2)) (List.length (gLL Q 2)))&&true)&&true)
 (T37 [.I (gI Q 0),.I (gI Q 1),.LL (gLL Q 2)]
 (fun j S=>(sw (br (!(gB S 0))
 (k 0 [.B false])
 (ck (((eqM (List.length (gLL Q 2)) (List.length (gLL Q 2)))&&true)&&true)
 (T38 [.I (gI Q 0),.I (gI Q 1),.LL (gLL Q 2)]
 (fun j T=>(sw (br ((gI T 0) != (wr .i64 ((gI M 1)-1)))
 (k 0 [.B false])
 (ck (((eqM (List.length (gLL Q 2)) (List.length (gLL Q 2)))&&true)&&true)
 (T64 [.I (gI Q 0),.I (gI Q 1),.LL (gLL Q 2)]
 (fun j U=>(sw (ck ((eqM (List.length (gLL Q 2)) (List.length (gLL Q 2)))&&true)
 (T46 [.I 2,.I (gI M 1),.LL (gLL Q 2)]
 (fun j V=>(sw (ck (((eqM (List.length (gLL Q 2)) (List.length (gLL Q 2)))&&true)&&true)
 (T42 [.I (gI Q 0),.I (gI Q 1),.LL (gLL Q 2)]
 (fun j W=>(sw (ck (((eqM (List.length (gLL Q 2)) (List.length (gLL Q 2)))&&true)&&true)
 (T50 [.I (gI Q 0),.I (gI Q 1),.LL (gLL Q 2)]
 (fun j X=>(sw (br (gtI (wr .i64 ((gI M 1)-1)) 12)
 (br ((gI U 1)==2)
 (br ((gI V 3)==2)
 (br ((gI W 1)==2)
 (br ((gI X 1)==2)
 (ck (((eqM (List.length (gLL Q 2)) (List.length (gLL Q 2)))&&true)&&true)
 (T48 [.I (gI Q 0),.I (gI Q 1),.LL (gLL Q 2)]
 (fun j Y=>(sw (br ((gI Y 0)==4097)
 (k 0 [.B (gB M 0)])
 (k 0 [.B false]))
 (fun _=>none)) j)))
 (k 0 [.B false]))
 (k 0 [.B false]))
 (k 0 [.B false]))
 (k 0 [.B false]))
 (br ((gI U 1)==0)
 (br ((gI V 3)==0)
 (br ((gI W 1)==0)
 (br ((gI X 1)==0)
 (ck (((eqM (List.length (gLL Q 2)) (List.length (gLL Q 2)))&&true)&&true)
 (T48 [.I (gI Q 0),.I (gI Q 1),.LL (gLL Q 2)]
 (fun j Y=>(sw (ck (leI 0 (wr .i64 ((gI M 1)-1)))
 (br ((gI Y 0)==(wr .i64 (1*(@HPow.hPow Int Nat Int (@instHPow Int Nat (@instPowNat Int Int.instNatPow)) 2 (min (Int.toNat (wr .i64 ((gI M 1)-1))) 64)))))
 (k 0 [.B (gB M 0)])
 (k 0 [.B false])))
 (fun _=>none)) j)))
 (k 0 [.B false]))
 (k 0 [.B false]))
 (k 0 [.B false]))
 (k 0 [.B false])))
 (fun _=>none)) j)))
 (fun _=>none)) j)))
 (fun _=>none)) j)))
 (fun _=>none)) j))))
 (fun _=>none)) j))))
 (fun _=>none)) j))))
 (fun _=>none)) j)))
 (fun _=>none)) j)))
 (fun _=>none)) j))
 (fun _=>none)) j)))
 (F32 [.I (wr .i64 (12+(wr .i64 (Int.tmod (gI l 5) 13))))]
 (fun j H=>(sw (L15_16.b 0 [.B (gB A 0),.I (wr .i64 (12+(wr .i64 (Int.tmod (gI l 5) 13)))),.N (gN H 0),.I 0,.L (gL H 1)]
 (fun j M=>(sw (ck ((eqM (gN M 2) (List.length (List.take ((gN M 2)*1) (List.drop 0 (gL M 3)))))&&true)
 (T46 [.I 2,.I (gI M 1),.LL (List.take 1 (List.drop 0 [(List.take ((gN M 2)*1) (List.drop 0 (gL M 3)))]))]
 (fun j N=>(sw (ck (((eqM (List.length (gLL N 2)) (List.length (gLL N 2)))&&true)&&true)
 (T36 [.I (gI N 0),.I (gI N 1),.LL (gLL N 2)]
 (fun j Q=>(sw (br ((gI N 3) != 0)
 (k 0 [.B false])
 (ck (((eqM (List.length (gLL Q 2)) (List.length (gLL Q 2)))&&true)&&true)
 (T37 [.I (gI Q 0),.I (gI Q 1),.LL (gLL Q 2)]
 (fun j S=>(sw (br (!(gB S 0))
 (k 0 [.B false])
 (ck (((eqM (List.length (gLL Q 2)) (List.length (gLL Q 2)))&&true)&&true)
 (T38 [.I (gI Q 0),.I (gI Q 1),.LL (gLL Q 2)]
 (fun j T=>(sw (br ((gI T 0) != (wr .i64 ((gI M 1)-1)))
 (k 0 [.B false])
 (ck (((eqM (List.length (gLL Q 2)) (List.length (gLL Q 2)))&&true)&&true)
 (T64 [.I (gI Q 0),.I (gI Q 1),.LL (gLL Q 2)]
 (fun j U=>(sw (ck ((eqM (List.length (gLL Q 2)) (List.length (gLL Q 2)))&&true)
 (T46 [.I 2,.I (gI M 1),.LL (gLL Q 2)]
 (fun j V=>(sw (ck (((eqM (List.length (gLL Q 2)) (List.length (gLL Q 2)))&&true)&&true)
 (T42 [.I (gI Q 0),.I (gI Q 1),.LL (gLL Q 2)]
 (fun j W=>(sw (ck (((eqM (List.length (gLL Q 2)) (List.length (gLL Q 2)))&&true)&&true)
 (T50 [.I (gI Q 0),.I (gI Q 1),.LL (gLL Q 2)]
 (fun j X=>(sw (br (gtI (wr .i64 ((gI M 1)-1)) 12)
 (br ((gI U 1)==2)
 (br ((gI V 3)==2)
 (br ((gI W 1)==2)
 (br ((gI X 1)==2)
 (ck (((eqM (List.length (gLL Q 2)) (List.length (gLL Q 2)))&&true)&&true)
 (T48 [.I (gI Q 0),.I (gI Q 1),.LL (gLL Q 2)]
 (fun j Y=>(sw (br ((gI Y 0)==4097)
 (k 0 [.B (gB M 0)])
 (k 0 [.B false]))
 (fun _=>none)) j)))
 (k 0 [.B false]))
 (k 0 [.B false]))
 (k 0 [.B false]))
 (k 0 [.B false]))
 (br ((gI U 1)==0)
 (br ((gI V 3)==0)
 (br ((gI W 1)==0)
 (br ((gI X 1)==0)
 (ck (((eqM (List.length (gLL Q 2)) (List.length (gLL Q 2)))&&true)&&true)
 (T48 [.I (gI Q 0),.I (gI Q 1),.LL (gLL Q 2)]
 (fun j Y=>(sw (ck (leI 0 (wr .i64 ((gI M 1)-1)))
 (br ((gI Y 0)==(wr .i64 (1*(@HPow.hPow Int Nat Int (@instHPow Int Nat (@instPowNat Int Int.instNatPow)) 2 (min (Int.toNat (wr .i64 ((gI M 1)-1))) 64)))))
 (k 0 [.B (gB M 0)])
 (k 0 [.B false])))
 (fun _=>none)) j)))
 (k 0 [.B false]))
 (k 0 [.B false]))
 (k 0 [.B false]))
 (k 0 [.B false])))
 (fun _=>none)) j)))
 (fun _=>none)) j)))
 (fun _=>none)) j)))
 (fun _=>none)) j))))
 (fun _=>none)) j))))
 (fun _=>none)) j))))
 (fun _=>none)) j)))
 (fun _=>none)) j)))
 (fun _=>none)) j))
 (fun _=>none)) j))))))
 (fun _=>none)) j)))
 (fun _=>none)) j)))
 (fun _=>none)) j)))
 (fun _=>none)) j)))
 (fun _=>none)) j)))
 (fun _=>none)) j)))))
 (fun _=>none)) j)
theorem F15.eq:FEq F15.O 15 F15.ps F15.sh F15:=by intro τ l κ;kernel_rfl
def F15.E:Ent P:=mkF F15.eq
end
end Go.Proofs.Ytbpjicbpcfkpfaa.Ai
namespace Go.Proofs.Ytbpjicbpcfkpfaa.Ai
open Go Ma
noncomputable section
theorem F90_lc {q n:Nat} {G:List (List Int)} (h:Lc q n G) (hc:q^G.length≤4096) {τ:Type} (k:Nat→LS_→Option τ):F90 [.I q,.I n,.LL G] k=k 0 [.I 0]:=by
 have hqq:=qs_lt h.fq
 have hf:=h.rows.few
 unfold F90 T37 T48
 simp only [g_]
 rw [ck_of (by simp),F37_spec h.fq n (by omega) (short2 fun r hr=>by
  obtain ⟨i,hi,rfl⟩:=List.getElem_of_mem hr
  have:=(h.rows.wd i hi).1
  have:=h.n1
  rw [List.getD_eq_getElem?_getD,List.getElem?_eq_getElem hi] at *
  simp at *
  omega),h.valid]
 simp only [sw_zero,gB_zero]
 rw [br_no (b:=!true) rfl,ck_of (by simp),F48_spec (by omega) (by omega) n G (by omega)]
 simp only [sw_zero,gI_zero]
 unfold cnt
 rw [if_pos (by omega),br_no (by simp only [gtI_no];omega)]
theorem F50_lc {q n:Nat} {G:List (List Int)} (h:Lc q n G) (hc:q^G.length≤4096) {τ:Type} (k:Nat→LS_→Option τ):F50 [.I q,.I n,.LL G] k =
  if G.length=0 then k 1 [] else k 2 [.I ((minw n (words q (fadd q) (fmul q) G (List.replicate n 0)) n:Nat):Int)]:=by
 have hfu:=fuel_le
 have hqq:=qs_lt h.fq
 have n0:=h.n0
 have n1:=h.n1
 have hl:=h.len
 unfold F50
 simp only [g_]
 rw [ck_of (by simp),F90_lc h hc]
 simp only [sw_zero,gI_zero]
 rw [br_no (by rfl)]
 by_cases hg:G.length=0
 ·rw [br_of (by rw [hg];rfl),if_pos hg]
 ·rw [br_no (by simp;exact fun e=>hg (by rw [e];rfl)),if_neg hg,T81_spec h.fq]
  simp only [g_,sw_zero,Int.toNat_natCast]
  rw [ck_of (by simp;omega)]
  unfold S121_0
  refine (S121_0_D h G.length 0 fuel (List.replicate n 0) n (by omega) (by omega) (Wd.zeros (by omega)) _).trans ?_
  simp only [g_,sw_zero,List.drop_zero]
  rfl
theorem T50_lc {q n:Nat} {G:List (List Int)} (h:Lc q n G) (hc:q^G.length≤4096) {τ:Type} (k:Nat→LS_→Option τ):T50 [.I q,.I n,.LL G] k =
  if G.length=0 then k 0 [.I 0,.I 4] else k 0 [.I ((minw n (words q (fadd q) (fmul q) G (List.replicate n 0)) n:Nat):Int),.I 0]:=by
 by_cases hg:G.length=0
 ·rw [if_pos hg]
  exact wrap_of (e:=F50.E) (p:=.tup [pI,pI]) (j:=1) (l2:=[]) (c:=true) (ls':=[.I 0,.I 4]) (by intro τ κ;kernel_rfl) rfl (fun κ=>(F50_lc h hc κ).trans (if_pos hg))
 ·rw [if_neg hg]
  have h2:=fun {τ:Type} (κ:Nat→LS_→Option τ)=>(F50_lc h hc κ).trans (if_neg hg)
  generalize ((minw n (words q (fadd q) (fmul q) G (List.replicate n 0)) n:Nat):Int)=z at h2 ⊢
  exact wrap_of (e:=F50.E) (p:=.tup [pI,pI]) (j:=2) (l2:=[.I z]) (c:=true) (ls':=[.I z,.I 0]) (by intro τ κ;kernel_rfl) rfl (fun κ=>h2 κ)
theorem F42_lc {q n:Nat} {G:List (List Int)} (h:Lc q n G) (hc:q^G.length≤4096) {τ:Type} (k:Nat→LS_→Option τ):F42 [.I q,.I n,.LL G] k =
  k 1 [.N (n+1),.L ((words q (fadd q) (fmul q) G (List.replicate n 0)).foldl (cnt1 n) (List.replicate (n+1) 0))]:=by
 have hfu:=fuel_le
 have hqq:=qs_lt h.fq
 have n0:=h.n0
 have n1:=h.n1
 have hl:=h.len
 have e1:wr .i64 ((n:Int)+1)=((n+1:Nat):Int):=wsucc (by omega)
 unfold F42
 simp only [g_]
 rw [ck_of (by simp),F90_lc h hc]
 simp only [sw_zero,gI_zero]
 rw [br_no (by rfl),e1,ck_of (by simp;omega),T81_spec h.fq]
 simp only [g_,sw_zero,Int.toNat_natCast]
 rw [ck_of (by simp;omega)]
 unfold S121_1
 refine (S121_1_D h G.length 0 fuel (List.replicate n 0) (List.replicate (n+1) 0) (by omega) (by omega) (Wd.zeros (by omega)) ⟨by simp,fun j=>?_⟩ _).trans ?_
 ·have:(List.replicate (n+1) (0:Int)).getD j 0=0:=by rw [List.getD_eq_getElem?_getD,List.getElem?_replicate];split <;> rfl
  rw [this,List.drop_zero]
  omega
 ·simp only [g_,sw_zero,List.drop_zero]
theorem F64_lc {q n:Nat} {G:List (List Int)} (h:Lc q n G) (hc:q^G.length≤4096) {τ:Type} (k:Nat→LS_→Option τ):F64 [.I q,.I n,.LL G] k =
  k 1 [.N (words q (fadd q) (fmul q) G (List.replicate n 0)).length,.LL (words q (fadd q) (fmul q) G (List.replicate n 0))]:=by
 have hfu:=fuel_le
 have hqq:=qs_lt h.fq
 have n0:=h.n0
 have n1:=h.n1
 have hl:=h.len
 unfold F64
 simp only [g_]
 rw [ck_of (by simp),F90_lc h hc]
 simp only [sw_zero,gI_zero]
 rw [br_no (by rfl),T81_spec h.fq]
 simp only [g_,sw_zero,Int.toNat_natCast]
 rw [ck_of (by simp;omega)]
 unfold S121_2
 refine (S121_2_D h G.length 0 fuel (List.replicate n 0) (by omega) (by omega) (Wd.zeros (by omega)) (by rw [List.drop_zero];omega) _).trans ?_
 simp only [g_,sw_zero,List.drop_zero]
theorem T42_lc {q n:Nat} {G:List (List Int)} (h:Lc q n G) (hc:q^G.length≤4096) {τ:Type} (k:Nat→LS_→Option τ):T42 [.I q,.I n,.LL G] k=k 0 [.L (hist q n G),.I 0]:=by
 have h2:=fun {τ:Type} (κ:Nat→LS_→Option τ)=>F42_lc h hc κ
 have hl:(hist q n G).length=n+1:=by unfold hist;rw [hist_len];simp
 change ∀ {τ:Type} (κ:Nat→LS_→Option τ),F42 [.I q,.I n,.LL G] κ=κ 1 [.N (n+1),.L (hist q n G)] at h2
 generalize hist q n G=M at h2 hl ⊢
 rw [←hl] at h2
 have:=wrap_of (e:=F42.E) (p:=.tup [pR,pI]) (j:=1) (l2:=[.N M.length,.L M]) (c:=(true&&(true&&true))&&(true&&(true&&(decide (M.length=(List.take (M.length*1) (List.drop 0 M)).length)&&(true&&true))))) (ls':=[.L (List.take (M.length*1) (List.drop 0 M)),.I 0]) (by intro τ κ;kernel_rfl) (by simp) (k:=k) (fun κ=>h2 κ)
 rw [Nat.mul_one,List.drop_zero,List.take_length] at this
 exact this
theorem T64_lc {q n:Nat} {G:List (List Int)} (h:Lc q n G) (hc:q^G.length≤4096) {τ:Type} (k:Nat→LS_→Option τ):T64 [.I q,.I n,.LL G] k=k 0 [.LL (words q (fadd q) (fmul q) G (List.replicate n 0)),.I 0]:=by
 have h2:=fun {τ:Type} (κ:Nat→LS_→Option τ)=>F64_lc h hc κ
 generalize words q (fadd q) (fmul q) G (List.replicate n 0)=M at h2 ⊢
 have:=wrap_of (e:=F64.E) (p:=.tup [pM,pI]) (j:=1) (l2:=[.N M.length,.LL M]) (c:=(true&&(true&&true))&&(true&&(true&&(decide (M.length=(List.take (M.length*1) (List.drop 0 M)).length)&&(true&&true))))) (ls':=[.LL (List.take (M.length*1) (List.drop 0 M)),.I 0]) (by intro τ κ;kernel_rfl) (by simp) (k:=k) (fun κ=>h2 κ)
 rw [Nat.mul_one,List.drop_zero,List.take_length] at this
 exact this
theorem F90_big {q n:Nat} {G:List (List Int)} (h:Lc q n G) (hc:4096<q^G.length) {τ:Type} (k:Nat→LS_→Option τ):F90 [.I q,.I n,.LL G] k=k 0 [.I 2]:=by
 have hqq:=qs_lt h.fq
 have hf:=h.rows.few
 unfold F90 T37 T48
 simp only [g_]
 rw [ck_of (by simp),F37_spec h.fq n (by omega) h.short,h.valid]
 simp only [sw_zero,gB_zero]
 rw [br_no (b:=!true) rfl,ck_of (by simp),F48_spec (by omega) (by omega) n G (by omega)]
 simp only [sw_zero,gI_zero]
 unfold cnt
 rw [if_neg (by omega),br_of (by simp)]
theorem F50_big {q n:Nat} {G:List (List Int)} (h:Lc q n G) (hc:4096<q^G.length) {τ:Type} (k:Nat→LS_→Option τ):F50 [.I q,.I n,.LL G] k=k 0 [.I 2]:=by
 unfold F50
 simp only [g_]
 rw [ck_of (by simp),F90_big h hc]
 simp only [sw_zero,gI_zero]
 rw [br_of (by rfl)]
theorem T50_big {q n:Nat} {G:List (List Int)} (h:Lc q n G) (hc:4096<q^G.length) {τ:Type} (k:Nat→LS_→Option τ):T50 [.I q,.I n,.LL G] k=k 0 [.I 0,.I 2] :=
 wrap_of (e:=F50.E) (p:=.tup [pI,pI]) (j:=0) (l2:=[.I 2]) (c:=true) (ls':=[.I 0,.I 2]) (by intro τ κ;kernel_rfl) rfl (fun κ=>F50_big h hc κ)
theorem F42_big {q n:Nat} {G:List (List Int)} (h:Lc q n G) (hc:4096<q^G.length) {τ:Type} (k:Nat→LS_→Option τ):F42 [.I q,.I n,.LL G] k=k 0 [.I 2]:=by
 unfold F42
 simp only [g_]
 rw [ck_of (by simp),F90_big h hc]
 simp only [sw_zero,gI_zero]
 rw [br_of (by rfl)]
theorem T42_big {q n:Nat} {G:List (List Int)} (h:Lc q n G) (hc:4096<q^G.length) {τ:Type} (k:Nat→LS_→Option τ):T42 [.I q,.I n,.LL G] k=k 0 [.L [],.I 2] :=
 wrap_of (e:=F42.E) (p:=.tup [pR,pI]) (j:=0) (l2:=[.I 2]) (c:=true) (ls':=[.L [],.I 2]) (by intro τ κ;kernel_rfl) rfl (fun κ=>F42_big h hc κ)
theorem F64_big {q n:Nat} {G:List (List Int)} (h:Lc q n G) (hc:4096<q^G.length) {τ:Type} (k:Nat→LS_→Option τ):F64 [.I q,.I n,.LL G] k=k 0 [.I 2]:=by
 unfold F64
 simp only [g_]
 rw [ck_of (by simp),F90_big h hc]
 simp only [sw_zero,gI_zero]
 rw [br_of (by rfl)]
theorem T64_big {q n:Nat} {G:List (List Int)} (h:Lc q n G) (hc:4096<q^G.length) {τ:Type} (k:Nat→LS_→Option τ):T64 [.I q,.I n,.LL G] k=k 0 [.LL [],.I 2] :=
 wrap_of (e:=F64.E) (p:=.tup [pM,pI]) (j:=0) (l2:=[.I 2]) (c:=true) (ls':=[.LL [],.I 2]) (by intro τ κ;kernel_rfl) rfl (fun κ=>F64_big h hc κ)
theorem redR_self {q n:Nat} {G:List (List Int)} (h:Lc q n G):redR q n G=G:=by
 have:=h.valid
 unfold validB at this
 simp only [Bool.and_eq_true,decide_eq_true_eq,Int.toNat_natCast] at this
 exact this.2.2.2.2.symm
theorem L15_16_spec {n:Nat} (hn:n<2^30) (b:Bool) {τ:Type} (κ:Nat→LS_→Option τ):∀ (f i:Nat) (w:List Int),i≤n→n<f+i→w=(List.replicate n (1:Int)).take i++(List.replicate n (0:Int)).drop i →
  runE L15_16 f κ 0 [.B b,.I n,.N n,.I i,.L w]=κ 0 [.B b,.I n,.N n,.L (List.replicate n 1)]
 | 0,i,w,h1,h2,h3=>by omega
 | f+1,i,w,h1,h2,h3=>by
  have hl:(List.replicate n (1:Int)).length=(List.replicate n (0:Int)).length:=by simp
  have hw:w.length=n:=by rw [h3,half_len hl (by simp;omega)];simp
  rw [runE_succ]
  show L15_16.s0 _ _ _=_
  unfold L15_16.s0
  simp only [g_,Int.toNat_natCast,Nat.mul_one,Nat.zero_add,List.drop_zero]
  by_cases hi:i<n
  ·have g:(List.replicate n (1:Int)).getD i 0=1:=by rw [List.getD_eq_getElem?_getD,List.getElem?_replicate,if_pos hi];rfl
   have st:=half_set hl (j:=i) (by simp;omega)
   rw [g,←h3] at st
   rw [br_of (by simp;omega),ck_of (by simp;omega),ck_of (by simp;omega),wsucc (j:=i) (by omega)]
   exact L15_16_spec hn b κ f (i+1) _ (by omega) (by omega) st
  ·have:i=n:=by omega
   subst this
   have e:=half_all hl
   rw [List.length_replicate] at e
   rw [e] at h3
   rw [br_no (by simp),h3]
theorem ones_lc {k:Nat} (k0:1≤k) (k1:k≤24):Lc 2 k [List.replicate k 1]:=by
 have g:∀ j,j<k→(List.replicate k (1:Int)).getD j 0=1:=fun j hj=>by rw [List.getD_eq_getElem?_getD,List.getElem?_replicate,if_pos hj];rfl
 refine ⟨by decide,k0,k1,fun _=>0,⟨fun i hi=>?_,fun i hi=>by omega,fun i j h1 h2=>?_,fun i hi=>?_,fun i j h1 h2 h3=>?_,fun i j h1 h2=>by omega⟩⟩
 ·have:i=0:=by simpa using hi
  subst this
  refine ⟨by simp,fun j hj=>?_⟩
  show 0≤(List.replicate k (1:Int)).getD j 0∧(List.replicate k (1:Int)).getD j 0<_
  rw [g j hj]
  decide
 ·simp at h2;omega
 ·have:i=0:=by simpa using hi
  subst this
  exact g 0 (by omega)
 ·simp at h1 h2;omega
theorem br_same {τ:Type} {c d:Bool} {X T:Option τ} (h:c=true→d=false):br c (br d X T) T=T:=by
 cases c with
 | false=>rfl
 | true=>rw [h rfl];rfl
theorem small_count:∀ d:Nat,d≤12→(((cnt 2 d:Nat):Int)==(wr IntKind.i64 ((1:Int)*(@HPow.hPow Int Nat Int (@instHPow Int Nat (@instPowNat Int Int.instNatPow)) (2:Int) (min d 64)))))=true:=by
 intro d hd
 have:∀ d:Fin 13,(((cnt 2 d.val:Nat):Int)==(wr IntKind.i64 ((1:Int)*(@HPow.hPow Int Nat Int (@instHPow Int Nat (@instPowNat Int Int.instNatPow)) (2:Int) (min d.val 64)))))=true:=by decide +kernel
 exact this ⟨d,by omega⟩
theorem F15_true {ls:LS_} (h:okLs [.int .u8,.int .u8,.int .u8,.arr (.i .u8),.arr (.i .i64),.int .u8] ls) {τ:Type} (k:Nat→LS_→Option τ):F15 ls k=k 0 [.B true]:=by
 have hfu:=fuel_le
 obtain ⟨Q,N,K,L,l1,rfl,hQ,hN,hK,hL,h1⟩:=raw13 h
 obtain ⟨x1,l2,rfl,a1,h2⟩:=okLs_cons h1
 obtain ⟨y,rfl,ys,_⟩:=ok_arr a1
 obtain ⟨x2,l3,rfl,a2,h3⟩:=okLs_cons h2
 obtain ⟨I,rfl,b2⟩:=ok_int a2
 have hI:=wf_u8 b2
 obtain ⟨m,rfl⟩:∃ m:Nat,I=m:=⟨I.toNat,by omega⟩
 obtain ⟨q,n,G,hc,hT⟩:=T35_spec hQ hN hK hL
 have C:=hc.lc
 unfold F15 T34
 simp only [g_,sw_zero]
 rw [br_no (b:=!true) rfl]
 by_cases hy:y.length>40
 ·rw [br_of (by simp;omega)]
 have ysm:y.length<2^60:=by omega
 obtain ⟨w1,c1,h47,e1⟩:∃ (w:List Int) (c:Int),(∀ {τ:Type} (k:Nat→LS_→Option τ),T47 [.I q,.I n,.LL G,.L y] k=k 0 [.L w,.I c])∧(c==1)=!isWord q n y:=by
  cases hw:isWord q n y with
  | true =>
   by_cases hs:Sp q n (fadd q) (fmul q) G y
   ·exact ⟨_,_,fun k=>T47_ok C (isWord_to hw) hs k,rfl⟩
   ·exact ⟨_,_,fun k=>T47_not C (isWord_to hw) hs k,rfl⟩
  | false=>exact ⟨_,_,fun k=>T47_no C ysm hw k,rfl⟩
 obtain ⟨w2,c2,h57,e2⟩:∃ (w:List Int) (c:Int),(∀ {τ:Type} (k:Nat→LS_→Option τ),T57 [.I q,.I n,.LL G,.L y] k=k 0 [.L w,.I c])∧(c==1)=!isWord q n y:=by
  cases hw:isWord q n y with
  | true=>exact ⟨_,_,fun k=>T57_ok C (isWord_to hw) k,rfl⟩
  | false=>exact ⟨_,_,fun k=>T57_no C ysm hw k,rfl⟩
 obtain ⟨w3,c3,h49,e3,z3⟩:∃ (w:List Int) (c:Int),(∀ {τ:Type} (k:Nat→LS_→Option τ),T49 [.I q,.I n,.LL G,.L y] k=k 0 [.L w,.I c])∧(c==1)=(!isWord q G.length y)∧(isWord q G.length y=false→w=[]):=by
  cases hw:isWord q G.length y with
  | true=>exact ⟨_,_,fun k=>T49_ok C hw k,rfl,fun e=>by cases e⟩
  | false=>exact ⟨_,_,fun k=>T49_no C ysm hw k,rfl,fun _=>rfl⟩
 rw [br_no (by simp;omega),ck_of (by simp),hT]
 unfold T31
 simp only [g_,sw_zero]
 rw [ck_of (by simp),F31_spec q n ysm]
 simp only [sw_zero,gB_zero]
 rw [ck_of (by simp),F31_spec q _ ysm]
 simp only [sw_zero,gB_zero]
 rw [ck_of (by simp),h47]
 simp only [sw_zero,gI_zero,gI_succ]
 rw [ck_of (by simp),h57]
 simp only [sw_zero,gI_zero,gI_succ]
 rw [ck_of (by simp),h49]
 simp only [sw_zero,gI_zero,gI_succ,gL_zero]
 rw [br_no (by rw [e1];cases isWord q n y <;> rfl),br_no (by rw [e2];cases isWord q n y <;> rfl),br_no (by rw [e3];cases isWord q G.length y <;> rfl),
  br_same (fun e=>by rw [z3 (by simpa using e)];rfl)]
 have em:wr .i64 (12+wr .i64 (Int.tmod (m:Int) 13))=((12+m % 13:Nat):Int):=by
  rw [show Int.tmod (m:Int) 13=((m % 13:Nat):Int) from (Int.ofNat_tmod m 13).symm]
  rw [wr64 (n:=((m % 13:Nat):Int)) (by omega) (by omega),wr64 (by omega) (by omega)]
  rfl
 rw [em]
 obtain ⟨kk,hk,k0,k1⟩:∃ kk:Nat,12+m % 13=kk∧1≤kk∧kk≤24:=⟨_,rfl,by omega,by omega⟩
 rw [hk,F32_spec (by omega)]
 simp only [sw_zero,gN_zero,gL_succ,gL_zero]
 unfold L15_16.b
 refine (L15_16_spec (by omega) true _ fuel 0 _ (by omega) (by omega) (by simp)).trans ?_
 simp only [g_,sw_zero,Nat.mul_one,List.drop_zero]
 have hO:=ones_lc k0 k1
 obtain ⟨hD,dd,_⟩:=hO.dual
 have t1:List.take kk (List.replicate kk (1:Int))=List.replicate kk 1:=List.take_of_length_le (by simp)
 rw [t1,show List.take 1 [List.replicate kk (1:Int)]=[List.replicate kk 1] from rfl]
 have h46:∀ {τ:Type} (k:Nat→LS_→Option τ),T46 [.I 2,.I kk,.LL [List.replicate kk 1]] k=k 0 [.I 2,.I kk,.LL [List.replicate kk 1],.I 0]:=fun k=>by
  have:=T46_ok (q:=2) (by decide) k0 k1 (by simp) hO.rows.wd (by rw [redR_self hO,List.length_singleton];decide) k
  rw [redR_self hO] at this
  exact this
 have h36:∀ {τ:Type} (k:Nat→LS_→Option τ),T36 [.I 2,.I kk,.LL [List.replicate kk 1]] k=k 0 [.I 2,.I kk,.LL (dualR 2 kk [List.replicate kk 1])]:=fun k=>T36_spec hO k
 rw [ck_of (by simp),h46]
 simp only [g_,sw_zero]
 rw [ck_of (by simp),h36]
 simp only [g_,sw_zero]
 generalize dualR 2 kk [List.replicate kk 1]=D at hD dd ⊢
 have dk:D.length+1=kk:=dd
 have d64:=hD.len
 have h37:∀ {τ:Type} (k:Nat→LS_→Option τ),T37 [.I 2,.I kk,.LL D] k=k 0 [.B true]:=fun k=>by
  have:=F37_spec (q:=2) (by decide) kk (G:=D) (by omega) hD.short k
  rw [hD.valid] at this
  exact this
 have h48:∀ {τ:Type} (k:Nat→LS_→Option τ),T48 [.I 2,.I kk,.LL D] k=k 0 [.I ((cnt 2 D.length:Nat):Int)]:=fun k=>F48_spec (q:=2) (by omega) (by omega) kk D (by omega) k
 obtain ⟨c,W,a,b,M,H,z,cc,h64,h46',h42,h50⟩:∃ (c:Int) (W:List (List Int)) (a b:Int) (M:List (List Int)) (H:List Int) (z:Int),((13≤D.length∧c=2)∨(D.length≤12∧c=0)) ∧
   (∀ {τ:Type} (k:Nat→LS_→Option τ),T64 [.I 2,.I kk,.LL D] k=k 0 [.LL W,.I c])∧(∀ {τ:Type} (k:Nat→LS_→Option τ),T46 [.I 2,.I kk,.LL D] k=k 0 [.I a,.I b,.LL M,.I c]) ∧
   (∀ {τ:Type} (k:Nat→LS_→Option τ),T42 [.I 2,.I kk,.LL D] k=k 0 [.L H,.I c])∧(∀ {τ:Type} (k:Nat→LS_→Option τ),T50 [.I 2,.I kk,.LL D] k=k 0 [.I z,.I c]):=by
  by_cases hd:13≤D.length
  ·have hp:4096<2^D.length:=Nat.lt_of_lt_of_le (by decide) (Nat.pow_le_pow_right (n:=2) (by omega) hd)
   exact ⟨2,[],0,0,[],[],0,.inl ⟨hd,rfl⟩,fun k=>T64_big hD hp k,fun k=>T46_big (q:=2) (by decide) k0 k1 (by omega) hD.rows.wd (by rw [redR_self hD];exact hp) k,fun k=>T42_big hD hp k,fun k=>T50_big hD hp k⟩
  ·have hp:2^D.length≤4096:=Nat.le_trans (Nat.pow_le_pow_right (n:=2) (by omega) (show D.length≤12 by omega)) (by decide)
   have h0:D.length≠0:=by omega
   exact ⟨0,_,2,kk,_,_,_,.inr ⟨by omega,rfl⟩,fun k=>T64_lc hD hp k,fun k=>T46_ok (q:=2) (by decide) k0 k1 (by omega) hD.rows.wd (by rw [redR_self hD];exact hp) k,fun k=>T42_lc hD hp k,fun k=>(T50_lc hD hp k).trans (if_neg h0)⟩
 have ek:wr .i64 ((kk:Int)-1)=((D.length:Nat):Int):=by rw [wr64 (by omega) (by omega)];omega
 rw [br_no (by rfl),ck_of (by simp),h37]
 simp only [sw_zero,gB_zero]
 rw [br_no (b:=!true) rfl,ck_of (by simp)]
 unfold T38
 rw [F38_spec,ek]
 simp only [sw_zero,gI_zero]
 rw [br_no (by simp),ck_of (by simp),h64]
 simp only [sw_zero,gI_zero,gI_succ]
 rw [ck_of (by simp),h46']
 simp only [sw_zero,gI_zero,gI_succ]
 rw [ck_of (by simp),h42]
 simp only [sw_zero,gI_zero,gI_succ]
 rw [ck_of (by simp),h50]
 simp only [sw_zero,gI_zero,gI_succ]
 rcases cc with ⟨hd,rfl⟩ | ⟨hd,rfl⟩
 ·rw [br_of (by simp;omega),br_of (by rfl),br_of (by rfl),br_of (by rfl),br_of (by rfl),ck_of (by simp),h48]
  simp only [sw_zero,gI_zero]
  have hp:4096<2^D.length:=Nat.lt_of_lt_of_le (by decide) (Nat.pow_le_pow_right (n:=2) (by omega) hd)
  rw [br_of (by unfold cnt;rw [if_neg (by omega)];rfl)]
 ·rw [br_no (by simp only [gtI_no];omega),br_of (by rfl),br_of (by rfl),br_of (by rfl),br_of (by rfl),ck_of (by simp),h48]
  simp only [sw_zero,gI_zero,Int.toNat_natCast]
  rw [ck_of (by simp),br_of (small_count _ hd)]
theorem law15 (ls:LS_) (h:okLs ([PV2.agg [.int .u8,.int .u8,.int .u8,.arr (.i .u8)],PV2.v (.arr (.i .i64)),PV2.v (.int .u8)].flatMap cells2) ls):CS P 15 (fL2 ls [PV2.agg [.int .u8,.int .u8,.int .u8,.arr (.i .u8)],PV2.v (.arr (.i .i64)),PV2.v (.int .u8)] 0) ⟨.bool true,[]⟩ :=
 F_ok F15.eq ((F15_true h _).trans (by kernel_rfl))
end
end Go.Proofs.Ytbpjicbpcfkpfaa.Ai
