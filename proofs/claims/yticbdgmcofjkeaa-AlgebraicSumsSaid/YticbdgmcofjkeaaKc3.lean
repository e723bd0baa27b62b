/-
Part 3 of 7 of the texts for one claim: Ai24 Rw0 Ma1 Tb0 Fd Fr Tb1 Tb6 Tb2 Fd4 Tb4 Tb5 Fi Tb8 Tb7 Tb3 Xa.
-/
import Derived.WalkKit
import Derived.ProofKit
import Derived.OpenShut
import Derived.ChangeOld
import Derived.Below
import Derived.Carry
import Derived.SizedLaws
import Derived.ChangeShapes
import Derived.ChangeSlices
import Derived.Deep.Slices
import Derived.Deep.Matrix
import Derived.Test.YticbdgmcofjkeaaKc2
set_option linter.unusedVariables false
set_option linter.unusedSimpArgs false
namespace Go.Proofs.Yticbdgmcofjkeaa.Ai
open Go Go.RowKit
noncomputable section
def us (k:Nat) (r:List PV2):List PV2:=Nat.rec r (fun _ ih=>u::ih) k
abbrev nS:PV2:=.v .nilS
abbrev p1 (k:Nat):PV1:=.ptr k (some 0) (some 0)
abbrev r1 (k:Nat):PV1:=.ref k (some 0) (some 0) none 1
abbrev pp (k:Nat):PV2:=.v (p1 k)
abbrev rr (k:Nat):PV2:=.v (r1 k)
abbrev pC (n:Int):PV2:=.v (.intC .i64 n)
abbrev iI:PV1:=.int .i64
abbrev aI:PV1:=.arr (.i .i64)
abbrev aM:PV1:=.arr (.m .i64)
abbrev cI:PC:=.c (.i .i64)
abbrev cM:PC:=.c (.m .i64)
abbrev oG (l:List PV2):PO:=.cells false true (.g l)
abbrev oI:PO:=.cells true true cI
abbrev oM:PO:=.cells true true cM
abbrev oB:PO:=.cells true true (.c .b)
def LEq (O:Orc P) (H:LHead) (t:Nat) (s:∀ {τ:Type},(Nat→LS_→Option τ)→(Nat→LS_→Option τ)→LS_→Option τ):Prop :=
 ∀ {τ:Type} (next:Nat→LS_→Option τ) (κ:Out→St→Option τ) (l:LS_),O.ev Cf (execC P Cf H.ns H.gc (H.fl / 4096) 0 (lkf P H.cl) H.af (fS (lget ⟨[],[]⟩ H.pats t) l) fun e st'=>.done (e,st')) (fun x=>after H next κ x.1 x.2)=s next (fun j l=>sel H.ex (fun x=>κ x.1 (fS x.2 l)) j) l
section
variable {O:Orc P} {H:LHead} {s0 s1 s2 s3:∀ {τ:Type},(Nat→LS_→Option τ)→(Nat→LS_→Option τ)→LS_→Option τ}
def LStep.mk1 (hfl:(Nat.beq H.fl 0 || Nat.beq H.cl H.fl)=true) (e0:LEq O H 0 s0):LStep P Cf where
 toLHead:=H
 hfl:=hfl
 step:=fun next ex t l=>(sw (s0 next ex l) (fun _=>none)) t
 ok:=fun next κ tag l r h=>match tag,h with
  | 0,h=>Orc.round cfgOk O H ((e0 next κ l).trans h)
  | _+1,h=>nomatch h
def LStep.mk2 (hfl:(Nat.beq H.fl 0 || Nat.beq H.cl H.fl)=true) (e0:LEq O H 0 s0) (e1:LEq O H 1 s1):LStep P Cf where
 toLHead:=H
 hfl:=hfl
 step:=fun next ex t l=>(sw (s0 next ex l) (sw (s1 next ex l) (fun _=>none))) t
 ok:=fun next κ tag l r h=>match tag,h with
  | 0,h=>Orc.round cfgOk O H ((e0 next κ l).trans h)
  | 1,h=>Orc.round cfgOk O H ((e1 next κ l).trans h)
  | _+2,h=>nomatch h
def LStep.mk3 (hfl:(Nat.beq H.fl 0 || Nat.beq H.cl H.fl)=true) (e0:LEq O H 0 s0) (e1:LEq O H 1 s1) (e2:LEq O H 2 s2):LStep P Cf where
 toLHead:=H
 hfl:=hfl
 step:=fun next ex t l=>(sw (s0 next ex l) (sw (s1 next ex l) (sw (s2 next ex l) (fun _=>none)))) t
 ok:=fun next κ tag l r h=>match tag,h with
  | 0,h=>Orc.round cfgOk O H ((e0 next κ l).trans h)
  | 1,h=>Orc.round cfgOk O H ((e1 next κ l).trans h)
  | 2,h=>Orc.round cfgOk O H ((e2 next κ l).trans h)
  | _+3,h=>nomatch h
def LStep.mk4 (hfl:(Nat.beq H.fl 0 || Nat.beq H.cl H.fl)=true) (e0:LEq O H 0 s0) (e1:LEq O H 1 s1) (e2:LEq O H 2 s2) (e3:LEq O H 3 s3):LStep P Cf where
 toLHead:=H
 hfl:=hfl
 step:=fun next ex t l=>(sw (s0 next ex l) (sw (s1 next ex l) (sw (s2 next ex l) (sw (s3 next ex l) (fun _=>none))))) t
 ok:=fun next κ tag l r h=>match tag,h with
  | 0,h=>Orc.round cfgOk O H ((e0 next κ l).trans h)
  | 1,h=>Orc.round cfgOk O H ((e1 next κ l).trans h)
  | 2,h=>Orc.round cfgOk O H ((e2 next κ l).trans h)
  | 3,h=>Orc.round cfgOk O H ((e3 next κ l).trans h)
  | _+4,h=>nomatch h
end
section
variable {O:Orc P} {H:LHead} {s0 s1 s2 s3 s4 s5 s6 s7 s8 s9 s10 s11 s12:∀ {τ:Type},(Nat→LS_→Option τ)→(Nat→LS_→Option τ)→LS_→Option τ}
def LStep.mk13 (hfl:(Nat.beq H.fl 0 || Nat.beq H.cl H.fl)=true) (e0:LEq O H 0 s0) (e1:LEq O H 1 s1) (e2:LEq O H 2 s2) (e3:LEq O H 3 s3) (e4:LEq O H 4 s4) (e5:LEq O H 5 s5) (e6:LEq O H 6 s6) (e7:LEq O H 7 s7) (e8:LEq O H 8 s8) (e9:LEq O H 9 s9) (e10:LEq O H 10 s10) (e11:LEq O H 11 s11) (e12:LEq O H 12 s12):LStep P Cf where
 toLHead:=H
 hfl:=hfl
 step:=fun next ex t l=>(sw (s0 next ex l) (sw (s1 next ex l) (sw (s2 next ex l) (sw (s3 next ex l) (sw (s4 next ex l) (sw (s5 next ex l) (sw (s6 next ex l) (sw (s7 next ex l) (sw (s8 next ex l) (sw (s9 next ex l) (sw (s10 next ex l) (sw (s11 next ex l) (sw (s12 next ex l) (fun _=>none)))))))))))))) t
 ok:=fun next κ tag l r h=>match tag,h with
  | 0,h=>Orc.round cfgOk O H ((e0 next κ l).trans h)
  | 1,h=>Orc.round cfgOk O H ((e1 next κ l).trans h)
  | 2,h=>Orc.round cfgOk O H ((e2 next κ l).trans h)
  | 3,h=>Orc.round cfgOk O H ((e3 next κ l).trans h)
  | 4,h=>Orc.round cfgOk O H ((e4 next κ l).trans h)
  | 5,h=>Orc.round cfgOk O H ((e5 next κ l).trans h)
  | 6,h=>Orc.round cfgOk O H ((e6 next κ l).trans h)
  | 7,h=>Orc.round cfgOk O H ((e7 next κ l).trans h)
  | 8,h=>Orc.round cfgOk O H ((e8 next κ l).trans h)
  | 9,h=>Orc.round cfgOk O H ((e9 next κ l).trans h)
  | 10,h=>Orc.round cfgOk O H ((e10 next κ l).trans h)
  | 11,h=>Orc.round cfgOk O H ((e11 next κ l).trans h)
  | 12,h=>Orc.round cfgOk O H ((e12 next κ l).trans h)
  | _+13,h=>nomatch h
end
def LStep.EN (n:Nat) (e:LStep P Cf):LEnt P:=e.ent cfgOk (fun t l κ=>runE e n κ t l) fun t l κ r h=>⟨n,h⟩
def LStep.E (e:LStep P Cf):LEnt P:=e.ent cfgOk (fun t l κ=>runE e fuel κ t l) fun t l κ r h=>⟨fuel,h⟩
def FEq (O:Orc P) (f:FuncId) (ps:List PV2) (sh:List PA) (F:∀ {τ:Type},LS_→(Nat→LS_→Option τ)→Option τ):Prop :=
 ∀ {τ:Type} (l:LS_) (κ:Ans→Option τ),O.ev Cf (callT P Cf f (fL2 l ps 0)) κ=F l (fun j m=>sel sh (fun s=>κ (fA s m)) j)
def mkF {O:Orc P} {f:FuncId} {ps:List PV2} {sh:List PA} {F:∀ {τ:Type},LS_→(Nat→LS_→Option τ)→Option τ} (h:FEq O f ps sh F):Ent P :=
 ⟨f,ps,sh,fun l k=>F l k,fun l κ r e=>Orc.call cfgOk O ((h l κ).trans e)⟩
def SEq (O:Orc P) (H:SHead) (S:∀ {τ:Type},LS_→(Nat→LS_→Option τ)→Option τ):Prop :=
 ∀ {τ:Type} (l:LS_) (κ:AV→List AObj→Option τ),O.ev Cf (scallT P Cf (.fn H.f (fL2 l H.cs (nL2 H.ps))) (fL2 l H.ps 0) (fLO l H.hp (nL2 H.cs+nL2 H.ps)))
  (fun p=>κ (gcV H.hp.length p.1 p.2).1 (gcV H.hp.length p.1 p.2).2)=S l (fun j m=>sel H.sh (fun s=>κ (f2 m s.1 0) (fLO m s.2 s.1.n)) j)
theorem fLO_length (l:LS_):∀ (ps:List PO) (i:Nat),(fLO l ps i).length=ps.length
 | [],_=>rfl
 | _::ps,i=>congrArg (·+1) (fLO_length l ps _)
def mkS {O:Orc P} {H:SHead} {S:∀ {τ:Type},LS_→(Nat→LS_→Option τ)→Option τ} (h:SEq O H S):SDyn P H :=
 ⟨fun l k=>S l k,fun l κ r e=>Orc.scallV cfgOk O (by rw [fLO_length];exact (h l κ).trans e)⟩
end
end Go.Proofs.Yticbdgmcofjkeaa.Ai
namespace Go.Proofs.Yticbdgmcofjkeaa.Ai
open Go Go.RowKit Go.ChangeShapes Go.WideShapes Go.ChangeAt Go.Deep
noncomputable section
def FB (W:World):Nat→Prop:=fun b=>∃ C t fr,W.heap[b]?=some (Obj.cells C t fr)
def wfI (k:IntKind) (n:Int):Prop:=(Lit.int k n).wf=true
def okLeaf:PV1→Leaf→Prop
 | .bool,.B _=>True
 | .int k,.I n=>wfI k n
 | .arr (.i k),.L l=>l.length≤maxLen∧∀ n∈l,wfI k n
 | .arr (.m k),.LL l=>l.length≤maxLen∧∀ r∈l,r.length≤maxLen∧∀ n∈r,wfI k n
 | .ar2 k,.L l=>l.length≤2*maxLen∧l.length % 2=0∧∀ n∈l,wfI k n
 | _,_=>False
def RdC (W:World) (p:PV1) (v:Value):Prop:=∃ x:Leaf,okLeaf p x∧Rel noMap (FB W) W (f1 [x] p 0) v
def flatF (P:Program) (g:TypeId→Option (List PV1)):List Field→Nat→Option (List PV1)
 | [],_=>some []
 | f::fs,o=>if f.offset=o then (match g f.type,flatF P g fs (o+P.cellsOf f.type) with
  | some ps,some qs=>if P.cellsOf f.type=ps.length then some (ps++qs) else none
  | _,_=>none) else none
def flat (P:Program):Nat→TypeId→Option (List PV1)
 | 0,_=>none
 | n+1,t=>match P.underlying t with
  | some .bool=>some [.bool]
  | some (.int k)=>some [.int k]
  | some (.slice e)=>(match P.underlying e with
   | some (.int k)=>if P.cellsOf e=1 then some [.arr (.i k)] else none
   | some (.slice q)=>(match P.underlying q with
    | some (.int k)=>if P.cellsOf e=1∧P.cellsOf q=1 then some [.arr (.m k)] else none
    | _=>none)
   | some (.array 2 q)=>(match P.underlying q with
    | some (.int k)=>if P.cellsOf e=2∧P.cellsOf q=1 then some [.ar2 k] else none
    | _=>none)
   | _=>none)
  | some (.struct fs)=>flatF P (flat P n) fs.toList 0
  | some (.array m e)=>(match flat P n e with
   | some ps=>if P.cellsOf e=ps.length then some (List.replicate m ps).flatten else none
   | none=>none)
  | _=>none
section
variable {P:Program} {H:Type} {enc:TypeId×Value→H} {W:World}
theorem cell_FB {a:Addr} {v:Value} (h:W.cell? a=some v):FB W a.block∧a.spot=none:=by
 unfold World.cell? at h
 split at h
 ·rename_i c t fr e
  split at h
  ·cases h
  ·rename_i hs
   exact ⟨⟨c,t,fr,e⟩,by cases hq:a.spot <;> simp_all⟩
 ·cases h
theorem addr_add {a:Addr} (h:a.spot=none) (i:Nat):a.add i=⟨a.block,a.off+i,none⟩:=by
 unfold Addr.add
 split
 ·rename_i e;subst e;cases a;simp at h;subst h;rfl
 ·rfl
theorem rd_row {k:IntKind} {a:Addr} {len cap:Nat} {zs:List Int} (hl:len≤cap) (hm:cap≤maxLen) (hz:zs.length=cap) (hc:∀ i,i<zs.length→W.cell? (a.add i)=some (.int k (zs.getD i 0))) (hw:∀ n∈zs,wfI k n) :
  ∃ l:List Int,(l.length=len∧l.length≤maxLen∧∀ n∈l,wfI k n)∧Rel noMap (FB W) W (.sl l.length (.i k l)) (.slice (some a) len cap):=by
 refine ⟨zs.take len,⟨by simp;omega,by simp;omega,fun n hn=>hw n (List.mem_of_mem_take hn)⟩,?_⟩
 have e:(zs.take len).length=len:=by simp;omega
 by_cases h0:len=0
 ·subst h0
  exact .sl0 _ _ _ (by simp)
 ·obtain ⟨b1,b2⟩:=cell_FB (hc 0 (by omega))
  have b1':FB W a.block:=b1
  have b2':a.spot=none:=b2
  have hA:a=⟨a.block,a.off,none⟩:=by cases a;simp at b2';subst b2';rfl
  rw [e,hA]
  refine .sl (fun i=>.int k (zs.getD i 0)) hl b1' (fun j hj=>?_) (fun j hj=>?_)
  ·have hj':j<len:=by simpa [Cells.len,e] using hj
   have:=hc j (by omega)
   rwa [addr_add b2'] at this
  ·have hj':j<len:=by simpa [Cells.len,e] using hj
   have:(Cells.i k (zs.take len)).get j=.int k (zs.getD j 0):=by
    simp [Cells.get,List.getD_eq_getElem?_getD,List.getElem?_take,hj']
   rw [this]
   exact .int _ _
theorem rd_ints {t e:TypeId} {k:IntKind} {fuel:Nat} {cs:List Value} {x:DataW H×List MemPlace} (ht:P.underlying t=some (.slice e)) (he:P.underlying e=some (.int k)) (hc:P.cellsOf e=1)
  (h:DataW.trod enc P W 0 (fun _=>true) true fuel t cs=some x):∃ v,cs=[v]∧RdC W (.arr (.i k)) v:=by
 rcases open_ints ht he hc h with ⟨rfl,_⟩ | ⟨a,len,cap,zs,rfl,_,hl,hm,hz,_,hcell,hw⟩
 ·exact ⟨_,rfl,.L [],⟨by simp,by simp⟩,.sl0 _ _ _ (by simp)⟩
 ·simp only [if_true] at hz
  obtain ⟨l,⟨_,h1,h2⟩,h3⟩:=rd_row hl hm hz hcell hw
  exact ⟨_,rfl,.L l,⟨h1,h2⟩,h3⟩
theorem rd_rows {t e q:TypeId} {k:IntKind} {fuel:Nat} {cs:List Value} {x:DataW H×List MemPlace} (ht:P.underlying t=some (.slice e)) (he:P.underlying e=some (.slice q)) (hq:P.underlying q=some (.int k)) (ce:P.cellsOf e=1) (cq:P.cellsOf q=1)
  (h:DataW.trod enc P W 0 (fun _=>true) true fuel t cs=some x):∃ v,cs=[v]∧RdC W (.arr (.m k)) v:=by
 rcases open_int_rows ht he hq ce cq h with ⟨rfl,_⟩ | ⟨a,len,cap,A,L,C,Z,rfl,_,hl,hm,_,hr⟩
 ·exact ⟨_,rfl,.LL [],⟨by simp,by simp⟩,.sl0 _ _ _ (by simp)⟩
 ·have each:∀ r,r<cap→∃ l:List Int,(l.length=L r∧l.length≤maxLen∧∀ n∈l,wfI k n)∧Rel noMap (FB W) W (.sl l.length (.i k l)) (.slice (A r) (L r) (C r)):=by
   intro r hrc
   obtain ⟨h1,h2,h3,h4,h5,h6,h7⟩:=hr r hrc
   cases hA:A r with
   | none =>
    have:=h6 hA
    have hL:L r=0:=by omega
    refine ⟨[],⟨by simp [hL],by simp,by simp⟩,?_⟩
    rw [hL]
    exact .sl0 _ _ _ (fun _=>this)
   | some a' =>
    exact rd_row h2 h3 h4 (fun i hi=>(h7 a' hA).2 i (by omega)) h5
  obtain ⟨l,hlr⟩:=choose_lt each
  refine ⟨_,rfl,.LL ((List.range len).map l),⟨by simp;omega,fun r hr'=>?_⟩,?_⟩
  ·obtain ⟨i,hi,rfl⟩:=List.mem_map.1 hr'
   exact (hlr i (by have:=List.mem_range.1 hi;omega)).1.2
  ·show Rel noMap (FB W) W (.sl ((List.range len).map l).length (.m k ((List.range len).map l))) _
   rw [List.length_map,List.length_range]
   by_cases h0:len=0
   ·subst h0
    exact .sl0 _ _ _ (by simp)
   ·obtain ⟨b1,b2⟩:=cell_FB (hr 0 (by omega)).1
    have b1':FB W a.block:=b1
    have b2':a.spot=none:=b2
    have hA:a=⟨a.block,a.off,none⟩:=by cases a;simp at b2';subst b2';rfl
    rw [hA]
    refine .sl (fun i=>.slice (A i) (L i) (C i)) hl b1' (fun j hj=>?_) (fun j hj=>?_)
    ·have hj':j<len:=by simpa [Cells.len] using hj
     have:=(hr j (by omega)).1
     rwa [addr_add b2'] at this
    ·have hj':j<len:=by simpa [Cells.len] using hj
     have:(Cells.m k ((List.range len).map l)).get j=row k (l j):=by
      simp [Cells.get,List.getD_eq_getElem?_getD,hj']
     rw [this]
     exact (hlr j (by omega)).2
theorem rd_pairs {t e q:TypeId} {k:IntKind} {fuel:Nat} {cs:List Value} {x:DataW H×List MemPlace} (ht:P.underlying t=some (.slice e)) (he:P.underlying e=some (.array 2 q)) (hq:P.underlying q=some (.int k)) (ce:P.cellsOf e=2) (cq:P.cellsOf q=1)
  (h:DataW.trod enc P W 0 (fun _=>true) true fuel t cs=some x):∃ v,cs=[v]∧RdC W (.ar2 k) v:=by
 rcases open_slice ht h with ⟨rfl,_⟩ | ⟨a,len,cap,m,n,D,Pl,rfl,hb,hl,hm,hmm,rfl,hx⟩
 ·exact ⟨_,rfl,.L [],⟨by simp,by simp,by simp⟩,.sl0 _ _ _ (by simp)⟩
 ·simp only [if_true] at hmm
  have each:∀ p,p<cap*2→∃ z:Int,wfI k z∧W.cell? (a.add p)=some (.int k z):=by
   intro p hp
   obtain ⟨cs',h1,h2⟩:=hx (p / 2) (by omega)
   rw [ce] at h1
   obtain ⟨_,hlen,hcell⟩:=World.cells?_some h1
   obtain ⟨xs,m',_,_,_,hxl,hf⟩:=DataW.trod_array he h2
   have g:=hf (p % 2) (by omega)
   rw [cq,Nat.mul_one,List.getElem?_eq_getElem (by omega)] at g
   obtain ⟨z,e1,_,hw⟩:=DataW.trod_int hq g
   have ec:=hcell (p % 2) (by omega)
   rw [add_add,show p / 2*2+p % 2=p by omega] at ec
   refine ⟨z,hw,?_⟩
   rw [ec]
   have:=congrArg (fun l:List Value=>l[0]?) e1
   simp only [List.getElem?_take,List.getElem?_drop,List.getElem?_cons_zero] at this
   simpa using this
  obtain ⟨z,hz⟩:=choose_lt each
  have e2:((List.range (len*2)).map z).length=len*2:=by simp
  refine ⟨_,rfl,.L ((List.range (len*2)).map z),⟨by rw [e2];omega,by rw [e2];omega,fun r hr'=>?_⟩,?_⟩
  ·obtain ⟨i,hi,rfl⟩:=List.mem_map.1 hr'
   exact (hz i (by have:=List.mem_range.1 hi;omega)).1
  ·show Rel noMap (FB W) W (.sl (((List.range (len*2)).map z).length / 2) (.i k ((List.range (len*2)).map z))) _
   rw [e2,Nat.mul_div_cancel _ (by omega)]
   by_cases h0:len=0
   ·subst h0
    exact .sl0 _ _ _ (by simp)
   ·obtain ⟨b1,b2⟩:=cell_FB (hz 0 (by omega)).2
    have b1':FB W a.block:=b1
    have b2':a.spot=none:=b2
    have hA:a=⟨a.block,a.off,none⟩:=by cases a;simp at b2';subst b2';rfl
    rw [hA]
    refine .sl (fun i=>.int k (z i)) hl b1' (fun j hj=>?_) (fun j hj=>?_)
    ·have hj':j<len*2:=by simpa [Cells.len] using hj
     have:=(hz j (by omega)).2
     rwa [addr_add b2'] at this
    ·have hj':j<len*2:=by simpa [Cells.len] using hj
     have:(Cells.i k ((List.range (len*2)).map z)).get j=.int k (z j):=by
      simp [Cells.get,List.getD_eq_getElem?_getD,hj']
     rw [this]
     exact .int _ _
def RdL (W:World) (ps:List PV1) (cs:List Value):Prop:=cs.length=ps.length∧∀ j,j<ps.length→RdC W (ps.getD j .undef) (cs.getD j Go.undef)
theorem RdL.append {ps qs:List PV1} {cs ds:List Value} (h:RdL W ps cs) (k:RdL W qs ds):RdL W (ps++qs) (cs++ds):=by
 refine ⟨by rw [List.length_append,List.length_append,h.1,k.1],fun j hj=>?_⟩
 by_cases hl:j<ps.length
 ·rw [List.getD_eq_getElem?_getD,List.getD_eq_getElem?_getD,List.getElem?_append_left hl,List.getElem?_append_left (by rw [h.1];exact hl),←List.getD_eq_getElem?_getD,←List.getD_eq_getElem?_getD]
  exact h.2 j hl
 ·rw [List.getD_eq_getElem?_getD,List.getD_eq_getElem?_getD,List.getElem?_append_right (by omega),List.getElem?_append_right (by rw [h.1];omega),←List.getD_eq_getElem?_getD,←List.getD_eq_getElem?_getD,h.1]
  exact k.2 _ (by simp at hj;omega)
theorem RdL.one {p:PV1} {v:Value} (h:RdC W p v):RdL W [p] [v]:=⟨rfl,fun j hj=>by
 have:j=0:=by simp at hj;exact hj
 subst this
 exact h⟩
theorem RdL.nil:RdL W [] []:=⟨rfl,fun j hj=>by simp at hj⟩
theorem flatF_rd {n fuel:Nat} (ih:∀ t ps cs x,flat P n t=some ps→DataW.trod enc P W 0 (fun _=>true) true fuel t cs=some x→P.cellsOf t=ps.length→RdL W ps cs):∀ (fs:List Field) (o:Nat) (ps:List PV1) (cs:List Value),flatF P (flat P n) fs o=some ps→cs.length=o+ps.length →
  (∀ f∈fs,∃ y,DataW.trod enc P W 0 (fun _=>true) true fuel f.type ((cs.drop f.offset).take (P.cellsOf f.type))=some y)→RdL W ps (cs.drop o)
 | [],o,ps,cs,h,hl,_=>by
  unfold flatF at h
  cases h
  have:cs.drop o=[]:=List.drop_eq_nil_of_le (by simp at hl;omega)
  rw [this]
  exact .nil
 | f::fs,o,ps,cs,h,hl,hf=>by
  unfold flatF at h
  split at h
  ·rename_i ho
   split at h
   ·rename_i p1 p2 h1 h2
    split at h
    ·rename_i hc
     cases h
     obtain ⟨y,hy⟩:=hf f (by simp)
     have a1:=ih _ _ _ _ h1 hy hc
     have a2:=flatF_rd ih fs (o+P.cellsOf f.type) p2 cs h2 (by simp at hl;omega) (fun g hg=>hf g (by simp [hg]))
     rw [ho] at a1
     have:=a1.append a2
     rw [←List.drop_drop,List.take_append_drop] at this
     exact this
    ·cases h
   ·cases h
  ·cases h
theorem flatA_rd {n fuel:Nat} {e:TypeId} {ps:List PV1} (ih:∀ t ps cs x,flat P n t=some ps→DataW.trod enc P W 0 (fun _=>true) true fuel t cs=some x→P.cellsOf t=ps.length→RdL W ps cs) (he:flat P n e=some ps) (hc:P.cellsOf e=ps.length):∀ (m o:Nat) (cs:List Value),cs.length=(o+m)*ps.length →
  (∀ i,i<m→∃ y,DataW.trod enc P W 0 (fun _=>true) true fuel e ((cs.drop ((o+i)*P.cellsOf e)).take (P.cellsOf e))=some y)→RdL W (List.replicate m ps).flatten (cs.drop (o*ps.length))
 | 0,o,cs,hl,_=>by
  have:cs.drop (o*ps.length)=[]:=List.drop_eq_nil_of_le (by simp at hl;omega)
  rw [this]
  exact .nil
 | m+1,o,cs,hl,hf=>by
  obtain ⟨y,hy⟩:=hf 0 (by omega)
  have a1:=ih _ _ _ _ he hy hc
  have a2:=flatA_rd ih he hc m (o+1) cs (by rw [hl];congr 1;omega) (fun i hi=>by have:=hf (i+1) (by omega);rwa [show o+(i+1)=o+1+i by omega] at this)
  have:=a1.append a2
  rw [Nat.add_zero,hc,Nat.add_mul,Nat.one_mul,←List.drop_drop,List.take_append_drop] at this
  exact this
theorem flat_rd:∀ (n fuel:Nat) (t:TypeId) (ps:List PV1) (cs:List Value) (x:DataW H×List MemPlace),flat P n t=some ps→DataW.trod enc P W 0 (fun _=>true) true fuel t cs=some x→P.cellsOf t=ps.length→RdL W ps cs
 | 0,_,_,_,_,_,h,_,_=>by unfold flat at h;cases h
 | n+1,fuel,t,ps,cs,x,h,hx,hc=>by
  unfold flat at h
  split at h
  ·rename_i ht
   cases h
   obtain ⟨b,rfl,_⟩:=DataW.trod_bool ht hx
   exact .one ⟨.B b,trivial,.bool b⟩
  ·rename_i k ht
   cases h
   obtain ⟨m,rfl,_,hw⟩:=DataW.trod_int ht hx
   exact .one ⟨.I m,hw,.int k m⟩
  ·rename_i e ht
   split at h
   ·rename_i k he
    split at h
    ·rename_i h1
     cases h
     obtain ⟨v,rfl,hv⟩:=rd_ints ht he h1 hx
     exact .one hv
    ·cases h
   ·rename_i q he
    split at h
    ·rename_i k hq
     split at h
     ·rename_i h1
      cases h
      obtain ⟨v,rfl,hv⟩:=rd_rows ht he hq h1.1 h1.2 hx
      exact .one hv
     ·cases h
    ·cases h
   ·rename_i q he
    split at h
    ·rename_i k hq
     split at h
     ·rename_i h1
      cases h
      obtain ⟨v,rfl,hv⟩:=rd_pairs ht he hq h1.1 h1.2 hx
      exact .one hv
     ·cases h
    ·cases h
   ·cases h
  ·rename_i fs ht
   obtain ⟨xs,m,rfl,rfl,hl,hlen,hf⟩:=DataW.trod_struct ht hx
   have:=flatF_rd (enc:=enc) (W:=W) (n:=n) (fuel:=m) (fun t ps cs x h1 h2 h3=>flat_rd n m t ps cs x h1 h2 h3) fs.toList 0 ps cs h (by omega) (fun f hf'=>?_)
   ·simpa using this
   ·obtain ⟨i,hi,e⟩:=List.getElem_of_mem hf'
    have hi':i<fs.size:=by simpa using hi
    have:=hf i f (by rw [←e];simp [hi'])
    refine ⟨xs[i]'(by omega),?_⟩
    rw [this]
    simp [show i<xs.length by omega]
  ·rename_i m e ht
   split at h
   ·rename_i ps' he
    split at h
    ·rename_i h1
     cases h
     obtain ⟨xs,m',rfl,rfl,hl,hlen,hf⟩:=DataW.trod_array ht hx
     have:=flatA_rd (enc:=enc) (W:=W) (n:=n) (fuel:=m') (fun t ps cs x h1 h2 h3=>flat_rd n m' t ps cs x h1 h2 h3) he h1 m 0 cs (by rw [hl,hc];simp) (fun i hi=>by
      refine ⟨xs[i]'(by omega),?_⟩
      rw [Nat.zero_add,hf i hi]
      simp [show i<xs.length by omega])
     simpa using this
    ·cases h
   ·cases h
  ·cases h
def okLs (ps:List PV1) (ls:LS_):Prop:=ls.length=ps.length∧∀ j,j<ps.length→okLeaf (ps.getD j .undef) (lget (.I 0) ls j)
theorem f1_mid {p:PV1} {x:Leaf} (h:okLeaf p x) (q r:LS_) {i:Nat} (hi:i=q.length):f1 (q++(x::r)) p i=f1 [x] p 0∧p.n=1:=by
 unfold okLeaf at h
 split at h
 ·exact ⟨by simp [f1,gB,lget_mid _ q _ r i hi];rfl,rfl⟩
 ·exact ⟨by simp [f1,gI,lget_mid _ q _ r i hi];rfl,rfl⟩
 ·exact ⟨by simp only [f1,fC0,gL,lget_mid _ q _ r i hi];rfl,rfl⟩
 ·exact ⟨by simp only [f1,fC0,gLL,lget_mid _ q _ r i hi];rfl,rfl⟩
 ·exact ⟨by simp only [f1,gL,lget_mid _ q _ r i hi];rfl,rfl⟩
 ·exact h.elim
def RelV (W:World) (av:List AV) (vs:List Value):Prop:=av.length=vs.length∧∀ j,j<av.length→Rel noMap (FB W) W (av.getD j .undef) (vs.getD j Go.undef)
theorem RelV.cons {a:AV} {v:Value} {av:List AV} {vs:List Value} (h:Rel noMap (FB W) W a v) (k:RelV W av vs):RelV W (a::av) (v::vs) :=
 ⟨by simp [k.1],fun j hj=>by
  cases j with
  | zero=>exact h
  | succ j=>simpa using k.2 j (by simpa using hj)⟩
theorem RelV.nil:RelV W [] []:=⟨rfl,fun j hj=>by simp at hj⟩
theorem RdL.cons {p:PV1} {ps:List PV1} {cs:List Value} (h:RdL W (p::ps) cs):∃ v cs',cs=v::cs'∧RdC W p v∧RdL W ps cs':=by
 cases cs with
 | nil=>have:=h.1;simp at this
 | cons v cs'=>exact ⟨v,cs',rfl,by simpa using h.2 0 (by simp),by simpa using h.1,fun j hj=>by simpa using h.2 (j+1) (by simpa using hj)⟩
theorem okLs.cons {p:PV1} {ps:List PV1} {x:Leaf} {ls:LS_} (h:okLeaf p x) (k:okLs ps ls):okLs (p::ps) (x::ls):=⟨by simp [k.1],fun j hj=>by
 cases j with
 | zero=>exact h
 | succ j =>
  have:=k.2 j (by simpa using hj)
  show okLeaf (ps.getD j .undef) (lget (.I 0) ls j)
  exact this⟩
theorem okLs.tail {p:PV1} {ps:List PV1} {x:Leaf} {ls:LS_} (h:okLs (p::ps) (x::ls)):okLeaf p x∧okLs ps ls :=
 ⟨h.2 0 (by simp),by simpa using h.1,fun j hj=>h.2 (j+1) (by simpa using hj)⟩
theorem okLs.append {ps qs:List PV1} {ls ms:LS_} (h:okLs ps ls) (k:okLs qs ms):okLs (ps++qs) (ls++ms):=by
 induction ps generalizing ls with
 | nil=>have:=h.1;simp at this;subst this;exact k
 | cons p ps ih =>
  cases ls with
  | nil=>have:=h.1;simp at this
  | cons x ls=>exact .cons h.tail.1 (ih h.tail.2)
theorem rd_leaves:∀ {ps:List PV1} {cs:List Value},RdL W ps cs→∃ ls,okLs ps ls∧nL1 ps=ls.length∧∀ (q r:LS_) {i:Nat},i=q.length→RelV W (fL1 (q++(ls++r)) ps i) cs
 | [],cs,h=>by
  have:=h.1
  simp at this
  subst this
  exact ⟨[],⟨rfl,fun j hj=>by simp at hj⟩,rfl,fun q r i hi=>.nil⟩
 | p::ps,cs,h=>by
  obtain ⟨v,cs',rfl,⟨x,h1,h2⟩,h3⟩:=h.cons
  obtain ⟨ls,k1,k2,k3⟩:=rd_leaves h3
  refine ⟨x::ls,.cons h1 k1,?_,fun q r i hi=>?_⟩
  ·have:=(f1_mid h1 [] [] (i:=0) rfl).2
   simp [nL1,this,k2];omega
  ·obtain ⟨e1,e2⟩:=f1_mid h1 q (ls++r) hi
   show RelV W (f1 (q++(x::(ls++r))) p i::fL1 (q++(x::(ls++r))) ps (p.n+i)) _
   rw [e1,e2]
   have:=k3 (q++[x]) r (i:=1+i) (by simp;omega)
   rw [List.append_assoc] at this
   exact .cons h2 this
def isAggT (P:Program) (t:TypeId):Bool:=match P.underlying t with
 | some (.struct _)=>true
 | some (.array _ _)=>true
 | _=>false
inductive PatOk (P:Program):TypeId→PV2→Prop where
 | v {t:TypeId} {p:PV1} (hs:isAggT P t=false) (hf:flat P 20 t=some [p]) (hc:P.cellsOf t=1):PatOk P t (.v p)
 | agg {t:TypeId} {ps:List PV1} (hs:isAggT P t=true) (hf:flat P 20 t=some ps) (hc:P.cellsOf t=ps.length):PatOk P t (.agg ps)
inductive PatsOk (P:Program):List TypeId→List PV2→Prop where
 | nil:PatsOk P [] []
 | cons {t:TypeId} {p:PV2} {ts:List TypeId} {ps:List PV2} (h:PatOk P t p) (k:PatsOk P ts ps):PatsOk P (t::ts) (p::ps)
def cells2:PV2→List PV1
 | .v p=>[p]
 | .agg ps=>ps
 | _=>[]
theorem rd_one {t:TypeId} {p:PV2} (hp:PatOk P t p) {base:Nat} {v:Value} (hv:Value.okWide P W .any base t v) {d:DataW H} {ps:List MemPlace} (h:DataW.Trod enc P W 0 (fun _=>true) true t v d ps) :
  ∃ ls,okLs (cells2 p) ls∧p.n=ls.length∧∀ (q r:LS_) {i:Nat},i=q.length→Rel noMap (FB W) W (f2 (q++(ls++r)) p i) v:=by
 obtain ⟨fuel,h⟩:=h
 cases hp with
 | v hs hf hc =>
  have h1:=flat_rd 20 fuel t _ _ _ hf h hc
  obtain ⟨ls,k1,k2,k3⟩:=rd_leaves h1
  refine ⟨ls,k1,by simpa [nL1,PV2.n] using k2,fun q r i hi=>?_⟩
  have:=(k3 q r hi).2 0 (by simp [fL1])
  have hcell:v.cells.toList.getD 0 Go.undef=v:=by
   unfold Value.okWide at hv
   unfold isAggT at hs
   obtain ⟨w,cs',e,hw,_⟩:=h1.cons
   have hl:=h1.1
   cases v with
   | agg cs =>
    exfalso
    split at hv
    ·rename_i hq;rw [hq] at hs;cases hs
    ·rename_i hq;rw [hq] at hs;cases hs
    ·unfold Cell.okWide at hv
     split at hv <;> first | (simp_all;done) | (unfold Cell.ok at hv;split at hv <;> simp_all)
   | tuple cs =>
    exfalso
    split at hv
    ·rename_i hq;rw [hq] at hs;cases hs
    ·rename_i hq;rw [hq] at hs;cases hs
    ·unfold Cell.okWide at hv
     split at hv <;> first | (simp_all;done) | (unfold Cell.ok at hv;split at hv <;> simp_all)
   | _=>rfl
  rw [hcell] at this
  exact this
 | agg hs hf hc =>
  obtain ⟨ls,k1,k2,k3⟩:=rd_leaves (flat_rd 20 fuel t _ _ _ hf h hc)
  refine ⟨ls,k1,by simpa [PV2.n] using k2,fun q r i hi=>?_⟩
  have hvc:∃ cs,v=.agg cs:=by
   unfold Value.okWide at hv
   unfold isAggT at hs
   split at hv
   ·obtain ⟨cs,e,_⟩:=hv;exact ⟨cs,e⟩
   ·obtain ⟨cs,e,_⟩:=hv;exact ⟨cs,e⟩
   ·rename_i h1 h2
    split at hs
    ·rename_i fs hq;exact absurd hq (h1 fs)
    ·rename_i n e hq;exact absurd hq (h2 n e)
    ·cases hs
  obtain ⟨cs,rfl⟩:=hvc
  have:=k3 q r hi
  refine .agg (by simpa [Value.cells] using this.1) fun j hj=>?_
  have:=this.2 j hj
  simpa [Value.cells,Array.getD_eq_getD_getElem?,List.getD_eq_getElem?_getD] using this
theorem rd_args:∀ {ts:List TypeId} {pats:List PV2} (hp:PatsOk P ts pats) {base:Nat} {vs:List Value} {ds:List (DataW H)} {ps:List MemPlace},DataW.TrodAll enc P W 0 (fun _=>true) true ts vs ds ps →
  (∀ (j:Nat) t v,ts[j]?=some t→vs[j]?=some v→Value.okWide P W .any base t v)→∃ ls,okLs (pats.flatMap cells2) ls∧nL2 pats=ls.length∧∀ (q r:LS_) {i:Nat},i=q.length→RelV W (fL2 (q++(ls++r)) pats i) vs
 | [],_,.nil,base,vs,ds,ps,h,_=>by
  cases vs <;> cases ds <;> simp [DataW.TrodAll] at h
  exact ⟨[],⟨rfl,fun j hj=>by simp at hj⟩,rfl,fun q r i hi=>.nil⟩
 | t::ts,_,.cons (p:=p) (ps:=pats) h0 hp,base,vs,ds,ps,h,hok=>by
  obtain ⟨v,vs',d,ds',p',q',rfl,rfl,rfl,h1,h2⟩:=trodAll_cons h
  obtain ⟨l1,a1,a2,a3⟩:=rd_one h0 (hok 0 t v rfl rfl) h1
  obtain ⟨l2,b1,b2,b3⟩:=rd_args hp h2 (fun j t v e1 e2=>hok (j+1) t v (by simpa using e1) (by simpa using e2))
  refine ⟨l1++l2,by simpa using a1.append b1,by simp [nL2,a2,b2],fun q r i hi=>?_⟩
  rw [List.append_assoc]
  have e1:=a3 q (l2++r) hi
  have e2:=b3 (q++l1) r (i:=p.n+i) (by simp [a2];omega)
  rw [List.append_assoc] at e2
  exact .cons e1 e2
theorem walk_of {f:FuncId} {av:List AV} {args:Array Value} (h:CS P f av ⟨.bool true,[]⟩) (ha:RelV W av args.toList):Calls P f args W fun e W'=>e=.returned (.bool true)∧Below W.heap.size W W':=by
 have ha':RelL noMap (FB W) W av args:=⟨by simpa using ha.1,fun j hj=>by
  have:=ha.2 j hj
  simpa [Array.getD_eq_getD_getElem?,List.getD_eq_getElem?_getD] using this⟩
 refine callsIn_wide.1 ((h 0 W (FB W) args (fun b hb=>hb) ha').mono ?_)
 rintro e W' ⟨_,v,β',F',rfl,hI,hv⟩
 cases hv
 exact ⟨rfl,hI.below.os,hI.below.tape,hI.below.output,hI.below.size,hI.below.block⟩
theorem trodAll_lt {sp:Nat→Bool} {hd:Bool}:∀ {ts:List TypeId} {vs:List Value} {ds:List (DataW H)} {ps:List MemPlace},DataW.TrodAll enc P W 0 sp hd ts vs ds ps→∀ x∈ps,x.block<W.heap.size
 | [],vs,ds,ps,h=>by cases vs <;> cases ds <;> simp [DataW.TrodAll] at h;subst h;simp
 | t::ts,vs,ds,ps,h=>by
  obtain ⟨v,vs',d,ds',p',q',rfl,rfl,rfl,⟨m,h1⟩,h2⟩:=trodAll_cons h
  intro x hx
  rcases List.mem_append.1 hx with hx | hx
  ·exact DataW.trod_lt m _ _ _ h1 x hx
  ·exact trodAll_lt h2 x hx
theorem trodAll_back (hl:laidOutB P=true) {W':World} (hb:Below W.heap.size W W'):∀ {ts:List TypeId} {vs:List Value} {ds:List (DataW H)} {ps:List MemPlace},(∀ t∈ts,P.readableRec t=true∧t<P.types.size)→DataW.TrodAll enc P W 0 (fun _=>true) true ts vs ds ps →
  DataW.TrodAll enc P W' 0 (fun b=>decide (b<W.heap.size)) true ts vs ds ps
 | [],vs,ds,ps,_,h=>by cases vs <;> cases ds <;> simp [DataW.TrodAll] at h ⊢;exact h
 | t::ts,vs,ds,ps,hr,h=>by
  have hlt:=trodAll_lt h
  obtain ⟨v,vs',d,ds',p',q',rfl,rfl,rfl,h1,h2⟩:=trodAll_cons h
  exact ⟨p',q',Below.trod hl (hr t (by simp)).1 (hr t (by simp)).2 h1 hb (fun x hx=>hlt x (List.mem_append.2 (.inl hx))),trodAll_back hl hb (fun t ht=>hr t (by simp [ht])) h2,rfl⟩
end
end
end Go.Proofs.Yticbdgmcofjkeaa.Ai
namespace Go.Proofs.Yticbdgmcofjkeaa.Ma
def tabAdd4:List (List Int):=[[0,1,2,3],[1,0,3,2],[2,3,0,1],[3,2,1,0]]
def tabMul4:List (List Int):=[[0,0,0,0],[0,1,2,3],[0,2,3,1],[0,3,1,2]]
def tabAdd8:List (List Int):=[[0,1,2,3,4,5,6,7],[1,0,3,2,5,4,7,6],[2,3,0,1,6,7,4,5],[3,2,1,0,7,6,5,4],[4,5,6,7,0,1,2,3],[5,4,7,6,1,0,3,2],[6,7,4,5,2,3,0,1],[7,6,5,4,3,2,1,0]]
def tabMul8:List (List Int):=[[0,0,0,0,0,0,0,0],[0,1,2,3,4,5,6,7],[0,2,4,6,3,1,7,5],[0,3,6,5,7,4,1,2],[0,4,3,7,6,2,5,1],[0,5,1,4,2,7,3,6],[0,6,7,1,5,3,2,4],[0,7,5,2,1,6,4,3]]
def tabAdd9:List (List Int):=[[0,1,2,3,4,5,6,7,8],[1,2,0,4,5,3,7,8,6],[2,0,1,5,3,4,8,6,7],[3,4,5,6,7,8,0,1,2],[4,5,3,7,8,6,1,2,0],[5,3,4,8,6,7,2,0,1],[6,7,8,0,1,2,3,4,5],[7,8,6,1,2,0,4,5,3],[8,6,7,2,0,1,5,3,4]]
def tabMul9:List (List Int):=[[0,0,0,0,0,0,0,0,0],[0,1,2,3,4,5,6,7,8],[0,2,1,6,8,7,3,5,4],[0,3,6,2,5,8,1,4,7],[0,4,8,5,6,1,7,2,3],[0,5,7,8,1,3,4,6,2],[0,6,3,1,7,4,2,8,5],[0,7,5,4,2,6,8,3,1],[0,8,4,7,3,2,5,1,6]]
def tabAdd16:List (List Int):=[[0,1,2,3,4,5,6,7,8,9,10,11,12,13,14,15],[1,0,3,2,5,4,7,6,9,8,11,10,13,12,15,14],[2,3,0,1,6,7,4,5,10,11,8,9,14,15,12,13],[3,2,1,0,7,6,5,4,11,10,9,8,15,14,13,12],[4,5,6,7,0,1,2,3,12,13,14,15,8,9,10,11],[5,4,7,6,1,0,3,2,13,12,15,14,9,8,11,10],[6,7,4,5,2,3,0,1,14,15,12,13,10,11,8,9],[7,6,5,4,3,2,1,0,15,14,13,12,11,10,9,8],[8,9,10,11,12,13,14,15,0,1,2,3,4,5,6,7],[9,8,11,10,13,12,15,14,1,0,3,2,5,4,7,6],[10,11,8,9,14,15,12,13,2,3,0,1,6,7,4,5],[11,10,9,8,15,14,13,12,3,2,1,0,7,6,5,4],[12,13,14,15,8,9,10,11,4,5,6,7,0,1,2,3],[13,12,15,14,9,8,11,10,5,4,7,6,1,0,3,2],[14,15,12,13,10,11,8,9,6,7,4,5,2,3,0,1],[15,14,13,12,11,10,9,8,7,6,5,4,3,2,1,0]]
def tabMul16:List (List Int):=[[0,0,0,0,0,0,0,0,0,0,0,0,0,0,0,0],[0,1,2,3,4,5,6,7,8,9,10,11,12,13,14,15],[0,2,4,6,8,10,12,14,3,1,7,5,11,9,15,13],[0,3,6,5,12,15,10,9,11,8,13,14,7,4,1,2],[0,4,8,12,3,7,11,15,6,2,14,10,5,1,13,9],[0,5,10,15,7,2,13,8,14,11,4,1,9,12,3,6],[0,6,12,10,11,13,7,1,5,3,9,15,14,8,2,4],[0,7,14,9,15,8,1,6,13,10,3,4,2,5,12,11],[0,8,3,11,6,14,5,13,12,4,15,7,10,2,9,1],[0,9,1,8,2,11,3,10,4,13,5,12,6,15,7,14],[0,10,7,13,14,4,9,3,15,5,8,2,1,11,6,12],[0,11,5,14,10,1,15,4,7,12,2,9,13,6,8,3],[0,12,11,7,5,9,14,2,10,6,1,13,15,3,4,8],[0,13,9,4,1,12,8,5,2,15,11,6,3,14,10,7],[0,14,15,1,13,3,2,12,9,7,6,8,4,10,11,5],[0,15,13,2,9,6,4,11,1,14,12,3,8,7,5,10]]
def tabNeg9:List Int:=[0,2,1,6,8,7,3,5,4]
def look (t:List (List Int)) (a b:Int):Int:=(t.getD a.toNat []).getD b.toNat 0
def fadd (q:Nat) (a b:Int):Int:=if q=4 then look tabAdd4 a b else if q=8 then look tabAdd8 a b else if q=9 then look tabAdd9 a b else if q=16 then look tabAdd16 a b else (a+b) % q
def fmul (q:Nat) (a b:Int):Int:=if q=4 then look tabMul4 a b else if q=8 then look tabMul8 a b else if q=9 then look tabMul9 a b else if q=16 then look tabMul16 a b else (a*b) % q
def fneg (q:Nat) (a:Int):Int:=if q=4 then a else if q=8 then a else if q=9 then tabNeg9.getD a.toNat 0 else if q=16 then a else (-a) % q
def finv (q:Nat) (a:Int):Int:=(((List.range q).find? fun (b:Nat)=>fmul q (b:Int) a==1).getD 0:Nat)
def Qs:List Nat:=[2,3,4,5,7,8,9,11,13,16]
structure Fld (q:Nat) (add mul:Int→Int→Int) (neg inv:Int→Int):Prop where
 one_lt:1<q
 add_in:∀ a b:Int,0≤a→a<q→0≤b→b<q→0≤add a b∧add a b<q
 mul_in:∀ a b:Int,0≤a→a<q→0≤b→b<q→0≤mul a b∧mul a b<q
 neg_in:∀ a:Int,0≤a→a<q→0≤neg a∧neg a<q
 inv_in:∀ a:Int,0≤a→a<q→0≤inv a∧inv a<q
 add_comm:∀ a b:Int,0≤a→a<q→0≤b→b<q→add a b=add b a
 add_assoc:∀ a b c:Int,0≤a→a<q→0≤b→b<q→0≤c→c<q→add (add a b) c=add a (add b c)
 zero_add:∀ a:Int,0≤a→a<q→add 0 a=a
 mul_comm:∀ a b:Int,0≤a→a<q→0≤b→b<q→mul a b=mul b a
 mul_assoc:∀ a b c:Int,0≤a→a<q→0≤b→b<q→0≤c→c<q→mul (mul a b) c=mul a (mul b c)
 one_mul:∀ a:Int,0≤a→a<q→mul 1 a=a
 zero_mul:∀ a:Int,0≤a→a<q→mul 0 a=0
 distrib:∀ a b c:Int,0≤a→a<q→0≤b→b<q→0≤c→c<q→mul a (add b c)=add (mul a b) (mul a c)
 add_neg:∀ a:Int,0≤a→a<q→add a (neg a)=0
 neg_zero:neg 0=0
 mul_inv:∀ a:Int,0≤a→a<q→a≠0→mul (inv a) a=1
 inv_one:inv 1=1
def chk1 (q:Nat) (p:Int→Bool):Bool:=(List.range q).all fun a=>p a
def chk2 (q:Nat) (p:Int→Int→Bool):Bool:=(List.range q).all fun a=>(List.range q).all fun b=>p a b
def chk3 (q:Nat) (p:Int→Int→Int→Bool):Bool:=(List.range q).all fun a=>(List.range q).all fun b=>(List.range q).all fun c=>p a b c
theorem chk1_ok {q:Nat} {p:Int→Bool} (h:chk1 q p=true) (a:Int) (h0:0≤a) (h1:a<q):p a=true:=by
 have:=List.all_eq_true.1 h a.toNat (by simp;omega)
 rwa [Int.toNat_of_nonneg h0] at this
theorem chk2_ok {q:Nat} {p:Int→Int→Bool} (h:chk2 q p=true) (a b:Int) (h0:0≤a) (h1:a<q) (h2:0≤b) (h3:b<q):p a b=true:=by
 have:=List.all_eq_true.1 h a.toNat (by simp;omega)
 rw [Int.toNat_of_nonneg h0] at this
 have:=List.all_eq_true.1 this b.toNat (by simp;omega)
 rwa [Int.toNat_of_nonneg h2] at this
theorem chk3_ok {q:Nat} {p:Int→Int→Int→Bool} (h:chk3 q p=true) (a b c:Int) (h0:0≤a) (h1:a<q) (h2:0≤b) (h3:b<q) (h4:0≤c) (h5:c<q):p a b c=true:=by
 have:=List.all_eq_true.1 h a.toNat (by simp;omega)
 rw [Int.toNat_of_nonneg h0] at this
 have:=List.all_eq_true.1 this b.toNat (by simp;omega)
 rw [Int.toNat_of_nonneg h2] at this
 have:=List.all_eq_true.1 this c.toNat (by simp;omega)
 rwa [Int.toNat_of_nonneg h4] at this
def fldB (q:Nat) (add mul:Int→Int→Int) (neg inv:Int→Int):Bool :=
 decide (1<q)&&(chk2 q (fun a b=>decide (0≤add a b)&&decide (add a b<q))&&(chk2 q (fun a b=>decide (0≤mul a b)&&decide (mul a b<q))&&(chk1 q (fun a=>decide (0≤neg a)&&decide (neg a<q)) &&
 (chk1 q (fun a=>decide (0≤inv a)&&decide (inv a<q))&&(chk2 q (fun a b=>decide (add a b=add b a))&&(chk3 q (fun a b c=>decide (add (add a b) c=add a (add b c)))&&(chk1 q (fun a=>decide (add 0 a=a)) &&
 (chk2 q (fun a b=>decide (mul a b=mul b a))&&(chk3 q (fun a b c=>decide (mul (mul a b) c=mul a (mul b c)))&&(chk1 q (fun a=>decide (mul 1 a=a))&&(chk1 q (fun a=>decide (mul 0 a=0)) &&
 (chk3 q (fun a b c=>decide (mul a (add b c)=add (mul a b) (mul a c)))&&(chk1 q (fun a=>decide (add a (neg a)=0))&&(decide (neg 0=0)&&(chk1 q (fun a=>decide (a=0) || decide (mul (inv a) a=1))&&decide (inv 1=1))))))))))))))))
theorem fldB_ok {q:Nat} {add mul:Int→Int→Int} {neg inv:Int→Int} (h:fldB q add mul neg inv=true):Fld q add mul neg inv:=by
 unfold fldB at h
 simp only [Bool.and_eq_true,decide_eq_true_eq] at h
 obtain ⟨h1,h2,h3,h4,h5,h6,h7,h8,h9,h10,h11,h12,h13,h14,h15,h16,h17⟩:=h
 refine ⟨h1,fun a b p1 p2 p3 p4=>?_,fun a b p1 p2 p3 p4=>?_,fun a p1 p2=>?_,fun a p1 p2=>?_,fun a b p1 p2 p3 p4=>?_,fun a b c p1 p2 p3 p4 p5 p6=>?_,fun a p1 p2=>?_,fun a b p1 p2 p3 p4=>?_,fun a b c p1 p2 p3 p4 p5 p6=>?_,fun a p1 p2=>?_,fun a p1 p2=>?_,fun a b c p1 p2 p3 p4 p5 p6=>?_,fun a p1 p2=>?_,h15,fun a p1 p2 hz=>?_,h17⟩
 ·simpa using chk2_ok h2 a b p1 p2 p3 p4
 ·simpa using chk2_ok h3 a b p1 p2 p3 p4
 ·simpa using chk1_ok h4 a p1 p2
 ·simpa using chk1_ok h5 a p1 p2
 ·simpa using chk2_ok h6 a b p1 p2 p3 p4
 ·simpa using chk3_ok h7 a b c p1 p2 p3 p4 p5 p6
 ·simpa using chk1_ok h8 a p1 p2
 ·simpa using chk2_ok h9 a b p1 p2 p3 p4
 ·simpa using chk3_ok h10 a b c p1 p2 p3 p4 p5 p6
 ·simpa using chk1_ok h11 a p1 p2
 ·simpa using chk1_ok h12 a p1 p2
 ·simpa using chk3_ok h13 a b c p1 p2 p3 p4 p5 p6
 ·simpa using chk1_ok h14 a p1 p2
 ·have:=chk1_ok h16 a p1 p2
  simpa [hz] using this
theorem fld_of {q:Nat} (hq:q∈Qs):Fld q (fadd q) (fmul q) (fneg q) (finv q):=by
 refine fldB_ok ?_
 have:Qs.all (fun q=>fldB q (fadd q) (fmul q) (fneg q) (finv q))=true:=by decide +kernel
 exact List.all_eq_true.1 this q hq
end Go.Proofs.Yticbdgmcofjkeaa.Ma
namespace Go.Proofs.Yticbdgmcofjkeaa.Ai
open Go Go.RowKit Ma
noncomputable section
def fp (q:Nat):Int:=if q=4 then 2 else if q=8 then 2 else if q=9 then 3 else if q=16 then 2 else if q=25 then 5 else if q=27 then 3 else if q=32 then 2 else if q=49 then 7 else if q=64 then 2 else q
def fe (q:Nat):Int:=if q=4 then 2 else if q=8 then 3 else if q=9 then 2 else if q=16 then 4 else if q=25 then 2 else if q=27 then 3 else if q=32 then 5 else if q=49 then 2 else if q=64 then 6 else 1
def fm (q:Nat):List Int:=if q=4 then [1,1] else if q=8 then [1,1,0] else if q=9 then [1,0] else if q=16 then [1,1,0,0] else if q=25 then [2,0] else if q=27 then [1,2,0] else if q=32 then [1,0,1,0,0] else if q=49 then [1,0] else if q=64 then [1,1,0,0,0,0] else [0]
def fq (p e:Int) (mod:List Int):Nat:=((Qs.find? fun q=>decide (p=fp q)&&(decide (e=fe q)&&decide (mod=fm q))).getD 0)
def inq (q:Nat) (a:Int):Bool:=decide (0≤a)&&decide (a<q)
def tab2 (f:Nat→Int→Int→Int) {τ:Type} (l:LS_) (k:Nat→LS_→Option τ):Option τ :=
 ck (decide (fq (gI l 0) (gI l 1) (gL l 2)∈Qs)&&(inq (fq (gI l 0) (gI l 1) (gL l 2)) (gI l 3)&&inq (fq (gI l 0) (gI l 1) (gL l 2)) (gI l 4))) (k 0 [.I (f (fq (gI l 0) (gI l 1) (gL l 2)) (gI l 3) (gI l 4))])
def tab1 (f:Nat→Int→Int) {τ:Type} (l:LS_) (k:Nat→LS_→Option τ):Option τ :=
 ck (decide (fq (gI l 0) (gI l 1) (gL l 2)∈Qs)&&inq (fq (gI l 0) (gI l 1) (gL l 2)) (gI l 3)) (k 0 [.I (f (fq (gI l 0) (gI l 1) (gL l 2)) (gI l 3))])
def tabI {τ:Type} (l:LS_) (k:Nat→LS_→Option τ):Option τ :=
 ck (decide (fq (gI l 0) (gI l 1) (gL l 2)∈Qs)&&(inq (fq (gI l 0) (gI l 1) (gL l 2)) (gI l 3)&&decide (gI l 3≠0))) (k 0 [.I (finv (fq (gI l 0) (gI l 1) (gL l 2)) (gI l 3))])
def Qb:List Nat:=[17,19,23,25,27,29,31,32,37,41,43,47,49,53,59,61,64]
def isq (q:Int):Bool:=decide (0≤q)&&(Qs++Qb).contains q.toNat
def tabM {τ:Type} (l:LS_) (k:Nat→LS_→Option τ):Option τ :=
 br (isq (gI l 0)) (k 0 [.I (fp (gI l 0).toNat),.I (fe (gI l 0).toNat),.N (fm (gI l 0).toNat).length,.L (fm (gI l 0).toNat)]) (k 1 [])
def T77 {τ:Type} (l:LS_) (k:Nat→LS_→Option τ):Option τ:=tab2 fadd l k
def T103 {τ:Type} (l:LS_) (k:Nat→LS_→Option τ):Option τ:=tab2 fadd l k
def T89 {τ:Type} (l:LS_) (k:Nat→LS_→Option τ):Option τ:=tab2 fmul l k
def T104 {τ:Type} (l:LS_) (k:Nat→LS_→Option τ):Option τ:=tab2 fmul l k
def T83 {τ:Type} (l:LS_) (k:Nat→LS_→Option τ):Option τ:=tab1 fneg l k
def T116 {τ:Type} (l:LS_) (k:Nat→LS_→Option τ):Option τ:=tabI l k
def T76 {τ:Type} (l:LS_) (k:Nat→LS_→Option τ):Option τ:=tabM l k
def T99 {τ:Type} (l:LS_) (k:Nat→LS_→Option τ):Option τ:=tabM l k
theorem fq_of {q:Nat} (hq:q∈Qs):fq (fp q) (fe q) (fm q)=q:=by
 have:Qs.all (fun q=>decide (fq (fp q) (fe q) (fm q)=q))=true:=by decide +kernel
 simpa using List.all_eq_true.1 this q hq
theorem tab2_of {f:Nat→Int→Int→Int} {q:Nat} (hq:q∈Qs) {a b:Int} (h0:0≤a) (h1:a<q) (h2:0≤b) (h3:b<q) {τ:Type} (k:Nat→LS_→Option τ) :
  tab2 f [.I (fp q),.I (fe q),.L (fm q),.I a,.I b] k=k 0 [.I (f q a b)]:=by
 have e:fq (fp q) (fe q) (fm q)=q:=fq_of hq
 unfold tab2
 simp only [g_,e,h_]
 exact ck_of (by simp [hq,inq,h0,h1,h2,h3])
theorem tab1_of {f:Nat→Int→Int} {q:Nat} (hq:q∈Qs) {a:Int} (h0:0≤a) (h1:a<q) {τ:Type} (k:Nat→LS_→Option τ) :
  tab1 f [.I (fp q),.I (fe q),.L (fm q),.I a] k=k 0 [.I (f q a)]:=by
 have e:fq (fp q) (fe q) (fm q)=q:=fq_of hq
 unfold tab1
 simp only [g_,e,h_]
 exact ck_of (by simp [hq,inq,h0,h1])
theorem tabI_of {q:Nat} (hq:q∈Qs) {a:Int} (h0:0≤a) (h1:a<q) (hz:a≠0) {τ:Type} (k:Nat→LS_→Option τ) :
  tabI [.I (fp q),.I (fe q),.L (fm q),.I a] k=k 0 [.I (finv q a)]:=by
 have e:fq (fp q) (fe q) (fm q)=q:=fq_of hq
 unfold tabI
 simp only [g_,e,h_]
 exact ck_of (by simp [hq,inq,h0,h1,hz])
theorem tabM_of {q:Nat} (hq:q∈Qs) {τ:Type} (k:Nat→LS_→Option τ):tabM [.I (q:Int)] k=k 0 [.I (fp q),.I (fe q),.N (fm q).length,.L (fm q)]:=by
 unfold tabM
 simp only [gI_zero,Int.toNat_natCast,h_]
 refine br_of ?_
 unfold isq
 rw [Int.toNat_natCast]
 simp only [Bool.and_eq_true,decide_eq_true_eq,List.contains_iff_mem,List.mem_append]
 exact ⟨by omega,.inl hq⟩
end
end Go.Proofs.Yticbdgmcofjkeaa.Ai
namespace Go.Proofs.Yticbdgmcofjkeaa.Ai
open Go Go.RowKit
noncomputable section
variable {τ:Type} (t:Nat) (nx ex:Nat→LS_→Option τ) (l:LS_) (k κ:Nat→LS_→Option τ)
def fo0:List PO:=[(oG [(pC 0),(pC 0),(pC 0),(pC 0),(pC 0),(pC 0),(pC 0),(pC 0),(pC 0),(pC 0),(pC 0),(pC 0)]),(oG [pI,pI,pI,pI,pI,pI,pI,pI,pI,pI,pI,pI])]
def fo1:List PO:=[(oG [pI,(pC 1),qR]),(oG [pI,pI,pI,pI,pI,pI,pI,pI,pI,pI,pI,pI]),(oG [pI,pI,pI,pI,pI,pI,pI,pI,pI,pI,pI,pI])]
def fo2:List PO:=[(oG [pI,(pC 1),qR]),(oG [pI,pI,pI,pI,pI,pI,pI,pI,pI,pI,pI,pI])]
def fo3:List PO:=[(oG [pI,(pC 1),qR]),(oG [pI,pI,pI,pI,pI,pI,pI,pI,pI,pI,pI,pI]),(oG [pI,(pC 0),(pC 0),(pC 0),(pC 0),(pC 0),(pC 0),(pC 0),(pC 0),(pC 0),(pC 0),(pC 0)]),(oG [pI,(pC 1),qR]),(oG [pI]),(PO.loop false [(PV2.agg [iI,(PV1.intC .i64 1),(PV1.sl (PC0.i .i64))]),pI,pI,(pp 0),n_,n_,(pC 0),(pp 1),(pp 2),n_,n_,n_,n_,(PV2.agg [iI,(PV1.intC .i64 1),(PV1.sl (PC0.i .i64))]),pB,(PV2.v (PV1.boolC false)),(pp 0),pI,pI,(PV2.agg [iI,iI,iI,iI,iI,iI,iI,iI,iI,iI,iI,iI]),(PV2.agg [iI,(PV1.intC .i64 1),(PV1.sl (PC0.i .i64))]),pI,(PV2.fn 140 [(p1 3),(p1 4)]),n_,n_,n_,n_,n_,n_,n_,n_,n_,n_,n_,n_,n_,n_,n_,n_,n_,n_,n_,n_,n_,n_,n_,n_,n_,n_,n_,n_,n_,n_,n_,n_,n_,n_,n_,n_,n_,n_,n_,n_,n_,n_,n_,n_,n_,n_,n_,n_,n_,n_,n_] [23] (rfA 93 0) (rfB 93 0) 16528282690043758248264 false Out.normal),(oG [pI,pI,pI,pI,pI,pI,pI,pI,pI,pI,pI,pI])]
def fo4:List PO:=[(oG [pI,(pC 1),qR]),(oG [pI,pI,pI,pI,pI,pI,pI,pI,pI,pI,pI,pI]),(oG [pI,(pC 0),(pC 0),(pC 0),(pC 0),(pC 0),(pC 0),(pC 0),(pC 0),(pC 0),(pC 0),(pC 0)]),(oG [pI,(pC 1),qR]),(oG [pI]),(PO.loop false [(PV2.agg [iI,(PV1.intC .i64 1),(PV1.sl (PC0.i .i64))]),pI,pI,(pp 0),n_,n_,(pC 0),(pp 1),(pp 2),n_,n_,n_,n_,(PV2.agg [iI,(PV1.intC .i64 1),(PV1.sl (PC0.i .i64))]),pB,(PV2.v (PV1.boolC false)),(pp 0),pI,pI,(PV2.agg [iI,iI,iI,iI,iI,iI,iI,iI,iI,iI,iI,iI]),(PV2.agg [iI,(PV1.intC .i64 1),(PV1.sl (PC0.i .i64))]),pI,(PV2.fn 140 [(p1 3),(p1 4)]),n_,n_,n_,n_,n_,n_,n_,n_,n_,n_,n_,n_,n_,n_,n_,n_,n_,n_,n_,n_,n_,n_,n_,n_,n_,n_,n_,n_,n_,n_,n_,n_,n_,n_,n_,n_,n_,n_,n_,n_,n_,n_,n_,n_,n_,n_,n_,n_,n_,n_,n_] [23] (rfA 93 0) (rfB 93 0) 16528282690043758248264 true Out.normal),(oG [pI,pI,pI,pI,pI,pI,pI,pI,pI,pI,pI,pI])]
def fo5:List PO:=[(oG [pI,(pC 2),qR]),(oG [pI,pI,pI,pI,pI,pI,pI,pI,pI,pI,pI,pI]),(oG [pI,pI,pI,pI,pI,pI,pI,pI,pI,pI,pI,pI])]
def fo6:List PO:=[(oG [pI,(pC 2),qR]),(oG [pI,pI,pI,pI,pI,pI,pI,pI,pI,pI,pI,pI])]
def fo7:List PO:=[(oG [pI,(pC 2),qR]),(oG [pI,pI,pI,pI,pI,pI,pI,pI,pI,pI,pI,pI]),(oG [pI,pI,(pC 0),(pC 0),(pC 0),(pC 0),(pC 0),(pC 0),(pC 0),(pC 0),(pC 0),(pC 0)]),(oG [pI,(pC 2),qR]),(oG [pI]),(PO.loop false [(PV2.agg [iI,(PV1.intC .i64 2),(PV1.sl (PC0.i .i64))]),pI,pI,(pp 0),n_,n_,(pC 0),(pp 1),(pp 2),n_,n_,n_,n_,(PV2.agg [iI,(PV1.intC .i64 2),(PV1.sl (PC0.i .i64))]),pB,(PV2.v (PV1.boolC false)),(pp 0),pI,pI,(PV2.agg [iI,iI,iI,iI,iI,iI,iI,iI,iI,iI,iI,iI]),(PV2.agg [iI,(PV1.intC .i64 2),(PV1.sl (PC0.i .i64))]),pI,(PV2.fn 140 [(p1 3),(p1 4)]),n_,n_,n_,n_,n_,n_,n_,n_,n_,n_,n_,n_,n_,n_,n_,n_,n_,n_,n_,n_,n_,n_,n_,n_,n_,n_,n_,n_,n_,n_,n_,n_,n_,n_,n_,n_,n_,n_,n_,n_,n_,n_,n_,n_,n_,n_,n_,n_,n_,n_,n_] [23] (rfA 93 0) (rfB 93 0) 16528282690043758248264 false Out.normal),(oG [pI,pI,pI,pI,pI,pI,pI,pI,pI,pI,pI,pI])]
def fo8:List PO:=[(oG [pI,(pC 2),qR]),(oG [pI,pI,pI,pI,pI,pI,pI,pI,pI,pI,pI,pI]),(oG [pI,pI,(pC 0),(pC 0),(pC 0),(pC 0),(pC 0),(pC 0),(pC 0),(pC 0),(pC 0),(pC 0)]),(oG [pI,(pC 2),qR]),(oG [pI]),(PO.loop false [(PV2.agg [iI,(PV1.intC .i64 2),(PV1.sl (PC0.i .i64))]),pI,pI,(pp 0),n_,n_,(pC 0),(pp 1),(pp 2),n_,n_,n_,n_,(PV2.agg [iI,(PV1.intC .i64 2),(PV1.sl (PC0.i .i64))]),pB,(PV2.v (PV1.boolC false)),(pp 0),pI,pI,(PV2.agg [iI,iI,iI,iI,iI,iI,iI,iI,iI,iI,iI,iI]),(PV2.agg [iI,(PV1.intC .i64 2),(PV1.sl (PC0.i .i64))]),pI,(PV2.fn 140 [(p1 3),(p1 4)]),n_,n_,n_,n_,n_,n_,n_,n_,n_,n_,n_,n_,n_,n_,n_,n_,n_,n_,n_,n_,n_,n_,n_,n_,n_,n_,n_,n_,n_,n_,n_,n_,n_,n_,n_,n_,n_,n_,n_,n_,n_,n_,n_,n_,n_,n_,n_,n_,n_,n_,n_] [23] (rfA 93 0) (rfB 93 0) 16528282690043758248264 true Out.normal),(oG [pI,pI,pI,pI,pI,pI,pI,pI,pI,pI,pI,pI])]
def fo9:List PO:=[(oG [pI,(pC 3),qR]),(oG [pI,pI,pI,pI,pI,pI,pI,pI,pI,pI,pI,pI]),(oG [pI,pI,pI,pI,pI,pI,pI,pI,pI,pI,pI,pI])]
def fo10:List PO:=[(oG [pI,(pC 3),qR]),(oG [pI,pI,pI,pI,pI,pI,pI,pI,pI,pI,pI,pI])]
def fo11:List PO:=[(oG [pI,(pC 3),qR]),(oG [pI,pI,pI,pI,pI,pI,pI,pI,pI,pI,pI,pI]),(oG [pI,pI,pI,(pC 0),(pC 0),(pC 0),(pC 0),(pC 0),(pC 0),(pC 0),(pC 0),(pC 0)]),(oG [pI,(pC 3),qR]),(oG [pI]),(PO.loop false [(PV2.agg [iI,(PV1.intC .i64 3),(PV1.sl (PC0.i .i64))]),pI,pI,(pp 0),n_,n_,(pC 0),(pp 1),(pp 2),n_,n_,n_,n_,(PV2.agg [iI,(PV1.intC .i64 3),(PV1.sl (PC0.i .i64))]),pB,(PV2.v (PV1.boolC false)),(pp 0),pI,pI,(PV2.agg [iI,iI,iI,iI,iI,iI,iI,iI,iI,iI,iI,iI]),(PV2.agg [iI,(PV1.intC .i64 3),(PV1.sl (PC0.i .i64))]),pI,(PV2.fn 140 [(p1 3),(p1 4)]),n_,n_,n_,n_,n_,n_,n_,n_,n_,n_,n_,n_,n_,n_,n_,n_,n_,n_,n_,n_,n_,n_,n_,n_,n_,n_,n_,n_,n_,n_,n_,n_,n_,n_,n_,n_,n_,n_,n_,n_,n_,n_,n_,n_,n_,n_,n_,n_,n_,n_,n_] [23] (rfA 93 0) (rfB 93 0) 16528282690043758248264 false Out.normal),(oG [pI,pI,pI,pI,pI,pI,pI,pI,pI,pI,pI,pI])]
def fo12:List PO:=[(oG [pI,(pC 3),qR]),(oG [pI,pI,pI,pI,pI,pI,pI,pI,pI,pI,pI,pI]),(oG [pI,pI,pI,(pC 0),(pC 0),(pC 0),(pC 0),(pC 0),(pC 0),(pC 0),(pC 0),(pC 0)]),(oG [pI,(pC 3),qR]),(oG [pI]),(PO.loop false [(PV2.agg [iI,(PV1.intC .i64 3),(PV1.sl (PC0.i .i64))]),pI,pI,(pp 0),n_,n_,(pC 0),(pp 1),(pp 2),n_,n_,n_,n_,(PV2.agg [iI,(PV1.intC .i64 3),(PV1.sl (PC0.i .i64))]),pB,(PV2.v (PV1.boolC false)),(pp 0),pI,pI,(PV2.agg [iI,iI,iI,iI,iI,iI,iI,iI,iI,iI,iI,iI]),(PV2.agg [iI,(PV1.intC .i64 3),(PV1.sl (PC0.i .i64))]),pI,(PV2.fn 140 [(p1 3),(p1 4)]),n_,n_,n_,n_,n_,n_,n_,n_,n_,n_,n_,n_,n_,n_,n_,n_,n_,n_,n_,n_,n_,n_,n_,n_,n_,n_,n_,n_,n_,n_,n_,n_,n_,n_,n_,n_,n_,n_,n_,n_,n_,n_,n_,n_,n_,n_,n_,n_,n_,n_,n_] [23] (rfA 93 0) (rfB 93 0) 16528282690043758248264 true Out.normal),(oG [pI,pI,pI,pI,pI,pI,pI,pI,pI,pI,pI,pI])]
def L128_5.H:LHead:=⟨false,true,0,487429,487429,201326606,4,0,[(PS.mk (us 1 ((pp 0)::(PV2.v (PV1.boolC false))::pI::us 22 ((pC 1)::(pC 0)::us 11 []))) [(oG [pI,(pC 1),qR])]),(PS.mk (us 1 ((pp 0)::(PV2.v (PV1.boolC false))::pI::us 22 ((pC 1)::(pC 1)::us 11 []))) [(oG [pI,(pC 1),qR])])],[(Out.ret,(PS.mk (us 2 ((PV2.v (PV1.boolC false))::us 36 [])) [])),((Out.exit 0),(PS.mk (us 2 ((PV2.v (PV1.boolC false))::us 36 [])) []))]⟩
def L128_5.O (fu:Nat):Orc P:=⟨[],[],[],40⟩
def L128_5.s0 (fu:Nat) {τ:Type} (next ex:Nat→LS_→Option τ) (l:LS_):Option τ :=
 ck (!((gI l 1)==0))
 (br (gtI (gI l 0) (wr .i64 (Int.tdiv 64 (gI l 1))))
 (ex 0 [])
 (next 1 [.I (wr .i64 ((gI l 0)*(gI l 1))),iG l 1,nG l 2,vG l 3]))
theorem L128_5.e0 (fu:Nat):LEq (L128_5.O fu) L128_5.H 0 (L128_5.s0 fu):=by intro τ next κ l;kernel_rfl
def L128_5.s1 (fu:Nat) {τ:Type} (next ex:Nat→LS_→Option τ) (l:LS_):Option τ :=
 ex 1 []
theorem L128_5.e1 (fu:Nat):LEq (L128_5.O fu) L128_5.H 1 (L128_5.s1 fu):=by intro τ next κ l;kernel_rfl
def L128_5 (fu:Nat):LStep P Cf:=LStep.mk2 (by decide) (L128_5.e0 fu) (L128_5.e1 fu)
def L128_5.b (fu:Nat) {τ:Type} (t:Nat) (l:LS_) (κ:Nat→LS_→Option τ):Option τ:=runE (L128_5 fu) fu κ t l
def L128_5.E (fu:Nat):LEnt P:=LStep.EN fu (L128_5 fu)
def F128.ps:List PV2:=[(PV2.agg [iI,(PV1.intC .i64 1),aI])]
def F128.sh:List PA:=[(PA.mk (PV3.v pB) [])]
def F128.O (fu:Nat):Orc P:=⟨[],[(L128_5.E fu)],[],40⟩
def F128 (fu:Nat) {τ:Type} (l:LS_) (k:Nat→LS_→Option τ):Option τ :=
 br (ltI (gI l 0) 2)
 (k 0 [.B false])
 (br ((((gL l 1).length:Nat):Int) != 1)
 (k 0 [.B false])
 ((L128_5.b fu) 0 [.I 1,iG l 0,.N (gL l 1).length,vG l 1]
 (fun j A=>(sw (k 0 [.B false])
 (sw (k 0 [.B true])
 (fun _=>none))) j)))
theorem F128.eq (fu:Nat):FEq (F128.O fu) 119 F128.ps F128.sh (F128 fu):=by intro τ l κ;kernel_rfl
def F128.E (fu:Nat):Ent P:=mkF (F128.eq fu)
def L127_3.H:LHead:=⟨false,true,0,491523,491523,179,48,0,[(PS.mk (pI::pI::us 2 ((pp 0)::(pp 1)::us 1 ((pC 0)::us 12 []))) fo0),(PS.mk (pI::pI::us 2 ((pp 0)::(pp 1)::us 1 ((pC 1)::us 12 []))) fo0),(PS.mk (pI::pI::us 2 ((pp 0)::(pp 1)::us 1 ((pC 2)::us 12 []))) fo0),(PS.mk (pI::pI::us 2 ((pp 0)::(pp 1)::us 1 ((pC 3)::us 12 []))) fo0),(PS.mk (pI::pI::us 2 ((pp 0)::(pp 1)::us 1 ((pC 4)::us 12 []))) fo0),(PS.mk (pI::pI::us 2 ((pp 0)::(pp 1)::us 1 ((pC 5)::us 12 []))) fo0),(PS.mk (pI::pI::us 2 ((pp 0)::(pp 1)::us 1 ((pC 6)::us 12 []))) fo0),(PS.mk (pI::pI::us 2 ((pp 0)::(pp 1)::us 1 ((pC 7)::us 12 []))) fo0),(PS.mk (pI::pI::us 2 ((pp 0)::(pp 1)::us 1 ((pC 8)::us 12 []))) fo0),(PS.mk (pI::pI::us 2 ((pp 0)::(pp 1)::us 1 ((pC 9)::us 12 []))) fo0),(PS.mk (pI::pI::us 2 ((pp 0)::(pp 1)::us 1 ((pC 10)::us 12 []))) fo0),(PS.mk (pI::pI::us 2 ((pp 0)::(pp 1)::us 1 ((pC 11)::us 12 []))) fo0),(PS.mk (pI::pI::us 2 ((pp 0)::(pp 1)::us 1 ((pC 12)::us 12 []))) fo0)],[((Out.exit 0),(PS.mk (us 4 ((pp 0)::(pp 1)::us 14 [])) fo0))]⟩
def L127_3.O (fu:Nat):Orc P:=⟨[],[],[],40⟩
def L127_3.s0 (fu:Nat) {τ:Type} (next ex:Nat→LS_→Option τ) (l:LS_):Option τ :=
 ck (!((gI l 0)==0))
 (ck (!((gI l 0)==0))
 (next 1 [iG l 0,.I (wr .i64 (Int.tdiv (gI l 1) (gI l 0))),.I (Int.tmod (gI l 1) (gI l 0)),iG l 3,iG l 4,iG l 5,iG l 6,iG l 7,iG l 8,iG l 9,iG l 10,iG l 11,iG l 12,iG l 13]))
theorem L127_3.e0 (fu:Nat):LEq (L127_3.O fu) L127_3.H 0 (L127_3.s0 fu):=by intro τ next κ l;kernel_rfl
def L127_3.s1 (fu:Nat) {τ:Type} (next ex:Nat→LS_→Option τ) (l:LS_):Option τ :=
 ck (!((gI l 0)==0))
 (ck (!((gI l 0)==0))
 (next 2 [iG l 0,.I (wr .i64 (Int.tdiv (gI l 1) (gI l 0))),iG l 2,.I (Int.tmod (gI l 1) (gI l 0)),iG l 4,iG l 5,iG l 6,iG l 7,iG l 8,iG l 9,iG l 10,iG l 11,iG l 12,iG l 13]))
theorem L127_3.e1 (fu:Nat):LEq (L127_3.O fu) L127_3.H 1 (L127_3.s1 fu):=by intro τ next κ l;kernel_rfl
def L127_3.s2 (fu:Nat) {τ:Type} (next ex:Nat→LS_→Option τ) (l:LS_):Option τ :=
 ck (!((gI l 0)==0))
 (ck (!((gI l 0)==0))
 (next 3 [iG l 0,.I (wr .i64 (Int.tdiv (gI l 1) (gI l 0))),iG l 2,iG l 3,.I (Int.tmod (gI l 1) (gI l 0)),iG l 5,iG l 6,iG l 7,iG l 8,iG l 9,iG l 10,iG l 11,iG l 12,iG l 13]))
theorem L127_3.e2 (fu:Nat):LEq (L127_3.O fu) L127_3.H 2 (L127_3.s2 fu):=by intro τ next κ l;kernel_rfl
def L127_3.s3 (fu:Nat) {τ:Type} (next ex:Nat→LS_→Option τ) (l:LS_):Option τ :=
 ck (!((gI l 0)==0))
 (ck (!((gI l 0)==0))
 (next 4 [iG l 0,.I (wr .i64 (Int.tdiv (gI l 1) (gI l 0))),iG l 2,iG l 3,iG l 4,.I (Int.tmod (gI l 1) (gI l 0)),iG l 6,iG l 7,iG l 8,iG l 9,iG l 10,iG l 11,iG l 12,iG l 13]))
theorem L127_3.e3 (fu:Nat):LEq (L127_3.O fu) L127_3.H 3 (L127_3.s3 fu):=by intro τ next κ l;kernel_rfl
def L127_3.s4 (fu:Nat) {τ:Type} (next ex:Nat→LS_→Option τ) (l:LS_):Option τ :=
 ck (!((gI l 0)==0))
 (ck (!((gI l 0)==0))
 (next 5 [iG l 0,.I (wr .i64 (Int.tdiv (gI l 1) (gI l 0))),iG l 2,iG l 3,iG l 4,iG l 5,.I (Int.tmod (gI l 1) (gI l 0)),iG l 7,iG l 8,iG l 9,iG l 10,iG l 11,iG l 12,iG l 13]))
theorem L127_3.e4 (fu:Nat):LEq (L127_3.O fu) L127_3.H 4 (L127_3.s4 fu):=by intro τ next κ l;kernel_rfl
def L127_3.s5 (fu:Nat) {τ:Type} (next ex:Nat→LS_→Option τ) (l:LS_):Option τ :=
 ck (!((gI l 0)==0))
 (ck (!((gI l 0)==0))
 (next 6 [iG l 0,.I (wr .i64 (Int.tdiv (gI l 1) (gI l 0))),iG l 2,iG l 3,iG l 4,iG l 5,iG l 6,.I (Int.tmod (gI l 1) (gI l 0)),iG l 8,iG l 9,iG l 10,iG l 11,iG l 12,iG l 13]))
theorem L127_3.e5 (fu:Nat):LEq (L127_3.O fu) L127_3.H 5 (L127_3.s5 fu):=by intro τ next κ l;kernel_rfl
def L127_3.s6 (fu:Nat) {τ:Type} (next ex:Nat→LS_→Option τ) (l:LS_):Option τ :=
 ck (!((gI l 0)==0))
 (ck (!((gI l 0)==0))
 (next 7 [iG l 0,.I (wr .i64 (Int.tdiv (gI l 1) (gI l 0))),iG l 2,iG l 3,iG l 4,iG l 5,iG l 6,iG l 7,.I (Int.tmod (gI l 1) (gI l 0)),iG l 9,iG l 10,iG l 11,iG l 12,iG l 13]))
theorem L127_3.e6 (fu:Nat):LEq (L127_3.O fu) L127_3.H 6 (L127_3.s6 fu):=by intro τ next κ l;kernel_rfl
def L127_3.s7 (fu:Nat) {τ:Type} (next ex:Nat→LS_→Option τ) (l:LS_):Option τ :=
 ck (!((gI l 0)==0))
 (ck (!((gI l 0)==0))
 (next 8 [iG l 0,.I (wr .i64 (Int.tdiv (gI l 1) (gI l 0))),iG l 2,iG l 3,iG l 4,iG l 5,iG l 6,iG l 7,iG l 8,.I (Int.tmod (gI l 1) (gI l 0)),iG l 10,iG l 11,iG l 12,iG l 13]))
theorem L127_3.e7 (fu:Nat):LEq (L127_3.O fu) L127_3.H 7 (L127_3.s7 fu):=by intro τ next κ l;kernel_rfl
def L127_3.s8 (fu:Nat) {τ:Type} (next ex:Nat→LS_→Option τ) (l:LS_):Option τ :=
 ck (!((gI l 0)==0))
 (ck (!((gI l 0)==0))
 (next 9 [iG l 0,.I (wr .i64 (Int.tdiv (gI l 1) (gI l 0))),iG l 2,iG l 3,iG l 4,iG l 5,iG l 6,iG l 7,iG l 8,iG l 9,.I (Int.tmod (gI l 1) (gI l 0)),iG l 11,iG l 12,iG l 13]))
theorem L127_3.e8 (fu:Nat):LEq (L127_3.O fu) L127_3.H 8 (L127_3.s8 fu):=by intro τ next κ l;kernel_rfl
def L127_3.s9 (fu:Nat) {τ:Type} (next ex:Nat→LS_→Option τ) (l:LS_):Option τ :=
 ck (!((gI l 0)==0))
 (ck (!((gI l 0)==0))
 (next 10 [iG l 0,.I (wr .i64 (Int.tdiv (gI l 1) (gI l 0))),iG l 2,iG l 3,iG l 4,iG l 5,iG l 6,iG l 7,iG l 8,iG l 9,iG l 10,.I (Int.tmod (gI l 1) (gI l 0)),iG l 12,iG l 13]))
theorem L127_3.e9 (fu:Nat):LEq (L127_3.O fu) L127_3.H 9 (L127_3.s9 fu):=by intro τ next κ l;kernel_rfl
def L127_3.s10 (fu:Nat) {τ:Type} (next ex:Nat→LS_→Option τ) (l:LS_):Option τ :=
 ck (!((gI l 0)==0))
 (ck (!((gI l 0)==0))
 (next 11 [iG l 0,.I (wr .i64 (Int.tdiv (gI l 1) (gI l 0))),iG l 2,iG l 3,iG l 4,iG l 5,iG l 6,iG l 7,iG l 8,iG l 9,iG l 10,iG l 11,.I (Int.tmod (gI l 1) (gI l 0)),iG l 13]))
theorem L127_3.e10 (fu:Nat):LEq (L127_3.O fu) L127_3.H 10 (L127_3.s10 fu):=by intro τ next κ l;kernel_rfl
def L127_3.s11 (fu:Nat) {τ:Type} (next ex:Nat→LS_→Option τ) (l:LS_):Option τ :=
 ck (!((gI l 0)==0))
 (ck (!((gI l 0)==0))
 (next 12 [iG l 0,.I (wr .i64 (Int.tdiv (gI l 1) (gI l 0))),iG l 2,iG l 3,iG l 4,iG l 5,iG l 6,iG l 7,iG l 8,iG l 9,iG l 10,iG l 11,iG l 12,.I (Int.tmod (gI l 1) (gI l 0))]))
theorem L127_3.e11 (fu:Nat):LEq (L127_3.O fu) L127_3.H 11 (L127_3.s11 fu):=by intro τ next κ l;kernel_rfl
def L127_3.s12 (fu:Nat) {τ:Type} (next ex:Nat→LS_→Option τ) (l:LS_):Option τ :=
 ex 0 [iG l 2,iG l 3,iG l 4,iG l 5,iG l 6,iG l 7,iG l 8,iG l 9,iG l 10,iG l 11,iG l 12,iG l 13]
theorem L127_3.e12 (fu:Nat):LEq (L127_3.O fu) L127_3.H 12 (L127_3.s12 fu):=by intro τ next κ l;kernel_rfl
def L127_3 (fu:Nat):LStep P Cf:=LStep.mk13 (by decide) (L127_3.e0 fu) (L127_3.e1 fu) (L127_3.e2 fu) (L127_3.e3 fu) (L127_3.e4 fu) (L127_3.e5 fu) (L127_3.e6 fu) (L127_3.e7 fu) (L127_3.e8 fu) (L127_3.e9 fu) (L127_3.e10 fu) (L127_3.e11 fu) (L127_3.e12 fu)
def L127_3.b (fu:Nat) {τ:Type} (t:Nat) (l:LS_) (κ:Nat→LS_→Option τ):Option τ:=runE (L127_3 fu) fu κ t l
def L127_3.E (fu:Nat):LEnt P:=LStep.EN fu (L127_3 fu)
def F127.ps:List PV2:=[pI,pI]
def F127.sh:List PA:=[(PA.mk (PV3.v (PV2.agg [iI,iI,iI,iI,iI,iI,iI,iI,iI,iI,iI,iI])) [])]
def F127.O (fu:Nat):Orc P:=⟨[],[(L127_3.E fu)],[],40⟩
def F127 (fu:Nat) {τ:Type} (l:LS_) (k:Nat→LS_→Option τ):Option τ :=
 (L127_3.b fu) 0 [iG l 0,iG l 1,.I 0,.I 0,.I 0,.I 0,.I 0,.I 0,.I 0,.I 0,.I 0,.I 0,.I 0,.I 0]
 (fun j A=>(sw (k 0 [iG A 0,iG A 1,iG A 2,iG A 3,iG A 4,iG A 5,iG A 6,iG A 7,iG A 8,iG A 9,iG A 10,iG A 11])
 (fun _=>none)) j)
theorem F127.eq (fu:Nat):FEq (F127.O fu) 120 F127.ps F127.sh (F127 fu):=by intro τ l κ;kernel_rfl
def F127.E (fu:Nat):Ent P:=mkF (F127.eq fu)
def F129.ps:List PV2:=[pI,pI]
def F129.sh:List PA:=[(PA.mk (PV3.v pI) [])]
def F129.O (fu:Nat):Orc P:=⟨[],[],[],40⟩
def F129 (fu:Nat) {τ:Type} (l:LS_) (k:Nat→LS_→Option τ):Option τ :=
 ck (!((gI l 1)==0))
 (ck (!((gI l 1)==0))
 (k 0 [.I (Int.tmod (wr .i64 ((Int.tmod (gI l 0) (gI l 1))+(gI l 1))) (gI l 1))]))
theorem F129.eq (fu:Nat):FEq (F129.O fu) 122 F129.ps F129.sh (F129 fu):=by intro τ l κ;kernel_rfl
def F129.E (fu:Nat):Ent P:=mkF (F129.eq fu)
def L103_5.H:LHead:=⟨false,true,0,405509,405509,12583304,136,0,[(PS.mk (us 3 ((pp 0)::us 3 ((pp 1)::(pp 2)::us 13 ((pC 1)::(pC 0)::us 18 [])))) fo1),(PS.mk (us 3 ((pp 0)::us 3 ((pp 1)::(pp 2)::us 13 ((pC 1)::(pC 1)::us 18 [])))) fo1)],[((Out.exit 0),(PS.mk (us 3 ((pp 0)::us 3 ((pp 1)::us 34 []))) fo2))]⟩
def L103_5.O (fu:Nat):Orc P:=⟨[(F129.E fu)],[],[],40⟩
def L103_5.s0 (fu:Nat) {τ:Type} (next ex:Nat→LS_→Option τ) (l:LS_):Option τ :=
 (F129 fu) [.I (wr .i64 ((gI l 3)+(gI l 15))),iG l 0]
 (fun j A=>(sw (next 1 [iG l 0,nG l 1,vG l 2,iG A 0,iG l 4,iG l 5,iG l 6,iG l 7,iG l 8,iG l 9,iG l 10,iG l 11,iG l 12,iG l 13,iG l 14,iG l 15,iG l 16,iG l 17,iG l 18,iG l 19,iG l 20,iG l 21,iG l 22,iG l 23,iG l 24,iG l 25,iG l 26])
 (fun _=>none)) j)
theorem L103_5.e0 (fu:Nat):LEq (L103_5.O fu) L103_5.H 0 (L103_5.s0 fu):=by intro τ next κ l;kernel_rfl
def L103_5.s1 (fu:Nat) {τ:Type} (next ex:Nat→LS_→Option τ) (l:LS_):Option τ :=
 ex 0 [iG l 0,nG l 1,vG l 2,iG l 3,iG l 4,iG l 5,iG l 6,iG l 7,iG l 8,iG l 9,iG l 10,iG l 11,iG l 12,iG l 13,iG l 14]
theorem L103_5.e1 (fu:Nat):LEq (L103_5.O fu) L103_5.H 1 (L103_5.s1 fu):=by intro τ next κ l;kernel_rfl
def L103_5 (fu:Nat):LStep P Cf:=LStep.mk2 (by decide) (L103_5.e0 fu) (L103_5.e1 fu)
def L103_5.b (fu:Nat) {τ:Type} (t:Nat) (l:LS_) (κ:Nat→LS_→Option τ):Option τ:=runE (L103_5 fu) fu κ t l
def L103_5.E (fu:Nat):LEnt P:=LStep.EN fu (L103_5 fu)
def L130_3.H:LHead:=⟨false,true,0,503811,503811,108,32,0,[(PS.mk (us 2 ((pp 0)::(pp 1)::us 1 (pI::(pC 0)::us 16 []))) fo2),(PS.mk (us 2 ((pp 0)::(pp 1)::us 1 (pI::(pC (-1))::us 16 []))) fo2)],[((Out.exit 0),(PS.mk (us 5 (pI::us 17 [])) []))]⟩
def L130_3.O (fu:Nat):Orc P:=⟨[],[],[],40⟩
def L130_3.s0 (fu:Nat) {τ:Type} (next ex:Nat→LS_→Option τ) (l:LS_):Option τ :=
 next 1 [.I (wr .i64 ((wr .i64 ((gI l 0)*(gI l 1)))+(gI l 4))),iG l 1,nG l 2,vG l 3,iG l 4,iG l 5,iG l 6,iG l 7,iG l 8,iG l 9,iG l 10,iG l 11,iG l 12,iG l 13,iG l 14,iG l 15]
theorem L130_3.e0 (fu:Nat):LEq (L130_3.O fu) L130_3.H 0 (L130_3.s0 fu):=by intro τ next κ l;kernel_rfl
def L130_3.s1 (fu:Nat) {τ:Type} (next ex:Nat→LS_→Option τ) (l:LS_):Option τ :=
 ex 0 [iG l 0]
theorem L130_3.e1 (fu:Nat):LEq (L130_3.O fu) L130_3.H 1 (L130_3.s1 fu):=by intro τ next κ l;kernel_rfl
def L130_3 (fu:Nat):LStep P Cf:=LStep.mk2 (by decide) (L130_3.e0 fu) (L130_3.e1 fu)
def L130_3.b (fu:Nat) {τ:Type} (t:Nat) (l:LS_) (κ:Nat→LS_→Option τ):Option τ:=runE (L130_3 fu) fu κ t l
def L130_3.E (fu:Nat):LEnt P:=LStep.EN fu (L130_3 fu)
def F130.ps:List PV2:=[(PV2.agg [iI,(PV1.intC .i64 1),aI]),(PV2.agg [iI,iI,iI,iI,iI,iI,iI,iI,iI,iI,iI,iI])]
def F130.sh:List PA:=[(PA.mk (PV3.v pI) [])]
def F130.O (fu:Nat):Orc P:=⟨[],[(L130_3.E fu)],[],40⟩
def F130 (fu:Nat) {τ:Type} (l:LS_) (k:Nat→LS_→Option τ):Option τ :=
 (L130_3.b fu) 0 [.I 0,iG l 0,.N (gL l 1).length,vG l 1,iG l 2,iG l 3,iG l 4,iG l 5,iG l 6,iG l 7,iG l 8,iG l 9,iG l 10,iG l 11,iG l 12,iG l 13]
 (fun j A=>(sw (k 0 [iG A 0])
 (fun _=>none)) j)
theorem F130.eq (fu:Nat):FEq (F130.O fu) 123 F130.ps F130.sh (F130 fu):=by intro τ l κ;kernel_rfl
def F130.E (fu:Nat):Ent P:=mkF (F130.eq fu)
def F103.ps:List PV2:=[(pFieldE 1),pI,pI]
def F103.sh:List PA:=[(PA.mk (PV3.v pI) [])]
def F103.O (fu:Nat):Orc P:=⟨[(F128.E fu),(F127.E fu),(F130.E fu)],[(L103_5.E fu)],[],40⟩
def F103 (fu:Nat) {τ:Type} (l:LS_) (k:Nat→LS_→Option τ):Option τ :=
 ck (((eqM (gL l 1).length (gL l 1).length)&&true)&&true)
 ((F128 fu) [iG l 0,vG l 1]
 (fun j A=>(sw (br (!(gB A 0))
 (k 0 [.I 0])
 ((F127 fu) [iG l 0,iG l 2]
 (fun j B=>(sw ((F127 fu) [iG l 0,iG l 3]
 (fun j C=>(sw ((L103_5.b fu) 0 [iG l 0,.N (gL l 1).length,vG l 1,iG B 0,iG B 1,iG B 2,iG B 3,iG B 4,iG B 5,iG B 6,iG B 7,iG B 8,iG B 9,iG B 10,iG B 11,iG C 0,iG C 1,iG C 2,iG C 3,iG C 4,iG C 5,iG C 6,iG C 7,iG C 8,iG C 9,iG C 10,iG C 11]
 (fun j D=>(sw (ck (((eqM (gN D 1) (gL D 2).length)&&true)&&true)
 ((F130 fu) [iG D 0,vG D 2,iG D 3,iG D 4,iG D 5,iG D 6,iG D 7,iG D 8,iG D 9,iG D 10,iG D 11,iG D 12,iG D 13,iG D 14]
 (fun j E=>(sw (k 0 [iG E 0])
 (fun _=>none)) j)))
 (fun _=>none)) j))
 (fun _=>none)) j))
 (fun _=>none)) j)))
 (fun _=>none)) j))
theorem F103.eq (fu:Nat):FEq (F103.O fu) 99 F103.ps F103.sh (F103 fu):=by intro τ l κ;kernel_rfl
def F103.E (fu:Nat):Ent P:=mkF (F103.eq fu)
def L113_5.H:LHead:=⟨false,true,0,421893,421893,12583304,136,0,[(PS.mk (us 3 ((pp 0)::us 3 ((pp 1)::(pp 2)::us 13 ((pC 1)::(pC 0)::us 18 [])))) fo1),(PS.mk (us 3 ((pp 0)::us 3 ((pp 1)::(pp 2)::us 13 ((pC 1)::(pC 1)::us 18 [])))) fo1)],[((Out.exit 0),(PS.mk (us 3 ((pp 0)::us 3 ((pp 1)::us 34 []))) fo2))]⟩
def L113_5.O (fu:Nat):Orc P:=⟨[(F129.E fu)],[],[],40⟩
def L113_5.s0 (fu:Nat) {τ:Type} (next ex:Nat→LS_→Option τ) (l:LS_):Option τ :=
 (F129 fu) [.I (wr .i64 ((gI l 3)-(gI l 15))),iG l 0]
 (fun j A=>(sw (next 1 [iG l 0,nG l 1,vG l 2,iG A 0,iG l 4,iG l 5,iG l 6,iG l 7,iG l 8,iG l 9,iG l 10,iG l 11,iG l 12,iG l 13,iG l 14,iG l 15,iG l 16,iG l 17,iG l 18,iG l 19,iG l 20,iG l 21,iG l 22,iG l 23,iG l 24,iG l 25,iG l 26])
 (fun _=>none)) j)
theorem L113_5.e0 (fu:Nat):LEq (L113_5.O fu) L113_5.H 0 (L113_5.s0 fu):=by intro τ next κ l;kernel_rfl
def L113_5.s1 (fu:Nat) {τ:Type} (next ex:Nat→LS_→Option τ) (l:LS_):Option τ :=
 ex 0 [iG l 0,nG l 1,vG l 2,iG l 3,iG l 4,iG l 5,iG l 6,iG l 7,iG l 8,iG l 9,iG l 10,iG l 11,iG l 12,iG l 13,iG l 14]
theorem L113_5.e1 (fu:Nat):LEq (L113_5.O fu) L113_5.H 1 (L113_5.s1 fu):=by intro τ next κ l;kernel_rfl
def L113_5 (fu:Nat):LStep P Cf:=LStep.mk2 (by decide) (L113_5.e0 fu) (L113_5.e1 fu)
def L113_5.b (fu:Nat) {τ:Type} (t:Nat) (l:LS_) (κ:Nat→LS_→Option τ):Option τ:=runE (L113_5 fu) fu κ t l
def L113_5.E (fu:Nat):LEnt P:=LStep.EN fu (L113_5 fu)
def F113.ps:List PV2:=[(PV2.agg [iI,(PV1.intC .i64 1),aI]),(pC 0),pI]
def F113.sh:List PA:=[(PA.mk (PV3.v pI) [])]
def F113.O (fu:Nat):Orc P:=⟨[(F128.E fu),(F127.E fu),(F130.E fu)],[(L113_5.E fu)],[],40⟩
def F113 (fu:Nat) {τ:Type} (l:LS_) (k:Nat→LS_→Option τ):Option τ :=
 ck (((eqM (gL l 1).length (gL l 1).length)&&true)&&true)
 ((F128 fu) [iG l 0,vG l 1]
 (fun j A=>(sw (br (!(gB A 0))
 (k 0 [.I 0])
 ((F127 fu) [iG l 0,.I 0]
 (fun j B=>(sw ((F127 fu) [iG l 0,iG l 2]
 (fun j C=>(sw ((L113_5.b fu) 0 [iG l 0,.N (gL l 1).length,vG l 1,iG B 0,iG B 1,iG B 2,iG B 3,iG B 4,iG B 5,iG B 6,iG B 7,iG B 8,iG B 9,iG B 10,iG B 11,iG C 0,iG C 1,iG C 2,iG C 3,iG C 4,iG C 5,iG C 6,iG C 7,iG C 8,iG C 9,iG C 10,iG C 11]
 (fun j D=>(sw (ck (((eqM (gN D 1) (gL D 2).length)&&true)&&true)
 ((F130 fu) [iG D 0,vG D 2,iG D 3,iG D 4,iG D 5,iG D 6,iG D 7,iG D 8,iG D 9,iG D 10,iG D 11,iG D 12,iG D 13,iG D 14]
 (fun j E=>(sw (k 0 [iG E 0])
 (fun _=>none)) j)))
 (fun _=>none)) j))
 (fun _=>none)) j))
 (fun _=>none)) j)))
 (fun _=>none)) j))
theorem F113.eq (fu:Nat):FEq (F113.O fu) 103 F113.ps F113.sh (F113 fu):=by intro τ l κ;kernel_rfl
def F113.E (fu:Nat):Ent P:=mkF (F113.eq fu)
def F83.ps:List PV2:=[(pFieldE 1),pI]
def F83.sh:List PA:=[(PA.mk (PV3.v pI) [])]
def F83.O (fu:Nat):Orc P:=⟨[(F113.E fu)],[],[],40⟩
def F83 (fu:Nat) {τ:Type} (l:LS_) (k:Nat→LS_→Option τ):Option τ :=
 ck (((eqM (gL l 1).length (gL l 1).length)&&true)&&true)
 ((F113 fu) [iG l 0,vG l 1,iG l 2]
 (fun j A=>(sw (k 0 [iG A 0])
 (fun _=>none)) j))
theorem F83.eq (fu:Nat):FEq (F83.O fu) 72 F83.ps F83.sh (F83 fu):=by intro τ l κ;kernel_rfl
def F83.E (fu:Nat):Ent P:=mkF (F83.eq fu)
def L104_9_1.H:LHead:=⟨false,false,7,0,380937,3976,1928,0,[(PS.mk (us 3 ((pp 0)::us 3 ((pp 1)::(pp 2)::pI::pI::(pC 0)::us 62 []))) fo3)],[((Out.exit 2),(PS.mk (us 3 ((pp 0)::us 3 ((pp 1)::(pp 2)::pI::pI::us 63 []))) fo3))]⟩
def L104_9_1.O (fu:Nat):Orc P:=⟨[],[],[],40⟩
def L104_9_1.s0 (fu:Nat) {τ:Type} (next ex:Nat→LS_→Option τ) (l:LS_):Option τ :=
 ex 0 [iG l 0,iG l 1,iG l 2,nG l 3,vG l 4,iG l 5,iG l 6,iG l 7,iG l 8,iG l 9,iG l 10,iG l 11,iG l 12,iG l 13,iG l 14,iG l 15,iG l 16,iG l 17,iG l 18,nG l 19,vG l 20,iG l 21,iG l 22,nG l 23,vG l 24,iG l 25,iG l 26,iG l 27,nG l 28,vG l 29,bG l 30,iG l 31,iG l 32,iG l 33,iG l 34,iG l 35,iG l 36,iG l 37,iG l 38,iG l 39,iG l 40,iG l 41,iG l 42,iG l 43,iG l 44,iG l 45,nG l 46,vG l 47,iG l 48,iG l 49,iG l 50,iG l 51,iG l 52,iG l 53,iG l 54,iG l 55,iG l 56,iG l 57,iG l 58,iG l 59,iG l 60]
theorem L104_9_1.e0 (fu:Nat):LEq (L104_9_1.O fu) L104_9_1.H 0 (L104_9_1.s0 fu):=by intro τ next κ l;kernel_rfl
def L104_9_1 (fu:Nat):LStep P Cf:=LStep.mk1 (by decide) (L104_9_1.e0 fu)
def L104_9_1.b (fu:Nat) {τ:Type} (t:Nat) (l:LS_) (κ:Nat→LS_→Option τ):Option τ:=runE (L104_9_1 fu) fu κ t l
def L104_9_1.E (fu:Nat):LEnt P:=LStep.EN fu (L104_9_1 fu)
def L104_14_1.H:LHead:=⟨false,false,7,0,380942,52776558135176,0,0,[(PS.mk (us 3 ((pp 0)::us 3 ((pp 1)::(pp 2)::pI::pI::us 33 ((pC 1)::(pC 0)::us 28 [])))) fo3),(PS.mk (us 3 ((pp 0)::us 3 ((pp 1)::(pp 2)::pI::pI::us 33 ((pC 1)::(pC 1)::us 28 [])))) fo3)],[((Out.exit 4),(PS.mk (us 74 []) fo3))]⟩
def L104_14_1.O (fu:Nat):Orc P:=⟨[(F129.E fu)],[],[],40⟩
def L104_14_1.s0 (fu:Nat) {τ:Type} (next ex:Nat→LS_→Option τ) (l:LS_):Option τ :=
 ck ((ltI 0 (gN l 3))&&true)
 (ck (ltN 0 (gL l 4).length)
 ((F129 fu) [.I (wr .i64 ((wr .i64 ((gI l 17)-(wr .i64 ((gI l 1)*(List.getD (gL l 4) 0 0)))))+(wr .i64 ((gI l 0)*(gI l 5))))),iG l 2]
 (fun j A=>(sw (next 1 [iG l 0,iG l 1,iG l 2,nG l 3,vG l 4,iG l 5,iG l 6,iG l 7,iG l 8,iG l 9,iG l 10,iG l 11,iG l 12,iG l 13,iG l 14,iG l 15,iG l 16,iG A 0,iG l 18,nG l 19,vG l 20,iG l 21,iG l 22,nG l 23,vG l 24,iG l 25,iG l 26,iG l 27,nG l 28,vG l 29,bG l 30,iG l 31,iG l 32,iG l 33,iG l 34,iG l 35,iG l 36,iG l 37,iG l 38,iG l 39,iG l 40,iG l 41,iG l 42,iG l 43,iG l 44,iG l 45,nG l 46,vG l 47,iG l 48,iG l 49,iG l 50,iG l 51,iG l 52,iG l 53,iG l 54,iG l 55,iG l 56,iG l 57,iG l 58,iG l 59,iG l 60])
 (fun _=>none)) j)))
theorem L104_14_1.e0 (fu:Nat):LEq (L104_14_1.O fu) L104_14_1.H 0 (L104_14_1.s0 fu):=by intro τ next κ l;kernel_rfl
def L104_14_1.s1 (fu:Nat) {τ:Type} (next ex:Nat→LS_→Option τ) (l:LS_):Option τ :=
 ex 0 [iG l 2,nG l 3,vG l 4,iG l 5,iG l 6,iG l 7,iG l 8,iG l 9,iG l 10,iG l 11,iG l 12,iG l 13,iG l 14,iG l 15,iG l 16,iG l 17,iG l 18,nG l 19,vG l 20,iG l 21,iG l 22,nG l 23,vG l 24,iG l 25,iG l 26,iG l 27,nG l 28,vG l 29,bG l 30,iG l 31,iG l 32,iG l 33,iG l 34,iG l 35,iG l 36,iG l 37,iG l 38,iG l 39,iG l 40,iG l 41,iG l 42,iG l 43,iG l 44,iG l 45,nG l 46,vG l 47,iG l 48,iG l 49,iG l 50,iG l 51,iG l 52,iG l 53,iG l 54,iG l 55,iG l 56,iG l 57,iG l 58,iG l 59,iG l 60]
theorem L104_14_1.e1 (fu:Nat):LEq (L104_14_1.O fu) L104_14_1.H 1 (L104_14_1.s1 fu):=by intro τ next κ l;kernel_rfl
def L104_14_1 (fu:Nat):LStep P Cf:=LStep.mk2 (by decide) (L104_14_1.e0 fu) (L104_14_1.e1 fu)
def L104_14_1.b (fu:Nat) {τ:Type} (t:Nat) (l:LS_) (κ:Nat→LS_→Option τ):Option τ:=runE (L104_14_1 fu) fu κ t l
def L104_14_1.E (fu:Nat):LEnt P:=LStep.EN fu (L104_14_1 fu)
def L138_2.H:LHead:=⟨false,false,7,573442,573442,49,0,0,[(PS.mk ((PV2.v (PV1.yld 5))::us 3 ((pp 6)::(pC 0)::us 17 [])) fo4),(PS.mk ((PV2.v (PV1.yld 5))::us 3 ((pp 6)::(pC (-1))::us 17 [])) fo4)],[((Out.exit 0),(PS.mk (us 23 []) fo4))]⟩
def L138_2.O (fu:Nat):Orc P:=⟨[],[(L104_9_1.E fu),(L104_14_1.E fu)],[],40⟩
def L138_2.s0 (fu:Nat) {τ:Type} (next ex:Nat→LS_→Option τ) (l:LS_):Option τ :=
 (L104_9_1.b fu) 0 [iG l 47,iG l 15,iG l 0,nG l 1,vG l 2,iG l 3,iG l 4,iG l 5,iG l 6,iG l 7,iG l 8,iG l 9,iG l 10,iG l 11,iG l 12,iG l 13,iG l 14,iG l 15,iG l 16,nG l 17,vG l 18,iG l 19,iG l 20,nG l 21,vG l 22,iG l 23,iG l 24,iG l 25,nG l 26,vG l 27,bG l 28,iG l 29,iG l 30,iG l 31,iG l 32,iG l 33,iG l 34,iG l 35,iG l 36,iG l 37,iG l 38,iG l 39,iG l 40,iG l 41,iG l 42,iG l 43,nG l 44,vG l 45,iG l 46,iG l 47,iG l 48,iG l 49,iG l 50,iG l 51,iG l 52,iG l 53,iG l 54,iG l 55,iG l 56,iG l 57,iG l 58]
 (fun j A=>(sw ((L104_14_1.b fu) 0 [iG A 0,iG A 1,iG A 2,nG A 3,vG A 4,iG A 5,iG A 6,iG A 7,iG A 8,iG A 9,iG A 10,iG A 11,iG A 12,iG A 13,iG A 14,iG A 15,iG A 16,.I 0,iG A 18,nG A 19,vG A 20,iG A 21,iG A 22,nG A 23,vG A 24,iG A 25,iG A 26,iG A 27,nG A 28,vG A 29,bG A 30,iG A 31,iG A 32,iG A 33,iG A 34,iG A 35,iG A 36,iG A 37,iG A 38,iG A 39,iG A 40,iG A 41,iG A 42,iG A 43,iG A 44,iG A 45,nG A 46,vG A 47,iG A 48,iG A 49,iG A 50,iG A 51,iG A 52,iG A 53,iG A 54,iG A 55,iG A 56,iG A 57,iG A 58,iG A 59,iG A 60]
 (fun j B=>(sw (next 1 [iG B 0,nG B 1,vG B 2,iG B 3,iG B 4,iG B 5,iG B 6,iG B 7,iG B 8,iG B 9,iG B 10,iG B 11,iG B 12,iG B 13,iG B 14,iG B 15,iG B 16,nG B 17,vG B 18,iG B 19,iG B 20,nG B 21,vG B 22,iG B 23,iG B 24,iG B 25,nG B 26,vG B 27,bG B 28,iG B 29,iG B 30,iG B 31,iG B 32,iG B 33,iG B 34,iG B 35,iG B 36,iG B 37,iG B 38,iG B 39,iG B 40,iG B 41,iG B 42,iG B 43,nG B 44,vG B 45,iG B 46,iG B 47,iG B 48,iG B 49,iG B 50,iG B 51,iG B 52,iG B 53,iG B 54,iG B 55,iG B 56,iG B 57,iG B 58])
 (fun _=>none)) j))
 (fun _=>none)) j)
theorem L138_2.e0 (fu:Nat):LEq (L138_2.O fu) L138_2.H 0 (L138_2.s0 fu):=by intro τ next κ l;kernel_rfl
def L138_2.s1 (fu:Nat) {τ:Type} (next ex:Nat→LS_→Option τ) (l:LS_):Option τ :=
 ex 0 [iG l 0,nG l 1,vG l 2,iG l 3,iG l 4,iG l 5,iG l 6,iG l 7,iG l 8,iG l 9,iG l 10,iG l 11,iG l 12,iG l 13,iG l 14,iG l 15,iG l 16,nG l 17,vG l 18,iG l 19,iG l 20,nG l 21,vG l 22,iG l 23,iG l 24,iG l 25,nG l 26,vG l 27,bG l 28,iG l 29,iG l 30,iG l 31,iG l 32,iG l 33,iG l 34,iG l 35,iG l 36,iG l 37,iG l 38,iG l 39,iG l 40,iG l 41,iG l 42,iG l 43,nG l 44,vG l 45,iG l 46,iG l 47,iG l 48,iG l 49,iG l 50,iG l 51,iG l 52,iG l 53,iG l 54,iG l 55,iG l 56,iG l 57,iG l 58]
theorem L138_2.e1 (fu:Nat):LEq (L138_2.O fu) L138_2.H 1 (L138_2.s1 fu):=by intro τ next κ l;kernel_rfl
def L138_2 (fu:Nat):LStep P Cf:=LStep.mk2 (by decide) (L138_2.e0 fu) (L138_2.e1 fu)
def L138_2.b (fu:Nat) {τ:Type} (t:Nat) (l:LS_) (κ:Nat→LS_→Option τ):Option τ:=runE (L138_2 fu) fu κ t l
def L138_2.E (fu:Nat):LEnt P:=LStep.EN fu (L138_2 fu)
def F104.ps:List PV2:=[(pFieldE 1),pI,pI]
def F104.sh:List PA:=[(PA.mk (PV3.v pI) [])]
def F104.O (fu:Nat):Orc P:=⟨[(F128.E fu),(F127.E fu),(F130.E fu)],[(L138_2.E fu)],[],40⟩
def F104 (fu:Nat) {τ:Type} (l:LS_) (k:Nat→LS_→Option τ):Option τ :=
 ck (((eqM (gL l 1).length (gL l 1).length)&&true)&&true)
 ((F128 fu) [iG l 0,vG l 1]
 (fun j A=>(sw (br (!(gB A 0))
 (k 0 [.I 0])
 ((F127 fu) [iG l 0,iG l 2]
 (fun j B=>(sw ((F127 fu) [iG l 0,iG l 3]
 (fun j C=>(sw ((L138_2.b fu) 0 [iG l 0,.N (gL l 1).length,vG l 1,iG B 0,iG B 1,iG B 2,iG B 3,iG B 4,iG B 5,iG B 6,iG B 7,iG B 8,iG B 9,iG B 10,iG B 11,.I 0,iG l 0,.N (gL l 1).length,vG l 1,iG l 3,iG l 0,.N (gL l 1).length,vG l 1,iG l 2,iG l 3,iG l 0,.N (gL l 1).length,vG l 1,bG A 0,iG l 0,iG l 2,iG B 0,iG B 1,iG B 2,iG B 3,iG B 4,iG B 5,iG B 6,iG B 7,iG B 8,iG B 9,iG B 10,iG B 11,iG l 0,.N (gL l 1).length,vG l 1,iG l 3,iG C 0,iG C 1,iG C 2,iG C 3,iG C 4,iG C 5,iG C 6,iG C 7,iG C 8,iG C 9,iG C 10,iG C 11]
 (fun j D=>(sw (ck (((eqM (gN D 1) (gL D 2).length)&&true)&&true)
 ((F130 fu) [iG D 0,vG D 2,iG D 15,.I 0,.I 0,.I 0,.I 0,.I 0,.I 0,.I 0,.I 0,.I 0,.I 0,.I 0]
 (fun j E=>(sw (k 0 [iG E 0])
 (fun _=>none)) j)))
 (fun _=>none)) j))
 (fun _=>none)) j))
 (fun _=>none)) j)))
 (fun _=>none)) j))
theorem F104.eq (fu:Nat):FEq (F104.O fu) 93 F104.ps F104.sh (F104 fu):=by intro τ l κ;kernel_rfl
def F104.E (fu:Nat):Ent P:=mkF (F104.eq fu)
def L128_5_1.H:LHead:=⟨false,true,0,487429,487429,201326606,4,0,[(PS.mk (us 1 ((pp 0)::(PV2.v (PV1.boolC false))::pI::us 22 ((pC 2)::(pC 0)::us 11 []))) [(oG [pI,(pC 2),qR])]),(PS.mk (us 1 ((pp 0)::(PV2.v (PV1.boolC false))::pI::us 22 ((pC 2)::(pC 1)::us 11 []))) [(oG [pI,(pC 2),qR])]),(PS.mk (us 1 ((pp 0)::(PV2.v (PV1.boolC false))::pI::us 22 ((pC 2)::(pC 2)::us 11 []))) [(oG [pI,(pC 2),qR])])],[(Out.ret,(PS.mk (us 2 ((PV2.v (PV1.boolC false))::us 36 [])) [])),((Out.exit 0),(PS.mk (us 2 ((PV2.v (PV1.boolC false))::us 36 [])) []))]⟩
def L128_5_1.O (fu:Nat):Orc P:=⟨[],[],[],40⟩
def L128_5_1.s0 (fu:Nat) {τ:Type} (next ex:Nat→LS_→Option τ) (l:LS_):Option τ :=
 ck (!((gI l 1)==0))
 (br (gtI (gI l 0) (wr .i64 (Int.tdiv 64 (gI l 1))))
 (ex 0 [])
 (next 1 [.I (wr .i64 ((gI l 0)*(gI l 1))),iG l 1,nG l 2,vG l 3]))
theorem L128_5_1.e0 (fu:Nat):LEq (L128_5_1.O fu) L128_5_1.H 0 (L128_5_1.s0 fu):=by intro τ next κ l;kernel_rfl
def L128_5_1.s1 (fu:Nat) {τ:Type} (next ex:Nat→LS_→Option τ) (l:LS_):Option τ :=
 ck (!((gI l 1)==0))
 (br (gtI (gI l 0) (wr .i64 (Int.tdiv 64 (gI l 1))))
 (ex 0 [])
 (next 2 [.I (wr .i64 ((gI l 0)*(gI l 1))),iG l 1,nG l 2,vG l 3]))
theorem L128_5_1.e1 (fu:Nat):LEq (L128_5_1.O fu) L128_5_1.H 1 (L128_5_1.s1 fu):=by intro τ next κ l;kernel_rfl
def L128_5_1.s2 (fu:Nat) {τ:Type} (next ex:Nat→LS_→Option τ) (l:LS_):Option τ :=
 ex 1 []
theorem L128_5_1.e2 (fu:Nat):LEq (L128_5_1.O fu) L128_5_1.H 2 (L128_5_1.s2 fu):=by intro τ next κ l;kernel_rfl
def L128_5_1 (fu:Nat):LStep P Cf:=LStep.mk3 (by decide) (L128_5_1.e0 fu) (L128_5_1.e1 fu) (L128_5_1.e2 fu)
def L128_5_1.b (fu:Nat) {τ:Type} (t:Nat) (l:LS_) (κ:Nat→LS_→Option τ):Option τ:=runE (L128_5_1 fu) fu κ t l
def L128_5_1.E (fu:Nat):LEnt P:=LStep.EN fu (L128_5_1 fu)
def F128_1.ps:List PV2:=[(PV2.agg [iI,(PV1.intC .i64 2),aI])]
def F128_1.sh:List PA:=[(PA.mk (PV3.v pB) [])]
def F128_1.O (fu:Nat):Orc P:=⟨[],[(L128_5_1.E fu)],[],40⟩
def F128_1 (fu:Nat) {τ:Type} (l:LS_) (k:Nat→LS_→Option τ):Option τ :=
 br (ltI (gI l 0) 2)
 (k 0 [.B false])
 (br ((((gL l 1).length:Nat):Int) != 2)
 (k 0 [.B false])
 ((L128_5_1.b fu) 0 [.I 1,iG l 0,.N (gL l 1).length,vG l 1]
 (fun j A=>(sw (k 0 [.B false])
 (sw (k 0 [.B true])
 (fun _=>none))) j)))
theorem F128_1.eq (fu:Nat):FEq (F128_1.O fu) 119 F128_1.ps F128_1.sh (F128_1 fu):=by intro τ l κ;kernel_rfl
def F128_1.E (fu:Nat):Ent P:=mkF (F128_1.eq fu)
def L103_5_1.H:LHead:=⟨false,true,0,405509,405509,12583304,136,0,[(PS.mk (us 3 ((pp 0)::us 3 ((pp 1)::(pp 2)::us 13 ((pC 2)::(pC 0)::us 18 [])))) fo5),(PS.mk (us 3 ((pp 0)::us 3 ((pp 1)::(pp 2)::us 13 ((pC 2)::(pC 1)::us 18 [])))) fo5),(PS.mk (us 3 ((pp 0)::us 3 ((pp 1)::(pp 2)::us 13 ((pC 2)::(pC 2)::us 18 [])))) fo5)],[((Out.exit 0),(PS.mk (us 3 ((pp 0)::us 3 ((pp 1)::us 34 []))) fo6))]⟩
def L103_5_1.O (fu:Nat):Orc P:=⟨[(F129.E fu)],[],[],40⟩
def L103_5_1.s0 (fu:Nat) {τ:Type} (next ex:Nat→LS_→Option τ) (l:LS_):Option τ :=
 (F129 fu) [.I (wr .i64 ((gI l 3)+(gI l 15))),iG l 0]
 (fun j A=>(sw (next 1 [iG l 0,nG l 1,vG l 2,iG A 0,iG l 4,iG l 5,iG l 6,iG l 7,iG l 8,iG l 9,iG l 10,iG l 11,iG l 12,iG l 13,iG l 14,iG l 15,iG l 16,iG l 17,iG l 18,iG l 19,iG l 20,iG l 21,iG l 22,iG l 23,iG l 24,iG l 25,iG l 26])
 (fun _=>none)) j)
theorem L103_5_1.e0 (fu:Nat):LEq (L103_5_1.O fu) L103_5_1.H 0 (L103_5_1.s0 fu):=by intro τ next κ l;kernel_rfl
def L103_5_1.s1 (fu:Nat) {τ:Type} (next ex:Nat→LS_→Option τ) (l:LS_):Option τ :=
 (F129 fu) [.I (wr .i64 ((gI l 4)+(gI l 16))),iG l 0]
 (fun j A=>(sw (next 2 [iG l 0,nG l 1,vG l 2,iG l 3,iG A 0,iG l 5,iG l 6,iG l 7,iG l 8,iG l 9,iG l 10,iG l 11,iG l 12,iG l 13,iG l 14,iG l 15,iG l 16,iG l 17,iG l 18,iG l 19,iG l 20,iG l 21,iG l 22,iG l 23,iG l 24,iG l 25,iG l 26])
 (fun _=>none)) j)
theorem L103_5_1.e1 (fu:Nat):LEq (L103_5_1.O fu) L103_5_1.H 1 (L103_5_1.s1 fu):=by intro τ next κ l;kernel_rfl
def L103_5_1.s2 (fu:Nat) {τ:Type} (next ex:Nat→LS_→Option τ) (l:LS_):Option τ :=
 ex 0 [iG l 0,nG l 1,vG l 2,iG l 3,iG l 4,iG l 5,iG l 6,iG l 7,iG l 8,iG l 9,iG l 10,iG l 11,iG l 12,iG l 13,iG l 14]
theorem L103_5_1.e2 (fu:Nat):LEq (L103_5_1.O fu) L103_5_1.H 2 (L103_5_1.s2 fu):=by intro τ next κ l;kernel_rfl
def L103_5_1 (fu:Nat):LStep P Cf:=LStep.mk3 (by decide) (L103_5_1.e0 fu) (L103_5_1.e1 fu) (L103_5_1.e2 fu)
def L103_5_1.b (fu:Nat) {τ:Type} (t:Nat) (l:LS_) (κ:Nat→LS_→Option τ):Option τ:=runE (L103_5_1 fu) fu κ t l
def L103_5_1.E (fu:Nat):LEnt P:=LStep.EN fu (L103_5_1 fu)
def L130_3_1.H:LHead:=⟨false,true,0,503811,503811,108,32,0,[(PS.mk (us 2 ((pp 0)::(pp 1)::us 1 (pI::(pC 1)::us 16 []))) fo6),(PS.mk (us 2 ((pp 0)::(pp 1)::us 1 (pI::(pC 0)::us 16 []))) fo6),(PS.mk (us 2 ((pp 0)::(pp 1)::us 1 (pI::(pC (-1))::us 16 []))) fo6)],[((Out.exit 0),(PS.mk (us 5 (pI::us 17 [])) []))]⟩
def L130_3_1.O (fu:Nat):Orc P:=⟨[],[],[],40⟩
def L130_3_1.s0 (fu:Nat) {τ:Type} (next ex:Nat→LS_→Option τ) (l:LS_):Option τ :=
 next 1 [.I (wr .i64 ((wr .i64 ((gI l 0)*(gI l 1)))+(gI l 5))),iG l 1,nG l 2,vG l 3,iG l 4,iG l 5,iG l 6,iG l 7,iG l 8,iG l 9,iG l 10,iG l 11,iG l 12,iG l 13,iG l 14,iG l 15]
theorem L130_3_1.e0 (fu:Nat):LEq (L130_3_1.O fu) L130_3_1.H 0 (L130_3_1.s0 fu):=by intro τ next κ l;kernel_rfl
def L130_3_1.s1 (fu:Nat) {τ:Type} (next ex:Nat→LS_→Option τ) (l:LS_):Option τ :=
 next 2 [.I (wr .i64 ((wr .i64 ((gI l 0)*(gI l 1)))+(gI l 4))),iG l 1,nG l 2,vG l 3,iG l 4,iG l 5,iG l 6,iG l 7,iG l 8,iG l 9,iG l 10,iG l 11,iG l 12,iG l 13,iG l 14,iG l 15]
theorem L130_3_1.e1 (fu:Nat):LEq (L130_3_1.O fu) L130_3_1.H 1 (L130_3_1.s1 fu):=by intro τ next κ l;kernel_rfl
def L130_3_1.s2 (fu:Nat) {τ:Type} (next ex:Nat→LS_→Option τ) (l:LS_):Option τ :=
 ex 0 [iG l 0]
theorem L130_3_1.e2 (fu:Nat):LEq (L130_3_1.O fu) L130_3_1.H 2 (L130_3_1.s2 fu):=by intro τ next κ l;kernel_rfl
def L130_3_1 (fu:Nat):LStep P Cf:=LStep.mk3 (by decide) (L130_3_1.e0 fu) (L130_3_1.e1 fu) (L130_3_1.e2 fu)
def L130_3_1.b (fu:Nat) {τ:Type} (t:Nat) (l:LS_) (κ:Nat→LS_→Option τ):Option τ:=runE (L130_3_1 fu) fu κ t l
def L130_3_1.E (fu:Nat):LEnt P:=LStep.EN fu (L130_3_1 fu)
def F130_1.ps:List PV2:=[(PV2.agg [iI,(PV1.intC .i64 2),aI]),(PV2.agg [iI,iI,iI,iI,iI,iI,iI,iI,iI,iI,iI,iI])]
def F130_1.sh:List PA:=[(PA.mk (PV3.v pI) [])]
def F130_1.O (fu:Nat):Orc P:=⟨[],[(L130_3_1.E fu)],[],40⟩
def F130_1 (fu:Nat) {τ:Type} (l:LS_) (k:Nat→LS_→Option τ):Option τ :=
 (L130_3_1.b fu) 0 [.I 0,iG l 0,.N (gL l 1).length,vG l 1,iG l 2,iG l 3,iG l 4,iG l 5,iG l 6,iG l 7,iG l 8,iG l 9,iG l 10,iG l 11,iG l 12,iG l 13]
 (fun j A=>(sw (k 0 [iG A 0])
 (fun _=>none)) j)
theorem F130_1.eq (fu:Nat):FEq (F130_1.O fu) 123 F130_1.ps F130_1.sh (F130_1 fu):=by intro τ l κ;kernel_rfl
def F130_1.E (fu:Nat):Ent P:=mkF (F130_1.eq fu)
def F103_1.ps:List PV2:=[(pFieldE 2),pI,pI]
def F103_1.sh:List PA:=[(PA.mk (PV3.v pI) [])]
def F103_1.O (fu:Nat):Orc P:=⟨[(F128_1.E fu),(F127.E fu),(F130_1.E fu)],[(L103_5_1.E fu)],[],40⟩
def F103_1 (fu:Nat) {τ:Type} (l:LS_) (k:Nat→LS_→Option τ):Option τ :=
 ck (((eqM (gL l 1).length (gL l 1).length)&&true)&&true)
 ((F128_1 fu) [iG l 0,vG l 1]
 (fun j A=>(sw (br (!(gB A 0))
 (k 0 [.I 0])
 ((F127 fu) [iG l 0,iG l 2]
 (fun j B=>(sw ((F127 fu) [iG l 0,iG l 3]
 (fun j C=>(sw ((L103_5_1.b fu) 0 [iG l 0,.N (gL l 1).length,vG l 1,iG B 0,iG B 1,iG B 2,iG B 3,iG B 4,iG B 5,iG B 6,iG B 7,iG B 8,iG B 9,iG B 10,iG B 11,iG C 0,iG C 1,iG C 2,iG C 3,iG C 4,iG C 5,iG C 6,iG C 7,iG C 8,iG C 9,iG C 10,iG C 11]
 (fun j D=>(sw (ck (((eqM (gN D 1) (gL D 2).length)&&true)&&true)
 ((F130_1 fu) [iG D 0,vG D 2,iG D 3,iG D 4,iG D 5,iG D 6,iG D 7,iG D 8,iG D 9,iG D 10,iG D 11,iG D 12,iG D 13,iG D 14]
 (fun j E=>(sw (k 0 [iG E 0])
 (fun _=>none)) j)))
 (fun _=>none)) j))
 (fun _=>none)) j))
 (fun _=>none)) j)))
 (fun _=>none)) j))
theorem F103_1.eq (fu:Nat):FEq (F103_1.O fu) 99 F103_1.ps F103_1.sh (F103_1 fu):=by intro τ l κ;kernel_rfl
def F103_1.E (fu:Nat):Ent P:=mkF (F103_1.eq fu)
def L113_5_1.H:LHead:=⟨false,true,0,421893,421893,12583304,136,0,[(PS.mk (us 3 ((pp 0)::us 3 ((pp 1)::(pp 2)::us 13 ((pC 2)::(pC 0)::us 18 [])))) fo5),(PS.mk (us 3 ((pp 0)::us 3 ((pp 1)::(pp 2)::us 13 ((pC 2)::(pC 1)::us 18 [])))) fo5),(PS.mk (us 3 ((pp 0)::us 3 ((pp 1)::(pp 2)::us 13 ((pC 2)::(pC 2)::us 18 [])))) fo5)],[((Out.exit 0),(PS.mk (us 3 ((pp 0)::us 3 ((pp 1)::us 34 []))) fo6))]⟩
def L113_5_1.O (fu:Nat):Orc P:=⟨[(F129.E fu)],[],[],40⟩
def L113_5_1.s0 (fu:Nat) {τ:Type} (next ex:Nat→LS_→Option τ) (l:LS_):Option τ :=
 (F129 fu) [.I (wr .i64 ((gI l 3)-(gI l 15))),iG l 0]
 (fun j A=>(sw (next 1 [iG l 0,nG l 1,vG l 2,iG A 0,iG l 4,iG l 5,iG l 6,iG l 7,iG l 8,iG l 9,iG l 10,iG l 11,iG l 12,iG l 13,iG l 14,iG l 15,iG l 16,iG l 17,iG l 18,iG l 19,iG l 20,iG l 21,iG l 22,iG l 23,iG l 24,iG l 25,iG l 26])
 (fun _=>none)) j)
theorem L113_5_1.e0 (fu:Nat):LEq (L113_5_1.O fu) L113_5_1.H 0 (L113_5_1.s0 fu):=by intro τ next κ l;kernel_rfl
def L113_5_1.s1 (fu:Nat) {τ:Type} (next ex:Nat→LS_→Option τ) (l:LS_):Option τ :=
 (F129 fu) [.I (wr .i64 ((gI l 4)-(gI l 16))),iG l 0]
 (fun j A=>(sw (next 2 [iG l 0,nG l 1,vG l 2,iG l 3,iG A 0,iG l 5,iG l 6,iG l 7,iG l 8,iG l 9,iG l 10,iG l 11,iG l 12,iG l 13,iG l 14,iG l 15,iG l 16,iG l 17,iG l 18,iG l 19,iG l 20,iG l 21,iG l 22,iG l 23,iG l 24,iG l 25,iG l 26])
 (fun _=>none)) j)
theorem L113_5_1.e1 (fu:Nat):LEq (L113_5_1.O fu) L113_5_1.H 1 (L113_5_1.s1 fu):=by intro τ next κ l;kernel_rfl
def L113_5_1.s2 (fu:Nat) {τ:Type} (next ex:Nat→LS_→Option τ) (l:LS_):Option τ :=
 ex 0 [iG l 0,nG l 1,vG l 2,iG l 3,iG l 4,iG l 5,iG l 6,iG l 7,iG l 8,iG l 9,iG l 10,iG l 11,iG l 12,iG l 13,iG l 14]
theorem L113_5_1.e2 (fu:Nat):LEq (L113_5_1.O fu) L113_5_1.H 2 (L113_5_1.s2 fu):=by intro τ next κ l;kernel_rfl
def L113_5_1 (fu:Nat):LStep P Cf:=LStep.mk3 (by decide) (L113_5_1.e0 fu) (L113_5_1.e1 fu) (L113_5_1.e2 fu)
def L113_5_1.b (fu:Nat) {τ:Type} (t:Nat) (l:LS_) (κ:Nat→LS_→Option τ):Option τ:=runE (L113_5_1 fu) fu κ t l
def L113_5_1.E (fu:Nat):LEnt P:=LStep.EN fu (L113_5_1 fu)
def F113_1.ps:List PV2:=[(PV2.agg [iI,(PV1.intC .i64 2),aI]),(pC 0),pI]
def F113_1.sh:List PA:=[(PA.mk (PV3.v pI) [])]
def F113_1.O (fu:Nat):Orc P:=⟨[(F128_1.E fu),(F127.E fu),(F130_1.E fu)],[(L113_5_1.E fu)],[],40⟩
def F113_1 (fu:Nat) {τ:Type} (l:LS_) (k:Nat→LS_→Option τ):Option τ :=
 ck (((eqM (gL l 1).length (gL l 1).length)&&true)&&true)
 ((F128_1 fu) [iG l 0,vG l 1]
 (fun j A=>(sw (br (!(gB A 0))
 (k 0 [.I 0])
 ((F127 fu) [iG l 0,.I 0]
 (fun j B=>(sw ((F127 fu) [iG l 0,iG l 2]
 (fun j C=>(sw ((L113_5_1.b fu) 0 [iG l 0,.N (gL l 1).length,vG l 1,iG B 0,iG B 1,iG B 2,iG B 3,iG B 4,iG B 5,iG B 6,iG B 7,iG B 8,iG B 9,iG B 10,iG B 11,iG C 0,iG C 1,iG C 2,iG C 3,iG C 4,iG C 5,iG C 6,iG C 7,iG C 8,iG C 9,iG C 10,iG C 11]
 (fun j D=>(sw (ck (((eqM (gN D 1) (gL D 2).length)&&true)&&true)
 ((F130_1 fu) [iG D 0,vG D 2,iG D 3,iG D 4,iG D 5,iG D 6,iG D 7,iG D 8,iG D 9,iG D 10,iG D 11,iG D 12,iG D 13,iG D 14]
 (fun j E=>(sw (k 0 [iG E 0])
 (fun _=>none)) j)))
 (fun _=>none)) j))
 (fun _=>none)) j))
 (fun _=>none)) j)))
 (fun _=>none)) j))
theorem F113_1.eq (fu:Nat):FEq (F113_1.O fu) 103 F113_1.ps F113_1.sh (F113_1 fu):=by intro τ l κ;kernel_rfl
def F113_1.E (fu:Nat):Ent P:=mkF (F113_1.eq fu)
def F83_1.ps:List PV2:=[(pFieldE 2),pI]
def F83_1.sh:List PA:=[(PA.mk (PV3.v pI) [])]
def F83_1.O (fu:Nat):Orc P:=⟨[(F113_1.E fu)],[],[],40⟩
def F83_1 (fu:Nat) {τ:Type} (l:LS_) (k:Nat→LS_→Option τ):Option τ :=
 ck (((eqM (gL l 1).length (gL l 1).length)&&true)&&true)
 ((F113_1 fu) [iG l 0,vG l 1,iG l 2]
 (fun j A=>(sw (k 0 [iG A 0])
 (fun _=>none)) j))
theorem F83_1.eq (fu:Nat):FEq (F83_1.O fu) 72 F83_1.ps F83_1.sh (F83_1 fu):=by intro τ l κ;kernel_rfl
def F83_1.E (fu:Nat):Ent P:=mkF (F83_1.eq fu)
def L104_9_3.H:LHead:=⟨false,false,7,0,380937,3976,1928,0,[(PS.mk (us 3 ((pp 0)::us 3 ((pp 1)::(pp 2)::pI::pI::(pC 1)::us 62 []))) fo7),(PS.mk (us 3 ((pp 0)::us 3 ((pp 1)::(pp 2)::pI::pI::(pC 0)::us 62 []))) fo7)],[((Out.exit 2),(PS.mk (us 3 ((pp 0)::us 3 ((pp 1)::(pp 2)::pI::pI::us 63 []))) fo7))]⟩
def L104_9_3.O (fu:Nat):Orc P:=⟨[],[],[],40⟩
def L104_9_3.s0 (fu:Nat) {τ:Type} (next ex:Nat→LS_→Option τ) (l:LS_):Option τ :=
 next 1 [iG l 0,iG l 1,iG l 2,nG l 3,vG l 4,iG l 5,iG l 6,iG l 7,iG l 8,iG l 9,iG l 10,iG l 11,iG l 12,iG l 13,iG l 14,iG l 15,iG l 16,iG l 17,iG l 17,iG l 19,nG l 20,vG l 21,iG l 22,iG l 23,nG l 24,vG l 25,iG l 26,iG l 27,iG l 28,nG l 29,vG l 30,bG l 31,iG l 32,iG l 33,iG l 34,iG l 35,iG l 36,iG l 37,iG l 38,iG l 39,iG l 40,iG l 41,iG l 42,iG l 43,iG l 44,iG l 45,iG l 46,nG l 47,vG l 48,iG l 49,iG l 50,iG l 51,iG l 52,iG l 53,iG l 54,iG l 55,iG l 56,iG l 57,iG l 58,iG l 59,iG l 60,iG l 61]
theorem L104_9_3.e0 (fu:Nat):LEq (L104_9_3.O fu) L104_9_3.H 0 (L104_9_3.s0 fu):=by intro τ next κ l;kernel_rfl
def L104_9_3.s1 (fu:Nat) {τ:Type} (next ex:Nat→LS_→Option τ) (l:LS_):Option τ :=
 ex 0 [iG l 0,iG l 1,iG l 2,nG l 3,vG l 4,iG l 5,iG l 6,iG l 7,iG l 8,iG l 9,iG l 10,iG l 11,iG l 12,iG l 13,iG l 14,iG l 15,iG l 16,iG l 17,iG l 18,iG l 19,nG l 20,vG l 21,iG l 22,iG l 23,nG l 24,vG l 25,iG l 26,iG l 27,iG l 28,nG l 29,vG l 30,bG l 31,iG l 32,iG l 33,iG l 34,iG l 35,iG l 36,iG l 37,iG l 38,iG l 39,iG l 40,iG l 41,iG l 42,iG l 43,iG l 44,iG l 45,iG l 46,nG l 47,vG l 48,iG l 49,iG l 50,iG l 51,iG l 52,iG l 53,iG l 54,iG l 55,iG l 56,iG l 57,iG l 58,iG l 59,iG l 60,iG l 61]
theorem L104_9_3.e1 (fu:Nat):LEq (L104_9_3.O fu) L104_9_3.H 1 (L104_9_3.s1 fu):=by intro τ next κ l;kernel_rfl
def L104_9_3 (fu:Nat):LStep P Cf:=LStep.mk2 (by decide) (L104_9_3.e0 fu) (L104_9_3.e1 fu)
def L104_9_3.b (fu:Nat) {τ:Type} (t:Nat) (l:LS_) (κ:Nat→LS_→Option τ):Option τ:=runE (L104_9_3 fu) fu κ t l
def L104_9_3.E (fu:Nat):LEnt P:=LStep.EN fu (L104_9_3 fu)
def L104_14_3.H:LHead:=⟨false,false,7,0,380942,52776558135176,0,0,[(PS.mk (us 3 ((pp 0)::us 3 ((pp 1)::(pp 2)::pI::pI::us 33 ((pC 2)::(pC 0)::us 28 [])))) fo7),(PS.mk (us 3 ((pp 0)::us 3 ((pp 1)::(pp 2)::pI::pI::us 33 ((pC 2)::(pC 1)::us 28 [])))) fo7),(PS.mk (us 3 ((pp 0)::us 3 ((pp 1)::(pp 2)::pI::pI::us 33 ((pC 2)::(pC 2)::us 28 [])))) fo7)],[((Out.exit 4),(PS.mk (us 74 []) fo7))]⟩
def L104_14_3.O (fu:Nat):Orc P:=⟨[(F129.E fu)],[],[],40⟩
def L104_14_3.s0 (fu:Nat) {τ:Type} (next ex:Nat→LS_→Option τ) (l:LS_):Option τ :=
 ck ((ltI 0 (gN l 3))&&true)
 (ck (ltN 0 (gL l 4).length)
 ((F129 fu) [.I (wr .i64 ((wr .i64 ((gI l 17)-(wr .i64 ((gI l 1)*(List.getD (gL l 4) 0 0)))))+(wr .i64 ((gI l 0)*(gI l 5))))),iG l 2]
 (fun j A=>(sw (next 1 [iG l 0,iG l 1,iG l 2,nG l 3,vG l 4,iG l 5,iG l 6,iG l 7,iG l 8,iG l 9,iG l 10,iG l 11,iG l 12,iG l 13,iG l 14,iG l 15,iG l 16,iG A 0,iG l 18,iG l 19,nG l 20,vG l 21,iG l 22,iG l 23,nG l 24,vG l 25,iG l 26,iG l 27,iG l 28,nG l 29,vG l 30,bG l 31,iG l 32,iG l 33,iG l 34,iG l 35,iG l 36,iG l 37,iG l 38,iG l 39,iG l 40,iG l 41,iG l 42,iG l 43,iG l 44,iG l 45,iG l 46,nG l 47,vG l 48,iG l 49,iG l 50,iG l 51,iG l 52,iG l 53,iG l 54,iG l 55,iG l 56,iG l 57,iG l 58,iG l 59,iG l 60,iG l 61])
 (fun _=>none)) j)))
theorem L104_14_3.e0 (fu:Nat):LEq (L104_14_3.O fu) L104_14_3.H 0 (L104_14_3.s0 fu):=by intro τ next κ l;kernel_rfl
def L104_14_3.s1 (fu:Nat) {τ:Type} (next ex:Nat→LS_→Option τ) (l:LS_):Option τ :=
 ck ((ltI 1 (gN l 3))&&true)
 (ck (ltN 1 (gL l 4).length)
 ((F129 fu) [.I (wr .i64 ((wr .i64 ((gI l 18)-(wr .i64 ((gI l 1)*(List.getD (gL l 4) 1 0)))))+(wr .i64 ((gI l 0)*(gI l 6))))),iG l 2]
 (fun j A=>(sw (next 2 [iG l 0,iG l 1,iG l 2,nG l 3,vG l 4,iG l 5,iG l 6,iG l 7,iG l 8,iG l 9,iG l 10,iG l 11,iG l 12,iG l 13,iG l 14,iG l 15,iG l 16,iG l 17,iG A 0,iG l 19,nG l 20,vG l 21,iG l 22,iG l 23,nG l 24,vG l 25,iG l 26,iG l 27,iG l 28,nG l 29,vG l 30,bG l 31,iG l 32,iG l 33,iG l 34,iG l 35,iG l 36,iG l 37,iG l 38,iG l 39,iG l 40,iG l 41,iG l 42,iG l 43,iG l 44,iG l 45,iG l 46,nG l 47,vG l 48,iG l 49,iG l 50,iG l 51,iG l 52,iG l 53,iG l 54,iG l 55,iG l 56,iG l 57,iG l 58,iG l 59,iG l 60,iG l 61])
 (fun _=>none)) j)))
theorem L104_14_3.e1 (fu:Nat):LEq (L104_14_3.O fu) L104_14_3.H 1 (L104_14_3.s1 fu):=by intro τ next κ l;kernel_rfl
def L104_14_3.s2 (fu:Nat) {τ:Type} (next ex:Nat→LS_→Option τ) (l:LS_):Option τ :=
 ex 0 [iG l 2,nG l 3,vG l 4,iG l 5,iG l 6,iG l 7,iG l 8,iG l 9,iG l 10,iG l 11,iG l 12,iG l 13,iG l 14,iG l 15,iG l 16,iG l 17,iG l 18,iG l 19,nG l 20,vG l 21,iG l 22,iG l 23,nG l 24,vG l 25,iG l 26,iG l 27,iG l 28,nG l 29,vG l 30,bG l 31,iG l 32,iG l 33,iG l 34,iG l 35,iG l 36,iG l 37,iG l 38,iG l 39,iG l 40,iG l 41,iG l 42,iG l 43,iG l 44,iG l 45,iG l 46,nG l 47,vG l 48,iG l 49,iG l 50,iG l 51,iG l 52,iG l 53,iG l 54,iG l 55,iG l 56,iG l 57,iG l 58,iG l 59,iG l 60,iG l 61]
theorem L104_14_3.e2 (fu:Nat):LEq (L104_14_3.O fu) L104_14_3.H 2 (L104_14_3.s2 fu):=by intro τ next κ l;kernel_rfl
def L104_14_3 (fu:Nat):LStep P Cf:=LStep.mk3 (by decide) (L104_14_3.e0 fu) (L104_14_3.e1 fu) (L104_14_3.e2 fu)
def L104_14_3.b (fu:Nat) {τ:Type} (t:Nat) (l:LS_) (κ:Nat→LS_→Option τ):Option τ:=runE (L104_14_3 fu) fu κ t l
def L104_14_3.E (fu:Nat):LEnt P:=LStep.EN fu (L104_14_3 fu)
def L138_2_1.H:LHead:=⟨false,false,7,573442,573442,49,0,0,[(PS.mk ((PV2.v (PV1.yld 5))::us 3 ((pp 6)::(pC 1)::us 17 [])) fo8),(PS.mk ((PV2.v (PV1.yld 5))::us 3 ((pp 6)::(pC 0)::us 17 [])) fo8),(PS.mk ((PV2.v (PV1.yld 5))::us 3 ((pp 6)::(pC (-1))::us 17 [])) fo8)],[((Out.exit 0),(PS.mk (us 23 []) fo8))]⟩
def L138_2_1.O (fu:Nat):Orc P:=⟨[],[(L104_9_3.E fu),(L104_14_3.E fu)],[],40⟩
def L138_2_1.s0 (fu:Nat) {τ:Type} (next ex:Nat→LS_→Option τ) (l:LS_):Option τ :=
 (L104_9_3.b fu) 0 [iG l 49,iG l 16,iG l 0,nG l 1,vG l 2,iG l 3,iG l 4,iG l 5,iG l 6,iG l 7,iG l 8,iG l 9,iG l 10,iG l 11,iG l 12,iG l 13,iG l 14,iG l 15,iG l 16,iG l 17,nG l 18,vG l 19,iG l 20,iG l 21,nG l 22,vG l 23,iG l 24,iG l 25,iG l 26,nG l 27,vG l 28,bG l 29,iG l 30,iG l 31,iG l 32,iG l 33,iG l 34,iG l 35,iG l 36,iG l 37,iG l 38,iG l 39,iG l 40,iG l 41,iG l 42,iG l 43,iG l 44,nG l 45,vG l 46,iG l 47,iG l 48,iG l 49,iG l 50,iG l 51,iG l 52,iG l 53,iG l 54,iG l 55,iG l 56,iG l 57,iG l 58,iG l 59]
 (fun j A=>(sw ((L104_14_3.b fu) 0 [iG A 0,iG A 1,iG A 2,nG A 3,vG A 4,iG A 5,iG A 6,iG A 7,iG A 8,iG A 9,iG A 10,iG A 11,iG A 12,iG A 13,iG A 14,iG A 15,iG A 16,.I 0,iG A 18,iG A 19,nG A 20,vG A 21,iG A 22,iG A 23,nG A 24,vG A 25,iG A 26,iG A 27,iG A 28,nG A 29,vG A 30,bG A 31,iG A 32,iG A 33,iG A 34,iG A 35,iG A 36,iG A 37,iG A 38,iG A 39,iG A 40,iG A 41,iG A 42,iG A 43,iG A 44,iG A 45,iG A 46,nG A 47,vG A 48,iG A 49,iG A 50,iG A 51,iG A 52,iG A 53,iG A 54,iG A 55,iG A 56,iG A 57,iG A 58,iG A 59,iG A 60,iG A 61]
 (fun j B=>(sw (next 1 [iG B 0,nG B 1,vG B 2,iG B 3,iG B 4,iG B 5,iG B 6,iG B 7,iG B 8,iG B 9,iG B 10,iG B 11,iG B 12,iG B 13,iG B 14,iG B 15,iG B 16,iG B 17,nG B 18,vG B 19,iG B 20,iG B 21,nG B 22,vG B 23,iG B 24,iG B 25,iG B 26,nG B 27,vG B 28,bG B 29,iG B 30,iG B 31,iG B 32,iG B 33,iG B 34,iG B 35,iG B 36,iG B 37,iG B 38,iG B 39,iG B 40,iG B 41,iG B 42,iG B 43,iG B 44,nG B 45,vG B 46,iG B 47,iG B 48,iG B 49,iG B 50,iG B 51,iG B 52,iG B 53,iG B 54,iG B 55,iG B 56,iG B 57,iG B 58,iG B 59])
 (fun _=>none)) j))
 (fun _=>none)) j)
theorem L138_2_1.e0 (fu:Nat):LEq (L138_2_1.O fu) L138_2_1.H 0 (L138_2_1.s0 fu):=by intro τ next κ l;kernel_rfl
def L138_2_1.s1 (fu:Nat) {τ:Type} (next ex:Nat→LS_→Option τ) (l:LS_):Option τ :=
 (L104_9_3.b fu) 0 [iG l 48,iG l 16,iG l 0,nG l 1,vG l 2,iG l 3,iG l 4,iG l 5,iG l 6,iG l 7,iG l 8,iG l 9,iG l 10,iG l 11,iG l 12,iG l 13,iG l 14,iG l 15,iG l 16,iG l 17,nG l 18,vG l 19,iG l 20,iG l 21,nG l 22,vG l 23,iG l 24,iG l 25,iG l 26,nG l 27,vG l 28,bG l 29,iG l 30,iG l 31,iG l 32,iG l 33,iG l 34,iG l 35,iG l 36,iG l 37,iG l 38,iG l 39,iG l 40,iG l 41,iG l 42,iG l 43,iG l 44,nG l 45,vG l 46,iG l 47,iG l 48,iG l 49,iG l 50,iG l 51,iG l 52,iG l 53,iG l 54,iG l 55,iG l 56,iG l 57,iG l 58,iG l 59]
 (fun j A=>(sw ((L104_14_3.b fu) 0 [iG A 0,iG A 1,iG A 2,nG A 3,vG A 4,iG A 5,iG A 6,iG A 7,iG A 8,iG A 9,iG A 10,iG A 11,iG A 12,iG A 13,iG A 14,iG A 15,iG A 16,.I 0,iG A 18,iG A 19,nG A 20,vG A 21,iG A 22,iG A 23,nG A 24,vG A 25,iG A 26,iG A 27,iG A 28,nG A 29,vG A 30,bG A 31,iG A 32,iG A 33,iG A 34,iG A 35,iG A 36,iG A 37,iG A 38,iG A 39,iG A 40,iG A 41,iG A 42,iG A 43,iG A 44,iG A 45,iG A 46,nG A 47,vG A 48,iG A 49,iG A 50,iG A 51,iG A 52,iG A 53,iG A 54,iG A 55,iG A 56,iG A 57,iG A 58,iG A 59,iG A 60,iG A 61]
 (fun j B=>(sw (next 2 [iG B 0,nG B 1,vG B 2,iG B 3,iG B 4,iG B 5,iG B 6,iG B 7,iG B 8,iG B 9,iG B 10,iG B 11,iG B 12,iG B 13,iG B 14,iG B 15,iG B 16,iG B 17,nG B 18,vG B 19,iG B 20,iG B 21,nG B 22,vG B 23,iG B 24,iG B 25,iG B 26,nG B 27,vG B 28,bG B 29,iG B 30,iG B 31,iG B 32,iG B 33,iG B 34,iG B 35,iG B 36,iG B 37,iG B 38,iG B 39,iG B 40,iG B 41,iG B 42,iG B 43,iG B 44,nG B 45,vG B 46,iG B 47,iG B 48,iG B 49,iG B 50,iG B 51,iG B 52,iG B 53,iG B 54,iG B 55,iG B 56,iG B 57,iG B 58,iG B 59])
 (fun _=>none)) j))
 (fun _=>none)) j)
theorem L138_2_1.e1 (fu:Nat):LEq (L138_2_1.O fu) L138_2_1.H 1 (L138_2_1.s1 fu):=by intro τ next κ l;kernel_rfl
def L138_2_1.s2 (fu:Nat) {τ:Type} (next ex:Nat→LS_→Option τ) (l:LS_):Option τ :=
 ex 0 [iG l 0,nG l 1,vG l 2,iG l 3,iG l 4,iG l 5,iG l 6,iG l 7,iG l 8,iG l 9,iG l 10,iG l 11,iG l 12,iG l 13,iG l 14,iG l 15,iG l 16,iG l 17,nG l 18,vG l 19,iG l 20,iG l 21,nG l 22,vG l 23,iG l 24,iG l 25,iG l 26,nG l 27,vG l 28,bG l 29,iG l 30,iG l 31,iG l 32,iG l 33,iG l 34,iG l 35,iG l 36,iG l 37,iG l 38,iG l 39,iG l 40,iG l 41,iG l 42,iG l 43,iG l 44,nG l 45,vG l 46,iG l 47,iG l 48,iG l 49,iG l 50,iG l 51,iG l 52,iG l 53,iG l 54,iG l 55,iG l 56,iG l 57,iG l 58,iG l 59]
theorem L138_2_1.e2 (fu:Nat):LEq (L138_2_1.O fu) L138_2_1.H 2 (L138_2_1.s2 fu):=by intro τ next κ l;kernel_rfl
def L138_2_1 (fu:Nat):LStep P Cf:=LStep.mk3 (by decide) (L138_2_1.e0 fu) (L138_2_1.e1 fu) (L138_2_1.e2 fu)
def L138_2_1.b (fu:Nat) {τ:Type} (t:Nat) (l:LS_) (κ:Nat→LS_→Option τ):Option τ:=runE (L138_2_1 fu) fu κ t l
def L138_2_1.E (fu:Nat):LEnt P:=LStep.EN fu (L138_2_1 fu)
def F104_1.ps:List PV2:=[(pFieldE 2),pI,pI]
def F104_1.sh:List PA:=[(PA.mk (PV3.v pI) [])]
def F104_1.O (fu:Nat):Orc P:=⟨[(F128_1.E fu),(F127.E fu),(F130_1.E fu)],[(L138_2_1.E fu)],[],40⟩
def F104_1 (fu:Nat) {τ:Type} (l:LS_) (k:Nat→LS_→Option τ):Option τ :=
 ck (((eqM (gL l 1).length (gL l 1).length)&&true)&&true)
 ((F128_1 fu) [iG l 0,vG l 1]
 (fun j A=>(sw (br (!(gB A 0))
 (k 0 [.I 0])
 ((F127 fu) [iG l 0,iG l 2]
 (fun j B=>(sw ((F127 fu) [iG l 0,iG l 3]
 (fun j C=>(sw ((L138_2_1.b fu) 0 [iG l 0,.N (gL l 1).length,vG l 1,iG B 0,iG B 1,iG B 2,iG B 3,iG B 4,iG B 5,iG B 6,iG B 7,iG B 8,iG B 9,iG B 10,iG B 11,.I 0,.I 0,iG l 0,.N (gL l 1).length,vG l 1,iG l 3,iG l 0,.N (gL l 1).length,vG l 1,iG l 2,iG l 3,iG l 0,.N (gL l 1).length,vG l 1,bG A 0,iG l 0,iG l 2,iG B 0,iG B 1,iG B 2,iG B 3,iG B 4,iG B 5,iG B 6,iG B 7,iG B 8,iG B 9,iG B 10,iG B 11,iG l 0,.N (gL l 1).length,vG l 1,iG l 3,iG C 0,iG C 1,iG C 2,iG C 3,iG C 4,iG C 5,iG C 6,iG C 7,iG C 8,iG C 9,iG C 10,iG C 11]
 (fun j D=>(sw (ck (((eqM (gN D 1) (gL D 2).length)&&true)&&true)
 ((F130_1 fu) [iG D 0,vG D 2,iG D 15,iG D 16,.I 0,.I 0,.I 0,.I 0,.I 0,.I 0,.I 0,.I 0,.I 0,.I 0]
 (fun j E=>(sw (k 0 [iG E 0])
 (fun _=>none)) j)))
 (fun _=>none)) j))
 (fun _=>none)) j))
 (fun _=>none)) j)))
 (fun _=>none)) j))
theorem F104_1.eq (fu:Nat):FEq (F104_1.O fu) 93 F104_1.ps F104_1.sh (F104_1 fu):=by intro τ l κ;kernel_rfl
def F104_1.E (fu:Nat):Ent P:=mkF (F104_1.eq fu)
def L128_5_2.H:LHead:=⟨false,true,0,487429,487429,201326606,4,0,[(PS.mk (us 1 ((pp 0)::(PV2.v (PV1.boolC false))::pI::us 22 ((pC 3)::(pC 0)::us 11 []))) [(oG [pI,(pC 3),qR])]),(PS.mk (us 1 ((pp 0)::(PV2.v (PV1.boolC false))::pI::us 22 ((pC 3)::(pC 1)::us 11 []))) [(oG [pI,(pC 3),qR])]),(PS.mk (us 1 ((pp 0)::(PV2.v (PV1.boolC false))::pI::us 22 ((pC 3)::(pC 2)::us 11 []))) [(oG [pI,(pC 3),qR])]),(PS.mk (us 1 ((pp 0)::(PV2.v (PV1.boolC false))::pI::us 22 ((pC 3)::(pC 3)::us 11 []))) [(oG [pI,(pC 3),qR])])],[(Out.ret,(PS.mk (us 2 ((PV2.v (PV1.boolC false))::us 36 [])) [])),((Out.exit 0),(PS.mk (us 2 ((PV2.v (PV1.boolC false))::us 36 [])) []))]⟩
def L128_5_2.O (fu:Nat):Orc P:=⟨[],[],[],40⟩
def L128_5_2.s0 (fu:Nat) {τ:Type} (next ex:Nat→LS_→Option τ) (l:LS_):Option τ :=
 ck (!((gI l 1)==0))
 (br (gtI (gI l 0) (wr .i64 (Int.tdiv 64 (gI l 1))))
 (ex 0 [])
 (next 1 [.I (wr .i64 ((gI l 0)*(gI l 1))),iG l 1,nG l 2,vG l 3]))
theorem L128_5_2.e0 (fu:Nat):LEq (L128_5_2.O fu) L128_5_2.H 0 (L128_5_2.s0 fu):=by intro τ next κ l;kernel_rfl
def L128_5_2.s1 (fu:Nat) {τ:Type} (next ex:Nat→LS_→Option τ) (l:LS_):Option τ :=
 ck (!((gI l 1)==0))
 (br (gtI (gI l 0) (wr .i64 (Int.tdiv 64 (gI l 1))))
 (ex 0 [])
 (next 2 [.I (wr .i64 ((gI l 0)*(gI l 1))),iG l 1,nG l 2,vG l 3]))
theorem L128_5_2.e1 (fu:Nat):LEq (L128_5_2.O fu) L128_5_2.H 1 (L128_5_2.s1 fu):=by intro τ next κ l;kernel_rfl
def L128_5_2.s2 (fu:Nat) {τ:Type} (next ex:Nat→LS_→Option τ) (l:LS_):Option τ :=
 ck (!((gI l 1)==0))
 (br (gtI (gI l 0) (wr .i64 (Int.tdiv 64 (gI l 1))))
 (ex 0 [])
 (next 3 [.I (wr .i64 ((gI l 0)*(gI l 1))),iG l 1,nG l 2,vG l 3]))
theorem L128_5_2.e2 (fu:Nat):LEq (L128_5_2.O fu) L128_5_2.H 2 (L128_5_2.s2 fu):=by intro τ next κ l;kernel_rfl
def L128_5_2.s3 (fu:Nat) {τ:Type} (next ex:Nat→LS_→Option τ) (l:LS_):Option τ :=
 ex 1 []
theorem L128_5_2.e3 (fu:Nat):LEq (L128_5_2.O fu) L128_5_2.H 3 (L128_5_2.s3 fu):=by intro τ next κ l;kernel_rfl
def L128_5_2 (fu:Nat):LStep P Cf:=LStep.mk4 (by decide) (L128_5_2.e0 fu) (L128_5_2.e1 fu) (L128_5_2.e2 fu) (L128_5_2.e3 fu)
def L128_5_2.b (fu:Nat) {τ:Type} (t:Nat) (l:LS_) (κ:Nat→LS_→Option τ):Option τ:=runE (L128_5_2 fu) fu κ t l
def L128_5_2.E (fu:Nat):LEnt P:=LStep.EN fu (L128_5_2 fu)
def F128_2.ps:List PV2:=[(PV2.agg [iI,(PV1.intC .i64 3),aI])]
def F128_2.sh:List PA:=[(PA.mk (PV3.v pB) [])]
def F128_2.O (fu:Nat):Orc P:=⟨[],[(L128_5_2.E fu)],[],40⟩
def F128_2 (fu:Nat) {τ:Type} (l:LS_) (k:Nat→LS_→Option τ):Option τ :=
 br (ltI (gI l 0) 2)
 (k 0 [.B false])
 (br ((((gL l 1).length:Nat):Int) != 3)
 (k 0 [.B false])
 ((L128_5_2.b fu) 0 [.I 1,iG l 0,.N (gL l 1).length,vG l 1]
 (fun j A=>(sw (k 0 [.B false])
 (sw (k 0 [.B true])
 (fun _=>none))) j)))
theorem F128_2.eq (fu:Nat):FEq (F128_2.O fu) 119 F128_2.ps F128_2.sh (F128_2 fu):=by intro τ l κ;kernel_rfl
def F128_2.E (fu:Nat):Ent P:=mkF (F128_2.eq fu)
def L103_5_2.H:LHead:=⟨false,true,0,405509,405509,12583304,136,0,[(PS.mk (us 3 ((pp 0)::us 3 ((pp 1)::(pp 2)::us 13 ((pC 3)::(pC 0)::us 18 [])))) fo9),(PS.mk (us 3 ((pp 0)::us 3 ((pp 1)::(pp 2)::us 13 ((pC 3)::(pC 1)::us 18 [])))) fo9),(PS.mk (us 3 ((pp 0)::us 3 ((pp 1)::(pp 2)::us 13 ((pC 3)::(pC 2)::us 18 [])))) fo9),(PS.mk (us 3 ((pp 0)::us 3 ((pp 1)::(pp 2)::us 13 ((pC 3)::(pC 3)::us 18 [])))) fo9)],[((Out.exit 0),(PS.mk (us 3 ((pp 0)::us 3 ((pp 1)::us 34 []))) fo10))]⟩
def L103_5_2.O (fu:Nat):Orc P:=⟨[(F129.E fu)],[],[],40⟩
def L103_5_2.s0 (fu:Nat) {τ:Type} (next ex:Nat→LS_→Option τ) (l:LS_):Option τ :=
 (F129 fu) [.I (wr .i64 ((gI l 3)+(gI l 15))),iG l 0]
 (fun j A=>(sw (next 1 [iG l 0,nG l 1,vG l 2,iG A 0,iG l 4,iG l 5,iG l 6,iG l 7,iG l 8,iG l 9,iG l 10,iG l 11,iG l 12,iG l 13,iG l 14,iG l 15,iG l 16,iG l 17,iG l 18,iG l 19,iG l 20,iG l 21,iG l 22,iG l 23,iG l 24,iG l 25,iG l 26])
 (fun _=>none)) j)
theorem L103_5_2.e0 (fu:Nat):LEq (L103_5_2.O fu) L103_5_2.H 0 (L103_5_2.s0 fu):=by intro τ next κ l;kernel_rfl
def L103_5_2.s1 (fu:Nat) {τ:Type} (next ex:Nat→LS_→Option τ) (l:LS_):Option τ :=
 (F129 fu) [.I (wr .i64 ((gI l 4)+(gI l 16))),iG l 0]
 (fun j A=>(sw (next 2 [iG l 0,nG l 1,vG l 2,iG l 3,iG A 0,iG l 5,iG l 6,iG l 7,iG l 8,iG l 9,iG l 10,iG l 11,iG l 12,iG l 13,iG l 14,iG l 15,iG l 16,iG l 17,iG l 18,iG l 19,iG l 20,iG l 21,iG l 22,iG l 23,iG l 24,iG l 25,iG l 26])
 (fun _=>none)) j)
theorem L103_5_2.e1 (fu:Nat):LEq (L103_5_2.O fu) L103_5_2.H 1 (L103_5_2.s1 fu):=by intro τ next κ l;kernel_rfl
def L103_5_2.s2 (fu:Nat) {τ:Type} (next ex:Nat→LS_→Option τ) (l:LS_):Option τ :=
 (F129 fu) [.I (wr .i64 ((gI l 5)+(gI l 17))),iG l 0]
 (fun j A=>(sw (next 3 [iG l 0,nG l 1,vG l 2,iG l 3,iG l 4,iG A 0,iG l 6,iG l 7,iG l 8,iG l 9,iG l 10,iG l 11,iG l 12,iG l 13,iG l 14,iG l 15,iG l 16,iG l 17,iG l 18,iG l 19,iG l 20,iG l 21,iG l 22,iG l 23,iG l 24,iG l 25,iG l 26])
 (fun _=>none)) j)
theorem L103_5_2.e2 (fu:Nat):LEq (L103_5_2.O fu) L103_5_2.H 2 (L103_5_2.s2 fu):=by intro τ next κ l;kernel_rfl
def L103_5_2.s3 (fu:Nat) {τ:Type} (next ex:Nat→LS_→Option τ) (l:LS_):Option τ :=
 ex 0 [iG l 0,nG l 1,vG l 2,iG l 3,iG l 4,iG l 5,iG l 6,iG l 7,iG l 8,iG l 9,iG l 10,iG l 11,iG l 12,iG l 13,iG l 14]
theorem L103_5_2.e3 (fu:Nat):LEq (L103_5_2.O fu) L103_5_2.H 3 (L103_5_2.s3 fu):=by intro τ next κ l;kernel_rfl
def L103_5_2 (fu:Nat):LStep P Cf:=LStep.mk4 (by decide) (L103_5_2.e0 fu) (L103_5_2.e1 fu) (L103_5_2.e2 fu) (L103_5_2.e3 fu)
def L103_5_2.b (fu:Nat) {τ:Type} (t:Nat) (l:LS_) (κ:Nat→LS_→Option τ):Option τ:=runE (L103_5_2 fu) fu κ t l
def L103_5_2.E (fu:Nat):LEnt P:=LStep.EN fu (L103_5_2 fu)
def L130_3_2.H:LHead:=⟨false,true,0,503811,503811,108,32,0,[(PS.mk (us 2 ((pp 0)::(pp 1)::us 1 (pI::(pC 2)::us 16 []))) fo10),(PS.mk (us 2 ((pp 0)::(pp 1)::us 1 (pI::(pC 1)::us 16 []))) fo10),(PS.mk (us 2 ((pp 0)::(pp 1)::us 1 (pI::(pC 0)::us 16 []))) fo10),(PS.mk (us 2 ((pp 0)::(pp 1)::us 1 (pI::(pC (-1))::us 16 []))) fo10)],[((Out.exit 0),(PS.mk (us 5 (pI::us 17 [])) []))]⟩
def L130_3_2.O (fu:Nat):Orc P:=⟨[],[],[],40⟩
def L130_3_2.s0 (fu:Nat) {τ:Type} (next ex:Nat→LS_→Option τ) (l:LS_):Option τ :=
 next 1 [.I (wr .i64 ((wr .i64 ((gI l 0)*(gI l 1)))+(gI l 6))),iG l 1,nG l 2,vG l 3,iG l 4,iG l 5,iG l 6,iG l 7,iG l 8,iG l 9,iG l 10,iG l 11,iG l 12,iG l 13,iG l 14,iG l 15]
theorem L130_3_2.e0 (fu:Nat):LEq (L130_3_2.O fu) L130_3_2.H 0 (L130_3_2.s0 fu):=by intro τ next κ l;kernel_rfl
def L130_3_2.s1 (fu:Nat) {τ:Type} (next ex:Nat→LS_→Option τ) (l:LS_):Option τ :=
 next 2 [.I (wr .i64 ((wr .i64 ((gI l 0)*(gI l 1)))+(gI l 5))),iG l 1,nG l 2,vG l 3,iG l 4,iG l 5,iG l 6,iG l 7,iG l 8,iG l 9,iG l 10,iG l 11,iG l 12,iG l 13,iG l 14,iG l 15]
theorem L130_3_2.e1 (fu:Nat):LEq (L130_3_2.O fu) L130_3_2.H 1 (L130_3_2.s1 fu):=by intro τ next κ l;kernel_rfl
def L130_3_2.s2 (fu:Nat) {τ:Type} (next ex:Nat→LS_→Option τ) (l:LS_):Option τ :=
 next 3 [.I (wr .i64 ((wr .i64 ((gI l 0)*(gI l 1)))+(gI l 4))),iG l 1,nG l 2,vG l 3,iG l 4,iG l 5,iG l 6,iG l 7,iG l 8,iG l 9,iG l 10,iG l 11,iG l 12,iG l 13,iG l 14,iG l 15]
theorem L130_3_2.e2 (fu:Nat):LEq (L130_3_2.O fu) L130_3_2.H 2 (L130_3_2.s2 fu):=by intro τ next κ l;kernel_rfl
def L130_3_2.s3 (fu:Nat) {τ:Type} (next ex:Nat→LS_→Option τ) (l:LS_):Option τ :=
 ex 0 [iG l 0]
theorem L130_3_2.e3 (fu:Nat):LEq (L130_3_2.O fu) L130_3_2.H 3 (L130_3_2.s3 fu):=by intro τ next κ l;kernel_rfl
def L130_3_2 (fu:Nat):LStep P Cf:=LStep.mk4 (by decide) (L130_3_2.e0 fu) (L130_3_2.e1 fu) (L130_3_2.e2 fu) (L130_3_2.e3 fu)
def L130_3_2.b (fu:Nat) {τ:Type} (t:Nat) (l:LS_) (κ:Nat→LS_→Option τ):Option τ:=runE (L130_3_2 fu) fu κ t l
def L130_3_2.E (fu:Nat):LEnt P:=LStep.EN fu (L130_3_2 fu)
def F130_2.ps:List PV2:=[(PV2.agg [iI,(PV1.intC .i64 3),aI]),(PV2.agg [iI,iI,iI,iI,iI,iI,iI,iI,iI,iI,iI,iI])]
def F130_2.sh:List PA:=[(PA.mk (PV3.v pI) [])]
def F130_2.O (fu:Nat):Orc P:=⟨[],[(L130_3_2.E fu)],[],40⟩
def F130_2 (fu:Nat) {τ:Type} (l:LS_) (k:Nat→LS_→Option τ):Option τ :=
 (L130_3_2.b fu) 0 [.I 0,iG l 0,.N (gL l 1).length,vG l 1,iG l 2,iG l 3,iG l 4,iG l 5,iG l 6,iG l 7,iG l 8,iG l 9,iG l 10,iG l 11,iG l 12,iG l 13]
 (fun j A=>(sw (k 0 [iG A 0])
 (fun _=>none)) j)
theorem F130_2.eq (fu:Nat):FEq (F130_2.O fu) 123 F130_2.ps F130_2.sh (F130_2 fu):=by intro τ l κ;kernel_rfl
def F130_2.E (fu:Nat):Ent P:=mkF (F130_2.eq fu)
def F103_2.ps:List PV2:=[(pFieldE 3),pI,pI]
def F103_2.sh:List PA:=[(PA.mk (PV3.v pI) [])]
def F103_2.O (fu:Nat):Orc P:=⟨[(F128_2.E fu),(F127.E fu),(F130_2.E fu)],[(L103_5_2.E fu)],[],40⟩
def F103_2 (fu:Nat) {τ:Type} (l:LS_) (k:Nat→LS_→Option τ):Option τ :=
 ck (((eqM (gL l 1).length (gL l 1).length)&&true)&&true)
 ((F128_2 fu) [iG l 0,vG l 1]
 (fun j A=>(sw (br (!(gB A 0))
 (k 0 [.I 0])
 ((F127 fu) [iG l 0,iG l 2]
 (fun j B=>(sw ((F127 fu) [iG l 0,iG l 3]
 (fun j C=>(sw ((L103_5_2.b fu) 0 [iG l 0,.N (gL l 1).length,vG l 1,iG B 0,iG B 1,iG B 2,iG B 3,iG B 4,iG B 5,iG B 6,iG B 7,iG B 8,iG B 9,iG B 10,iG B 11,iG C 0,iG C 1,iG C 2,iG C 3,iG C 4,iG C 5,iG C 6,iG C 7,iG C 8,iG C 9,iG C 10,iG C 11]
 (fun j D=>(sw (ck (((eqM (gN D 1) (gL D 2).length)&&true)&&true)
 ((F130_2 fu) [iG D 0,vG D 2,iG D 3,iG D 4,iG D 5,iG D 6,iG D 7,iG D 8,iG D 9,iG D 10,iG D 11,iG D 12,iG D 13,iG D 14]
 (fun j E=>(sw (k 0 [iG E 0])
 (fun _=>none)) j)))
 (fun _=>none)) j))
 (fun _=>none)) j))
 (fun _=>none)) j)))
 (fun _=>none)) j))
theorem F103_2.eq (fu:Nat):FEq (F103_2.O fu) 99 F103_2.ps F103_2.sh (F103_2 fu):=by intro τ l κ;kernel_rfl
def F103_2.E (fu:Nat):Ent P:=mkF (F103_2.eq fu)
def L113_5_2.H:LHead:=⟨false,true,0,421893,421893,12583304,136,0,[(PS.mk (us 3 ((pp 0)::us 3 ((pp 1)::(pp 2)::us 13 ((pC 3)::(pC 0)::us 18 [])))) fo9),(PS.mk (us 3 ((pp 0)::us 3 ((pp 1)::(pp 2)::us 13 ((pC 3)::(pC 1)::us 18 [])))) fo9),(PS.mk (us 3 ((pp 0)::us 3 ((pp 1)::(pp 2)::us 13 ((pC 3)::(pC 2)::us 18 [])))) fo9),(PS.mk (us 3 ((pp 0)::us 3 ((pp 1)::(pp 2)::us 13 ((pC 3)::(pC 3)::us 18 [])))) fo9)],[((Out.exit 0),(PS.mk (us 3 ((pp 0)::us 3 ((pp 1)::us 34 []))) fo10))]⟩
def L113_5_2.O (fu:Nat):Orc P:=⟨[(F129.E fu)],[],[],40⟩
def L113_5_2.s0 (fu:Nat) {τ:Type} (next ex:Nat→LS_→Option τ) (l:LS_):Option τ :=
 (F129 fu) [.I (wr .i64 ((gI l 3)-(gI l 15))),iG l 0]
 (fun j A=>(sw (next 1 [iG l 0,nG l 1,vG l 2,iG A 0,iG l 4,iG l 5,iG l 6,iG l 7,iG l 8,iG l 9,iG l 10,iG l 11,iG l 12,iG l 13,iG l 14,iG l 15,iG l 16,iG l 17,iG l 18,iG l 19,iG l 20,iG l 21,iG l 22,iG l 23,iG l 24,iG l 25,iG l 26])
 (fun _=>none)) j)
theorem L113_5_2.e0 (fu:Nat):LEq (L113_5_2.O fu) L113_5_2.H 0 (L113_5_2.s0 fu):=by intro τ next κ l;kernel_rfl
def L113_5_2.s1 (fu:Nat) {τ:Type} (next ex:Nat→LS_→Option τ) (l:LS_):Option τ :=
 (F129 fu) [.I (wr .i64 ((gI l 4)-(gI l 16))),iG l 0]
 (fun j A=>(sw (next 2 [iG l 0,nG l 1,vG l 2,iG l 3,iG A 0,iG l 5,iG l 6,iG l 7,iG l 8,iG l 9,iG l 10,iG l 11,iG l 12,iG l 13,iG l 14,iG l 15,iG l 16,iG l 17,iG l 18,iG l 19,iG l 20,iG l 21,iG l 22,iG l 23,iG l 24,iG l 25,iG l 26])
 (fun _=>none)) j)
theorem L113_5_2.e1 (fu:Nat):LEq (L113_5_2.O fu) L113_5_2.H 1 (L113_5_2.s1 fu):=by intro τ next κ l;kernel_rfl
def L113_5_2.s2 (fu:Nat) {τ:Type} (next ex:Nat→LS_→Option τ) (l:LS_):Option τ :=
 (F129 fu) [.I (wr .i64 ((gI l 5)-(gI l 17))),iG l 0]
 (fun j A=>(sw (next 3 [iG l 0,nG l 1,vG l 2,iG l 3,iG l 4,iG A 0,iG l 6,iG l 7,iG l 8,iG l 9,iG l 10,iG l 11,iG l 12,iG l 13,iG l 14,iG l 15,iG l 16,iG l 17,iG l 18,iG l 19,iG l 20,iG l 21,iG l 22,iG l 23,iG l 24,iG l 25,iG l 26])
 (fun _=>none)) j)
theorem L113_5_2.e2 (fu:Nat):LEq (L113_5_2.O fu) L113_5_2.H 2 (L113_5_2.s2 fu):=by intro τ next κ l;kernel_rfl
def L113_5_2.s3 (fu:Nat) {τ:Type} (next ex:Nat→LS_→Option τ) (l:LS_):Option τ :=
 ex 0 [iG l 0,nG l 1,vG l 2,iG l 3,iG l 4,iG l 5,iG l 6,iG l 7,iG l 8,iG l 9,iG l 10,iG l 11,iG l 12,iG l 13,iG l 14]
theorem L113_5_2.e3 (fu:Nat):LEq (L113_5_2.O fu) L113_5_2.H 3 (L113_5_2.s3 fu):=by intro τ next κ l;kernel_rfl
def L113_5_2 (fu:Nat):LStep P Cf:=LStep.mk4 (by decide) (L113_5_2.e0 fu) (L113_5_2.e1 fu) (L113_5_2.e2 fu) (L113_5_2.e3 fu)
def L113_5_2.b (fu:Nat) {τ:Type} (t:Nat) (l:LS_) (κ:Nat→LS_→Option τ):Option τ:=runE (L113_5_2 fu) fu κ t l
def L113_5_2.E (fu:Nat):LEnt P:=LStep.EN fu (L113_5_2 fu)
def F113_2.ps:List PV2:=[(PV2.agg [iI,(PV1.intC .i64 3),aI]),(pC 0),pI]
def F113_2.sh:List PA:=[(PA.mk (PV3.v pI) [])]
def F113_2.O (fu:Nat):Orc P:=⟨[(F128_2.E fu),(F127.E fu),(F130_2.E fu)],[(L113_5_2.E fu)],[],40⟩
def F113_2 (fu:Nat) {τ:Type} (l:LS_) (k:Nat→LS_→Option τ):Option τ :=
 ck (((eqM (gL l 1).length (gL l 1).length)&&true)&&true)
 ((F128_2 fu) [iG l 0,vG l 1]
 (fun j A=>(sw (br (!(gB A 0))
 (k 0 [.I 0])
 ((F127 fu) [iG l 0,.I 0]
 (fun j B=>(sw ((F127 fu) [iG l 0,iG l 2]
 (fun j C=>(sw ((L113_5_2.b fu) 0 [iG l 0,.N (gL l 1).length,vG l 1,iG B 0,iG B 1,iG B 2,iG B 3,iG B 4,iG B 5,iG B 6,iG B 7,iG B 8,iG B 9,iG B 10,iG B 11,iG C 0,iG C 1,iG C 2,iG C 3,iG C 4,iG C 5,iG C 6,iG C 7,iG C 8,iG C 9,iG C 10,iG C 11]
 (fun j D=>(sw (ck (((eqM (gN D 1) (gL D 2).length)&&true)&&true)
 ((F130_2 fu) [iG D 0,vG D 2,iG D 3,iG D 4,iG D 5,iG D 6,iG D 7,iG D 8,iG D 9,iG D 10,iG D 11,iG D 12,iG D 13,iG D 14]
 (fun j E=>(sw (k 0 [iG E 0])
 (fun _=>none)) j)))
 (fun _=>none)) j))
 (fun _=>none)) j))
 (fun _=>none)) j)))
 (fun _=>none)) j))
theorem F113_2.eq (fu:Nat):FEq (F113_2.O fu) 103 F113_2.ps F113_2.sh (F113_2 fu):=by intro τ l κ;kernel_rfl
def F113_2.E (fu:Nat):Ent P:=mkF (F113_2.eq fu)
def F83_2.ps:List PV2:=[(pFieldE 3),pI]
def F83_2.sh:List PA:=[(PA.mk (PV3.v pI) [])]
def F83_2.O (fu:Nat):Orc P:=⟨[(F113_2.E fu)],[],[],40⟩
def F83_2 (fu:Nat) {τ:Type} (l:LS_) (k:Nat→LS_→Option τ):Option τ :=
 ck (((eqM (gL l 1).length (gL l 1).length)&&true)&&true)
 ((F113_2 fu) [iG l 0,vG l 1,iG l 2]
 (fun j A=>(sw (k 0 [iG A 0])
 (fun _=>none)) j))
theorem F83_2.eq (fu:Nat):FEq (F83_2.O fu) 72 F83_2.ps F83_2.sh (F83_2 fu):=by intro τ l κ;kernel_rfl
def F83_2.E (fu:Nat):Ent P:=mkF (F83_2.eq fu)
def L104_9_5.H:LHead:=⟨false,false,7,0,380937,3976,1928,0,[(PS.mk (us 3 ((pp 0)::us 3 ((pp 1)::(pp 2)::pI::pI::(pC 2)::us 62 []))) fo11),(PS.mk (us 3 ((pp 0)::us 3 ((pp 1)::(pp 2)::pI::pI::(pC 1)::us 62 []))) fo11),(PS.mk (us 3 ((pp 0)::us 3 ((pp 1)::(pp 2)::pI::pI::(pC 0)::us 62 []))) fo11)],[((Out.exit 2),(PS.mk (us 3 ((pp 0)::us 3 ((pp 1)::(pp 2)::pI::pI::us 63 []))) fo11))]⟩
def L104_9_5.O (fu:Nat):Orc P:=⟨[],[],[],40⟩
def L104_9_5.s0 (fu:Nat) {τ:Type} (next ex:Nat→LS_→Option τ) (l:LS_):Option τ :=
 next 1 [iG l 0,iG l 1,iG l 2,nG l 3,vG l 4,iG l 5,iG l 6,iG l 7,iG l 8,iG l 9,iG l 10,iG l 11,iG l 12,iG l 13,iG l 14,iG l 15,iG l 16,iG l 17,iG l 18,iG l 18,iG l 20,nG l 21,vG l 22,iG l 23,iG l 24,nG l 25,vG l 26,iG l 27,iG l 28,iG l 29,nG l 30,vG l 31,bG l 32,iG l 33,iG l 34,iG l 35,iG l 36,iG l 37,iG l 38,iG l 39,iG l 40,iG l 41,iG l 42,iG l 43,iG l 44,iG l 45,iG l 46,iG l 47,nG l 48,vG l 49,iG l 50,iG l 51,iG l 52,iG l 53,iG l 54,iG l 55,iG l 56,iG l 57,iG l 58,iG l 59,iG l 60,iG l 61,iG l 62]
theorem L104_9_5.e0 (fu:Nat):LEq (L104_9_5.O fu) L104_9_5.H 0 (L104_9_5.s0 fu):=by intro τ next κ l;kernel_rfl
def L104_9_5.s1 (fu:Nat) {τ:Type} (next ex:Nat→LS_→Option τ) (l:LS_):Option τ :=
 next 2 [iG l 0,iG l 1,iG l 2,nG l 3,vG l 4,iG l 5,iG l 6,iG l 7,iG l 8,iG l 9,iG l 10,iG l 11,iG l 12,iG l 13,iG l 14,iG l 15,iG l 16,iG l 17,iG l 17,iG l 19,iG l 20,nG l 21,vG l 22,iG l 23,iG l 24,nG l 25,vG l 26,iG l 27,iG l 28,iG l 29,nG l 30,vG l 31,bG l 32,iG l 33,iG l 34,iG l 35,iG l 36,iG l 37,iG l 38,iG l 39,iG l 40,iG l 41,iG l 42,iG l 43,iG l 44,iG l 45,iG l 46,iG l 47,nG l 48,vG l 49,iG l 50,iG l 51,iG l 52,iG l 53,iG l 54,iG l 55,iG l 56,iG l 57,iG l 58,iG l 59,iG l 60,iG l 61,iG l 62]
theorem L104_9_5.e1 (fu:Nat):LEq (L104_9_5.O fu) L104_9_5.H 1 (L104_9_5.s1 fu):=by intro τ next κ l;kernel_rfl
def L104_9_5.s2 (fu:Nat) {τ:Type} (next ex:Nat→LS_→Option τ) (l:LS_):Option τ :=
 ex 0 [iG l 0,iG l 1,iG l 2,nG l 3,vG l 4,iG l 5,iG l 6,iG l 7,iG l 8,iG l 9,iG l 10,iG l 11,iG l 12,iG l 13,iG l 14,iG l 15,iG l 16,iG l 17,iG l 18,iG l 19,iG l 20,nG l 21,vG l 22,iG l 23,iG l 24,nG l 25,vG l 26,iG l 27,iG l 28,iG l 29,nG l 30,vG l 31,bG l 32,iG l 33,iG l 34,iG l 35,iG l 36,iG l 37,iG l 38,iG l 39,iG l 40,iG l 41,iG l 42,iG l 43,iG l 44,iG l 45,iG l 46,iG l 47,nG l 48,vG l 49,iG l 50,iG l 51,iG l 52,iG l 53,iG l 54,iG l 55,iG l 56,iG l 57,iG l 58,iG l 59,iG l 60,iG l 61,iG l 62]
theorem L104_9_5.e2 (fu:Nat):LEq (L104_9_5.O fu) L104_9_5.H 2 (L104_9_5.s2 fu):=by intro τ next κ l;kernel_rfl
def L104_9_5 (fu:Nat):LStep P Cf:=LStep.mk3 (by decide) (L104_9_5.e0 fu) (L104_9_5.e1 fu) (L104_9_5.e2 fu)
def L104_9_5.b (fu:Nat) {τ:Type} (t:Nat) (l:LS_) (κ:Nat→LS_→Option τ):Option τ:=runE (L104_9_5 fu) fu κ t l
def L104_9_5.E (fu:Nat):LEnt P:=LStep.EN fu (L104_9_5 fu)
def L104_14_5.H:LHead:=⟨false,false,7,0,380942,52776558135176,0,0,[(PS.mk (us 3 ((pp 0)::us 3 ((pp 1)::(pp 2)::pI::pI::us 33 ((pC 3)::(pC 0)::us 28 [])))) fo11),(PS.mk (us 3 ((pp 0)::us 3 ((pp 1)::(pp 2)::pI::pI::us 33 ((pC 3)::(pC 1)::us 28 [])))) fo11),(PS.mk (us 3 ((pp 0)::us 3 ((pp 1)::(pp 2)::pI::pI::us 33 ((pC 3)::(pC 2)::us 28 [])))) fo11),(PS.mk (us 3 ((pp 0)::us 3 ((pp 1)::(pp 2)::pI::pI::us 33 ((pC 3)::(pC 3)::us 28 [])))) fo11)],[((Out.exit 4),(PS.mk (us 74 []) fo11))]⟩
def L104_14_5.O (fu:Nat):Orc P:=⟨[(F129.E fu)],[],[],40⟩
def L104_14_5.s0 (fu:Nat) {τ:Type} (next ex:Nat→LS_→Option τ) (l:LS_):Option τ :=
 ck ((ltI 0 (gN l 3))&&true)
 (ck (ltN 0 (gL l 4).length)
 ((F129 fu) [.I (wr .i64 ((wr .i64 ((gI l 17)-(wr .i64 ((gI l 1)*(List.getD (gL l 4) 0 0)))))+(wr .i64 ((gI l 0)*(gI l 5))))),iG l 2]
 (fun j A=>(sw (next 1 [iG l 0,iG l 1,iG l 2,nG l 3,vG l 4,iG l 5,iG l 6,iG l 7,iG l 8,iG l 9,iG l 10,iG l 11,iG l 12,iG l 13,iG l 14,iG l 15,iG l 16,iG A 0,iG l 18,iG l 19,iG l 20,nG l 21,vG l 22,iG l 23,iG l 24,nG l 25,vG l 26,iG l 27,iG l 28,iG l 29,nG l 30,vG l 31,bG l 32,iG l 33,iG l 34,iG l 35,iG l 36,iG l 37,iG l 38,iG l 39,iG l 40,iG l 41,iG l 42,iG l 43,iG l 44,iG l 45,iG l 46,iG l 47,nG l 48,vG l 49,iG l 50,iG l 51,iG l 52,iG l 53,iG l 54,iG l 55,iG l 56,iG l 57,iG l 58,iG l 59,iG l 60,iG l 61,iG l 62])
 (fun _=>none)) j)))
theorem L104_14_5.e0 (fu:Nat):LEq (L104_14_5.O fu) L104_14_5.H 0 (L104_14_5.s0 fu):=by intro τ next κ l;kernel_rfl
def L104_14_5.s1 (fu:Nat) {τ:Type} (next ex:Nat→LS_→Option τ) (l:LS_):Option τ :=
 ck ((ltI 1 (gN l 3))&&true)
 (ck (ltN 1 (gL l 4).length)
 ((F129 fu) [.I (wr .i64 ((wr .i64 ((gI l 18)-(wr .i64 ((gI l 1)*(List.getD (gL l 4) 1 0)))))+(wr .i64 ((gI l 0)*(gI l 6))))),iG l 2]
 (fun j A=>(sw (next 2 [iG l 0,iG l 1,iG l 2,nG l 3,vG l 4,iG l 5,iG l 6,iG l 7,iG l 8,iG l 9,iG l 10,iG l 11,iG l 12,iG l 13,iG l 14,iG l 15,iG l 16,iG l 17,iG A 0,iG l 19,iG l 20,nG l 21,vG l 22,iG l 23,iG l 24,nG l 25,vG l 26,iG l 27,iG l 28,iG l 29,nG l 30,vG l 31,bG l 32,iG l 33,iG l 34,iG l 35,iG l 36,iG l 37,iG l 38,iG l 39,iG l 40,iG l 41,iG l 42,iG l 43,iG l 44,iG l 45,iG l 46,iG l 47,nG l 48,vG l 49,iG l 50,iG l 51,iG l 52,iG l 53,iG l 54,iG l 55,iG l 56,iG l 57,iG l 58,iG l 59,iG l 60,iG l 61,iG l 62])
 (fun _=>none)) j)))
theorem L104_14_5.e1 (fu:Nat):LEq (L104_14_5.O fu) L104_14_5.H 1 (L104_14_5.s1 fu):=by intro τ next κ l;kernel_rfl
def L104_14_5.s2 (fu:Nat) {τ:Type} (next ex:Nat→LS_→Option τ) (l:LS_):Option τ :=
 ck ((ltI 2 (gN l 3))&&true)
 (ck (ltN 2 (gL l 4).length)
 ((F129 fu) [.I (wr .i64 ((wr .i64 ((gI l 19)-(wr .i64 ((gI l 1)*(List.getD (gL l 4) 2 0)))))+(wr .i64 ((gI l 0)*(gI l 7))))),iG l 2]
 (fun j A=>(sw (next 3 [iG l 0,iG l 1,iG l 2,nG l 3,vG l 4,iG l 5,iG l 6,iG l 7,iG l 8,iG l 9,iG l 10,iG l 11,iG l 12,iG l 13,iG l 14,iG l 15,iG l 16,iG l 17,iG l 18,iG A 0,iG l 20,nG l 21,vG l 22,iG l 23,iG l 24,nG l 25,vG l 26,iG l 27,iG l 28,iG l 29,nG l 30,vG l 31,bG l 32,iG l 33,iG l 34,iG l 35,iG l 36,iG l 37,iG l 38,iG l 39,iG l 40,iG l 41,iG l 42,iG l 43,iG l 44,iG l 45,iG l 46,iG l 47,nG l 48,vG l 49,iG l 50,iG l 51,iG l 52,iG l 53,iG l 54,iG l 55,iG l 56,iG l 57,iG l 58,iG l 59,iG l 60,iG l 61,iG l 62])
 (fun _=>none)) j)))
theorem L104_14_5.e2 (fu:Nat):LEq (L104_14_5.O fu) L104_14_5.H 2 (L104_14_5.s2 fu):=by intro τ next κ l;kernel_rfl
def L104_14_5.s3 (fu:Nat) {τ:Type} (next ex:Nat→LS_→Option τ) (l:LS_):Option τ :=
 ex 0 [iG l 2,nG l 3,vG l 4,iG l 5,iG l 6,iG l 7,iG l 8,iG l 9,iG l 10,iG l 11,iG l 12,iG l 13,iG l 14,iG l 15,iG l 16,iG l 17,iG l 18,iG l 19,iG l 20,nG l 21,vG l 22,iG l 23,iG l 24,nG l 25,vG l 26,iG l 27,iG l 28,iG l 29,nG l 30,vG l 31,bG l 32,iG l 33,iG l 34,iG l 35,iG l 36,iG l 37,iG l 38,iG l 39,iG l 40,iG l 41,iG l 42,iG l 43,iG l 44,iG l 45,iG l 46,iG l 47,nG l 48,vG l 49,iG l 50,iG l 51,iG l 52,iG l 53,iG l 54,iG l 55,iG l 56,iG l 57,iG l 58,iG l 59,iG l 60,iG l 61,iG l 62]
theorem L104_14_5.e3 (fu:Nat):LEq (L104_14_5.O fu) L104_14_5.H 3 (L104_14_5.s3 fu):=by intro τ next κ l;kernel_rfl
def L104_14_5 (fu:Nat):LStep P Cf:=LStep.mk4 (by decide) (L104_14_5.e0 fu) (L104_14_5.e1 fu) (L104_14_5.e2 fu) (L104_14_5.e3 fu)
def L104_14_5.b (fu:Nat) {τ:Type} (t:Nat) (l:LS_) (κ:Nat→LS_→Option τ):Option τ:=runE (L104_14_5 fu) fu κ t l
def L104_14_5.E (fu:Nat):LEnt P:=LStep.EN fu (L104_14_5 fu)
def L138_2_2.H:LHead:=⟨false,false,7,573442,573442,49,0,0,[(PS.mk ((PV2.v (PV1.yld 5))::us 3 ((pp 6)::(pC 2)::us 17 [])) fo12),(PS.mk ((PV2.v (PV1.yld 5))::us 3 ((pp 6)::(pC 1)::us 17 [])) fo12),(PS.mk ((PV2.v (PV1.yld 5))::us 3 ((pp 6)::(pC 0)::us 17 [])) fo12),(PS.mk ((PV2.v (PV1.yld 5))::us 3 ((pp 6)::(pC (-1))::us 17 [])) fo12)],[((Out.exit 0),(PS.mk (us 23 []) fo12))]⟩
def L138_2_2.O (fu:Nat):Orc P:=⟨[],[(L104_9_5.E fu),(L104_14_5.E fu)],[],40⟩
def L138_2_2.s0 (fu:Nat) {τ:Type} (next ex:Nat→LS_→Option τ) (l:LS_):Option τ :=
 (L104_9_5.b fu) 0 [iG l 51,iG l 17,iG l 0,nG l 1,vG l 2,iG l 3,iG l 4,iG l 5,iG l 6,iG l 7,iG l 8,iG l 9,iG l 10,iG l 11,iG l 12,iG l 13,iG l 14,iG l 15,iG l 16,iG l 17,iG l 18,nG l 19,vG l 20,iG l 21,iG l 22,nG l 23,vG l 24,iG l 25,iG l 26,iG l 27,nG l 28,vG l 29,bG l 30,iG l 31,iG l 32,iG l 33,iG l 34,iG l 35,iG l 36,iG l 37,iG l 38,iG l 39,iG l 40,iG l 41,iG l 42,iG l 43,iG l 44,iG l 45,nG l 46,vG l 47,iG l 48,iG l 49,iG l 50,iG l 51,iG l 52,iG l 53,iG l 54,iG l 55,iG l 56,iG l 57,iG l 58,iG l 59,iG l 60]
 (fun j A=>(sw ((L104_14_5.b fu) 0 [iG A 0,iG A 1,iG A 2,nG A 3,vG A 4,iG A 5,iG A 6,iG A 7,iG A 8,iG A 9,iG A 10,iG A 11,iG A 12,iG A 13,iG A 14,iG A 15,iG A 16,.I 0,iG A 18,iG A 19,iG A 20,nG A 21,vG A 22,iG A 23,iG A 24,nG A 25,vG A 26,iG A 27,iG A 28,iG A 29,nG A 30,vG A 31,bG A 32,iG A 33,iG A 34,iG A 35,iG A 36,iG A 37,iG A 38,iG A 39,iG A 40,iG A 41,iG A 42,iG A 43,iG A 44,iG A 45,iG A 46,iG A 47,nG A 48,vG A 49,iG A 50,iG A 51,iG A 52,iG A 53,iG A 54,iG A 55,iG A 56,iG A 57,iG A 58,iG A 59,iG A 60,iG A 61,iG A 62]
 (fun j B=>(sw (next 1 [iG B 0,nG B 1,vG B 2,iG B 3,iG B 4,iG B 5,iG B 6,iG B 7,iG B 8,iG B 9,iG B 10,iG B 11,iG B 12,iG B 13,iG B 14,iG B 15,iG B 16,iG B 17,iG B 18,nG B 19,vG B 20,iG B 21,iG B 22,nG B 23,vG B 24,iG B 25,iG B 26,iG B 27,nG B 28,vG B 29,bG B 30,iG B 31,iG B 32,iG B 33,iG B 34,iG B 35,iG B 36,iG B 37,iG B 38,iG B 39,iG B 40,iG B 41,iG B 42,iG B 43,iG B 44,iG B 45,nG B 46,vG B 47,iG B 48,iG B 49,iG B 50,iG B 51,iG B 52,iG B 53,iG B 54,iG B 55,iG B 56,iG B 57,iG B 58,iG B 59,iG B 60])
 (fun _=>none)) j))
 (fun _=>none)) j)
theorem L138_2_2.e0 (fu:Nat):LEq (L138_2_2.O fu) L138_2_2.H 0 (L138_2_2.s0 fu):=by intro τ next κ l;kernel_rfl
def L138_2_2.s1 (fu:Nat) {τ:Type} (next ex:Nat→LS_→Option τ) (l:LS_):Option τ :=
 (L104_9_5.b fu) 0 [iG l 50,iG l 17,iG l 0,nG l 1,vG l 2,iG l 3,iG l 4,iG l 5,iG l 6,iG l 7,iG l 8,iG l 9,iG l 10,iG l 11,iG l 12,iG l 13,iG l 14,iG l 15,iG l 16,iG l 17,iG l 18,nG l 19,vG l 20,iG l 21,iG l 22,nG l 23,vG l 24,iG l 25,iG l 26,iG l 27,nG l 28,vG l 29,bG l 30,iG l 31,iG l 32,iG l 33,iG l 34,iG l 35,iG l 36,iG l 37,iG l 38,iG l 39,iG l 40,iG l 41,iG l 42,iG l 43,iG l 44,iG l 45,nG l 46,vG l 47,iG l 48,iG l 49,iG l 50,iG l 51,iG l 52,iG l 53,iG l 54,iG l 55,iG l 56,iG l 57,iG l 58,iG l 59,iG l 60]
 (fun j A=>(sw ((L104_14_5.b fu) 0 [iG A 0,iG A 1,iG A 2,nG A 3,vG A 4,iG A 5,iG A 6,iG A 7,iG A 8,iG A 9,iG A 10,iG A 11,iG A 12,iG A 13,iG A 14,iG A 15,iG A 16,.I 0,iG A 18,iG A 19,iG A 20,nG A 21,vG A 22,iG A 23,iG A 24,nG A 25,vG A 26,iG A 27,iG A 28,iG A 29,nG A 30,vG A 31,bG A 32,iG A 33,iG A 34,iG A 35,iG A 36,iG A 37,iG A 38,iG A 39,iG A 40,iG A 41,iG A 42,iG A 43,iG A 44,iG A 45,iG A 46,iG A 47,nG A 48,vG A 49,iG A 50,iG A 51,iG A 52,iG A 53,iG A 54,iG A 55,iG A 56,iG A 57,iG A 58,iG A 59,iG A 60,iG A 61,iG A 62]
 (fun j B=>(sw (next 2 [iG B 0,nG B 1,vG B 2,iG B 3,iG B 4,iG B 5,iG B 6,iG B 7,iG B 8,iG B 9,iG B 10,iG B 11,iG B 12,iG B 13,iG B 14,iG B 15,iG B 16,iG B 17,iG B 18,nG B 19,vG B 20,iG B 21,iG B 22,nG B 23,vG B 24,iG B 25,iG B 26,iG B 27,nG B 28,vG B 29,bG B 30,iG B 31,iG B 32,iG B 33,iG B 34,iG B 35,iG B 36,iG B 37,iG B 38,iG B 39,iG B 40,iG B 41,iG B 42,iG B 43,iG B 44,iG B 45,nG B 46,vG B 47,iG B 48,iG B 49,iG B 50,iG B 51,iG B 52,iG B 53,iG B 54,iG B 55,iG B 56,iG B 57,iG B 58,iG B 59,iG B 60])
 (fun _=>none)) j))
 (fun _=>none)) j)
theorem L138_2_2.e1 (fu:Nat):LEq (L138_2_2.O fu) L138_2_2.H 1 (L138_2_2.s1 fu):=by intro τ next κ l;kernel_rfl
def L138_2_2.s2 (fu:Nat) {τ:Type} (next ex:Nat→LS_→Option τ) (l:LS_):Option τ :=
 (L104_9_5.b fu) 0 [iG l 49,iG l 17,iG l 0,nG l 1,vG l 2,iG l 3,iG l 4,iG l 5,iG l 6,iG l 7,iG l 8,iG l 9,iG l 10,iG l 11,iG l 12,iG l 13,iG l 14,iG l 15,iG l 16,iG l 17,iG l 18,nG l 19,vG l 20,iG l 21,iG l 22,nG l 23,vG l 24,iG l 25,iG l 26,iG l 27,nG l 28,vG l 29,bG l 30,iG l 31,iG l 32,iG l 33,iG l 34,iG l 35,iG l 36,iG l 37,iG l 38,iG l 39,iG l 40,iG l 41,iG l 42,iG l 43,iG l 44,iG l 45,nG l 46,vG l 47,iG l 48,iG l 49,iG l 50,iG l 51,iG l 52,iG l 53,iG l 54,iG l 55,iG l 56,iG l 57,iG l 58,iG l 59,iG l 60]
 (fun j A=>(sw ((L104_14_5.b fu) 0 [iG A 0,iG A 1,iG A 2,nG A 3,vG A 4,iG A 5,iG A 6,iG A 7,iG A 8,iG A 9,iG A 10,iG A 11,iG A 12,iG A 13,iG A 14,iG A 15,iG A 16,.I 0,iG A 18,iG A 19,iG A 20,nG A 21,vG A 22,iG A 23,iG A 24,nG A 25,vG A 26,iG A 27,iG A 28,iG A 29,nG A 30,vG A 31,bG A 32,iG A 33,iG A 34,iG A 35,iG A 36,iG A 37,iG A 38,iG A 39,iG A 40,iG A 41,iG A 42,iG A 43,iG A 44,iG A 45,iG A 46,iG A 47,nG A 48,vG A 49,iG A 50,iG A 51,iG A 52,iG A 53,iG A 54,iG A 55,iG A 56,iG A 57,iG A 58,iG A 59,iG A 60,iG A 61,iG A 62]
 (fun j B=>(sw (next 3 [iG B 0,nG B 1,vG B 2,iG B 3,iG B 4,iG B 5,iG B 6,iG B 7,iG B 8,iG B 9,iG B 10,iG B 11,iG B 12,iG B 13,iG B 14,iG B 15,iG B 16,iG B 17,iG B 18,nG B 19,vG B 20,iG B 21,iG B 22,nG B 23,vG B 24,iG B 25,iG B 26,iG B 27,nG B 28,vG B 29,bG B 30,iG B 31,iG B 32,iG B 33,iG B 34,iG B 35,iG B 36,iG B 37,iG B 38,iG B 39,iG B 40,iG B 41,iG B 42,iG B 43,iG B 44,iG B 45,nG B 46,vG B 47,iG B 48,iG B 49,iG B 50,iG B 51,iG B 52,iG B 53,iG B 54,iG B 55,iG B 56,iG B 57,iG B 58,iG B 59,iG B 60])
 (fun _=>none)) j))
 (fun _=>none)) j)
theorem L138_2_2.e2 (fu:Nat):LEq (L138_2_2.O fu) L138_2_2.H 2 (L138_2_2.s2 fu):=by intro τ next κ l;kernel_rfl
def L138_2_2.s3 (fu:Nat) {τ:Type} (next ex:Nat→LS_→Option τ) (l:LS_):Option τ :=
 ex 0 [iG l 0,nG l 1,vG l 2,iG l 3,iG l 4,iG l 5,iG l 6,iG l 7,iG l 8,iG l 9,iG l 10,iG l 11,iG l 12,iG l 13,iG l 14,iG l 15,iG l 16,iG l 17,iG l 18,nG l 19,vG l 20,iG l 21,iG l 22,nG l 23,vG l 24,iG l 25,iG l 26,iG l 27,nG l 28,vG l 29,bG l 30,iG l 31,iG l 32,iG l 33,iG l 34,iG l 35,iG l 36,iG l 37,iG l 38,iG l 39,iG l 40,iG l 41,iG l 42,iG l 43,iG l 44,iG l 45,nG l 46,vG l 47,iG l 48,iG l 49,iG l 50,iG l 51,iG l 52,iG l 53,iG l 54,iG l 55,iG l 56,iG l 57,iG l 58,iG l 59,iG l 60]
theorem L138_2_2.e3 (fu:Nat):LEq (L138_2_2.O fu) L138_2_2.H 3 (L138_2_2.s3 fu):=by intro τ next κ l;kernel_rfl
def L138_2_2 (fu:Nat):LStep P Cf:=LStep.mk4 (by decide) (L138_2_2.e0 fu) (L138_2_2.e1 fu) (L138_2_2.e2 fu) (L138_2_2.e3 fu)
def L138_2_2.b (fu:Nat) {τ:Type} (t:Nat) (l:LS_) (κ:Nat→LS_→Option τ):Option τ:=runE (L138_2_2 fu) fu κ t l
def L138_2_2.E (fu:Nat):LEnt P:=LStep.EN fu (L138_2_2 fu)
def F104_2.ps:List PV2:=[(pFieldE 3),pI,pI]
def F104_2.sh:List PA:=[(PA.mk (PV3.v pI) [])]
def F104_2.O (fu:Nat):Orc P:=⟨[(F128_2.E fu),(F127.E fu),(F130_2.E fu)],[(L138_2_2.E fu)],[],40⟩
def F104_2 (fu:Nat) {τ:Type} (l:LS_) (k:Nat→LS_→Option τ):Option τ :=
 ck (((eqM (gL l 1).length (gL l 1).length)&&true)&&true)
 ((F128_2 fu) [iG l 0,vG l 1]
 (fun j A=>(sw (br (!(gB A 0))
 (k 0 [.I 0])
 ((F127 fu) [iG l 0,iG l 2]
 (fun j B=>(sw ((F127 fu) [iG l 0,iG l 3]
 (fun j C=>(sw ((L138_2_2.b fu) 0 [iG l 0,.N (gL l 1).length,vG l 1,iG B 0,iG B 1,iG B 2,iG B 3,iG B 4,iG B 5,iG B 6,iG B 7,iG B 8,iG B 9,iG B 10,iG B 11,.I 0,.I 0,.I 0,iG l 0,.N (gL l 1).length,vG l 1,iG l 3,iG l 0,.N (gL l 1).length,vG l 1,iG l 2,iG l 3,iG l 0,.N (gL l 1).length,vG l 1,bG A 0,iG l 0,iG l 2,iG B 0,iG B 1,iG B 2,iG B 3,iG B 4,iG B 5,iG B 6,iG B 7,iG B 8,iG B 9,iG B 10,iG B 11,iG l 0,.N (gL l 1).length,vG l 1,iG l 3,iG C 0,iG C 1,iG C 2,iG C 3,iG C 4,iG C 5,iG C 6,iG C 7,iG C 8,iG C 9,iG C 10,iG C 11]
 (fun j D=>(sw (ck (((eqM (gN D 1) (gL D 2).length)&&true)&&true)
 ((F130_2 fu) [iG D 0,vG D 2,iG D 15,iG D 16,iG D 17,.I 0,.I 0,.I 0,.I 0,.I 0,.I 0,.I 0,.I 0,.I 0]
 (fun j E=>(sw (k 0 [iG E 0])
 (fun _=>none)) j)))
 (fun _=>none)) j))
 (fun _=>none)) j))
 (fun _=>none)) j)))
 (fun _=>none)) j))
theorem F104_2.eq (fu:Nat):FEq (F104_2.O fu) 93 F104_2.ps F104_2.sh (F104_2 fu):=by intro τ l κ;kernel_rfl
def F104_2.E (fu:Nat):Ent P:=mkF (F104_2.eq fu)
end
end Go.Proofs.Yticbdgmcofjkeaa.Ai
namespace Go.Proofs.Yticbdgmcofjkeaa.Ai
open Go Go.RowKit
noncomputable section
variable {τ:Type} (t:Nat) (nx ex:Nat→LS_→Option τ) (l:LS_) (k κ:Nat→LS_→Option τ)
def L108_3.H:LHead:=⟨false,true,0,425987,425987,391,128,0,[(PS.mk (pI::pI::pI::us 4 ((rr 0)::pI::us 16 [])) [oI])],[((Out.exit 0),(PS.mk (us 7 ((rr 0)::us 17 [])) [oI]))]⟩
def L108_3.O (fu:Nat):Orc P:=⟨[],[],[],40⟩
def L108_3.s0 (fu:Nat) {τ:Type} (next ex:Nat→LS_→Option τ) (l:LS_):Option τ :=
 br (ltI (gI l 4) (gI l 1))
 (ck (!((gI l 0)==0))
 (ck (((((eqM (gL l 5).length ((gN l 3)*1))&&true)&&(eqM 1 1))&&(leN (((gN l 3)+1)*9) 1099511627776))&&true)
 (ck (!((gI l 0)==0))
 (next 0 [iG l 0,iG l 1,.I (wr .i64 (Int.tdiv (gI l 2) (gI l 0))),.N ((gN l 3)+1),.I (wr .i64 ((gI l 4)+1)),.L ((gL l 5)++(List.take 1 (List.drop 0 [(Int.tmod (gI l 2) (gI l 0))])))]))))
 (ex 0 [nG l 3,vG l 5])
theorem L108_3.e0 (fu:Nat):LEq (L108_3.O fu) L108_3.H 0 (L108_3.s0 fu):=by intro τ next κ l;kernel_rfl
def L108_3 (fu:Nat):LStep P Cf:=LStep.mk1 (by decide) (L108_3.e0 fu)
def L108_3.b (fu:Nat) {τ:Type} (t:Nat) (l:LS_) (κ:Nat→LS_→Option τ):Option τ:=runE (L108_3 fu) fu κ t l
def L108_3.E (fu:Nat):LEnt P:=LStep.EN fu (L108_3 fu)
def F108.ps:List PV2:=[pI,pI,pI]
def F108.sh:List PA:=[(PA.mk (PV3.v (rr 0)) [cI])]
def F108.O (fu:Nat):Orc P:=⟨[],[(L108_3.E fu)],[],40⟩
def F108 (fu:Nat) {τ:Type} (l:LS_) (k:Nat→LS_→Option τ):Option τ :=
 (L108_3.b fu) 0 [iG l 0,iG l 1,iG l 2,.N 0,.I 0,.L []]
 (fun j A=>(sw (k 0 [nG A 0,vG A 1])
 (fun _=>none)) j)
theorem F108.eq (fu:Nat):FEq (F108.O fu) 104 F108.ps F108.sh (F108 fu):=by intro τ l κ;kernel_rfl
def F108.E (fu:Nat):Ent P:=mkF (F108.eq fu)
def L77_3.H:LHead:=⟨false,true,0,348163,348163,904,136,0,[(PS.mk (us 3 ((pp 0)::us 3 ((rr 1)::(rr 2)::pI::us 37 []))) [(oG [pI,pI,qR]),oI,oI])],[((Out.exit 0),(PS.mk (us 3 ((pp 0)::us 3 ((rr 1)::us 39 []))) [(oG [pI,pI,qR]),oI]))]⟩
def L77_3.O (fu:Nat):Orc P:=⟨[],[],[],40⟩
def L77_3.s0 (fu:Nat) {τ:Type} (next ex:Nat→LS_→Option τ) (l:LS_):Option τ :=
 br (ltI (gI l 2) (gI l 4))
 (ck (((leI 0 (gI l 2))&&(ltI (gI l 2) (gN l 0)))&&true)
 (ck (ltN (0+((Int.toNat (gI l 2))*1)) (gL l 7).length)
 (ck (((leI 0 (gI l 2))&&(ltI (gI l 2) (gN l 1)))&&true)
 (ck (ltN (0+((Int.toNat (gI l 2))*1)) (gL l 8).length)
 (ck (!((gI l 3)==0))
 (ck (((leI 0 (gI l 2))&&(ltI (gI l 2) (gN l 0)))&&true)
 (ck ((leN ((0+((Int.toNat (gI l 2))*1))+1) (gL l 7).length)&&true)
 (next 0 [nG l 0,nG l 1,.I (wr .i64 ((gI l 2)+1)),iG l 3,iG l 4,nG l 5,vG l 6,.L (List.set (gL l 7) (0+((Int.toNat (gI l 2))*1)) (Int.tmod (wr .i64 ((List.getD (gL l 7) (0+((Int.toNat (gI l 2))*1)) 0)+(List.getD (gL l 8) (0+((Int.toNat (gI l 2))*1)) 0))) (gI l 3))),vG l 8]))))))))
 (ex 0 [nG l 0,iG l 3,iG l 4,nG l 5,vG l 6,vG l 7])
theorem L77_3.e0 (fu:Nat):LEq (L77_3.O fu) L77_3.H 0 (L77_3.s0 fu):=by intro τ next κ l;kernel_rfl
def L77_3 (fu:Nat):LStep P Cf:=LStep.mk1 (by decide) (L77_3.e0 fu)
def L77_3.b (fu:Nat) {τ:Type} (t:Nat) (l:LS_) (κ:Nat→LS_→Option τ):Option τ:=runE (L77_3 fu) fu κ t l
def L77_3.E (fu:Nat):LEnt P:=LStep.EN fu (L77_3 fu)
def L110_3.H:LHead:=⟨false,true,0,430083,430083,99,32,0,[(PS.mk (pI::qR::us 3 (pI::pI::us 16 [])) [])],[((Out.exit 0),(PS.mk (us 5 (pI::us 17 [])) []))]⟩
def L110_3.O (fu:Nat):Orc P:=⟨[],[],[],40⟩
def L110_3.s0 (fu:Nat) {τ:Type} (next ex:Nat→LS_→Option τ) (l:LS_):Option τ :=
 br (geI (gI l 4) 0)
 (ck (((leI 0 (gI l 4))&&(ltI (gI l 4) (gN l 1)))&&true)
 (ck (ltN ((Int.toNat (gI l 4))*1) (gL l 2).length)
 (next 0 [iG l 0,nG l 1,vG l 2,.I (wr .i64 ((wr .i64 ((gI l 3)*(gI l 0)))+(List.getD (gL l 2) ((Int.toNat (gI l 4))*1) 0))),.I (wr .i64 ((gI l 4)-1))])))
 (ex 0 [iG l 3])
theorem L110_3.e0 (fu:Nat):LEq (L110_3.O fu) L110_3.H 0 (L110_3.s0 fu):=by intro τ next κ l;kernel_rfl
def L110_3 (fu:Nat):LStep P Cf:=LStep.mk1 (by decide) (L110_3.e0 fu)
def L110_3.b (fu:Nat) {τ:Type} (t:Nat) (l:LS_) (κ:Nat→LS_→Option τ):Option τ:=runE (L110_3 fu) fu κ t l
def L110_3.E (fu:Nat):LEnt P:=LStep.EN fu (L110_3 fu)
def F110.ps:List PV2:=[pI,pR]
def F110.sh:List PA:=[(PA.mk (PV3.v pI) [])]
def F110.O (fu:Nat):Orc P:=⟨[],[(L110_3.E fu)],[],40⟩
def F110 (fu:Nat) {τ:Type} (l:LS_) (k:Nat→LS_→Option τ):Option τ :=
 (L110_3.b fu) 0 [iG l 0,.N (gL l 1).length,vG l 1,.I 0,.I (wr .i64 ((((gL l 1).length:Nat):Int)-1))]
 (fun j A=>(sw (k 0 [iG A 0])
 (fun _=>none)) j)
theorem F110.eq (fu:Nat):FEq (F110.O fu) 105 F110.ps F110.sh (F110 fu):=by intro τ l κ;kernel_rfl
def F110.E (fu:Nat):Ent P:=mkF (F110.eq fu)
def F77.ps:List PV2:=[pField,pI,pI]
def F77.sh:List PA:=[(PA.mk (PV3.v pI) [])]
def F77.O (fu:Nat):Orc P:=⟨[(F108.E fu),(F110.E fu)],[(L77_3.E fu)],[],40⟩
def F77 (fu:Nat) {τ:Type} (l:LS_) (k:Nat→LS_→Option τ):Option τ :=
 (F108 fu) [iG l 0,iG l 1,iG l 3]
 (fun j A=>(sw ((F108 fu) [iG l 0,iG l 1,iG l 4]
 (fun j B=>(sw ((L77_3.b fu) 0 [nG A 0,nG B 0,.I 0,iG l 0,iG l 1,.N (gL l 2).length,vG l 2,vG A 1,vG B 1]
 (fun j C=>(sw (ck ((eqM (gN C 0) (List.take ((gN C 0)*1) (List.drop 0 (gL C 5))).length)&&true)
 ((F110 fu) [iG C 1,.L (List.take ((gN C 0)*1) (List.drop 0 (gL C 5)))]
 (fun j D=>(sw (k 0 [iG D 0])
 (fun _=>none)) j)))
 (fun _=>none)) j))
 (fun _=>none)) j))
 (fun _=>none)) j)
theorem F77.eq (fu:Nat):FEq (F77.O fu) 85 F77.ps F77.sh (F77 fu):=by intro τ l κ;kernel_rfl
def F77.E (fu:Nat):Ent P:=mkF (F77.eq fu)
def L89_7.H:LHead:=⟨false,true,0,417799,417799,3976,1928,0,[(PS.mk (us 3 ((pp 0)::us 3 ((rr 1)::(rr 2)::(rr 3)::pI::pI::us 65 []))) [(oG [pI,pI,qR]),oI,oI,oI])],[((Out.exit 2),(PS.mk (us 3 ((pp 0)::us 3 ((rr 1)::(rr 2)::(rr 3)::pI::us 66 []))) [(oG [pI,pI,qR]),oI,oI,oI]))]⟩
def L89_7.O (fu:Nat):Orc P:=⟨[],[],[],40⟩
def L89_7.s0 (fu:Nat) {τ:Type} (next ex:Nat→LS_→Option τ) (l:LS_):Option τ :=
 br (ltI (gI l 4) (gI l 6))
 (ck (((leI 0 (wr .i64 ((gI l 3)+(gI l 4))))&&(ltI (wr .i64 ((gI l 3)+(gI l 4))) (((gN l 2):Nat):Int)))&&true)
 (ck (ltN (0+((Int.toNat (wr .i64 ((gI l 3)+(gI l 4))))*1)) (gL l 11).length)
 (ck (((leI 0 (gI l 3))&&(ltI (gI l 3) (gN l 0)))&&true)
 (ck (ltN (0+((Int.toNat (gI l 3))*1)) (gL l 9).length)
 (ck (((leI 0 (gI l 4))&&(ltI (gI l 4) (gN l 1)))&&true)
 (ck (ltN (0+((Int.toNat (gI l 4))*1)) (gL l 10).length)
 (ck (!((gI l 5)==0))
 (ck (((leI 0 (wr .i64 ((gI l 3)+(gI l 4))))&&(ltI (wr .i64 ((gI l 3)+(gI l 4))) (((gN l 2):Nat):Int)))&&true)
 (ck ((leN ((0+((Int.toNat (wr .i64 ((gI l 3)+(gI l 4))))*1))+1) (gL l 11).length)&&true)
 (next 0 [nG l 0,nG l 1,nG l 2,iG l 3,.I (wr .i64 ((gI l 4)+1)),iG l 5,iG l 6,nG l 7,vG l 8,vG l 9,vG l 10,.L (List.set (gL l 11) (0+((Int.toNat (wr .i64 ((gI l 3)+(gI l 4))))*1)) (Int.tmod (wr .i64 ((List.getD (gL l 11) (0+((Int.toNat (wr .i64 ((gI l 3)+(gI l 4))))*1)) 0)+(wr .i64 ((List.getD (gL l 9) (0+((Int.toNat (gI l 3))*1)) 0)*(List.getD (gL l 10) (0+((Int.toNat (gI l 4))*1)) 0))))) (gI l 5)))]))))))))))
 (ex 0 [nG l 0,nG l 1,nG l 2,iG l 3,iG l 5,iG l 6,nG l 7,vG l 8,vG l 9,vG l 10,vG l 11])
theorem L89_7.e0 (fu:Nat):LEq (L89_7.O fu) L89_7.H 0 (L89_7.s0 fu):=by intro τ next κ l;kernel_rfl
def L89_7 (fu:Nat):LStep P Cf:=LStep.mk1 (by decide) (L89_7.e0 fu)
def L89_7.b (fu:Nat) {τ:Type} (t:Nat) (l:LS_) (κ:Nat→LS_→Option τ):Option τ:=runE (L89_7 fu) fu κ t l
def L89_7.E (fu:Nat):LEnt P:=LStep.EN fu (L89_7 fu)
def L89_4.H:LHead:=⟨false,true,0,417796,417796,1928,520,0,[(PS.mk (us 3 ((pp 0)::us 3 ((rr 1)::(rr 2)::(rr 3)::pI::us 66 []))) [(oG [pI,pI,qR]),oI,oI,oI])],[((Out.exit 0),(PS.mk (us 3 ((pp 0)::us 5 ((rr 1)::us 67 []))) [(oG [pI,pI,qR]),oI]))]⟩
def L89_4.O (fu:Nat):Orc P:=⟨[],[(L89_7.E fu)],[],40⟩
def L89_4.s0 (fu:Nat) {τ:Type} (next ex:Nat→LS_→Option τ) (l:LS_):Option τ :=
 br (ltI (gI l 3) (gI l 5))
 ((L89_7.b fu) 0 [nG l 0,nG l 1,nG l 2,iG l 3,.I 0,iG l 4,iG l 5,nG l 6,vG l 7,vG l 8,vG l 9,vG l 10]
 (fun j A=>(sw (next 0 [nG A 0,nG A 1,nG A 2,.I (wr .i64 ((gI A 3)+1)),iG A 4,iG A 5,nG A 6,vG A 7,vG A 8,vG A 9,vG A 10])
 (fun _=>none)) j))
 (ex 0 [nG l 2,iG l 4,iG l 5,nG l 6,vG l 7,vG l 10])
theorem L89_4.e0 (fu:Nat):LEq (L89_4.O fu) L89_4.H 0 (L89_4.s0 fu):=by intro τ next κ l;kernel_rfl
def L89_4 (fu:Nat):LStep P Cf:=LStep.mk1 (by decide) (L89_4.e0 fu)
def L89_4.b (fu:Nat) {τ:Type} (t:Nat) (l:LS_) (κ:Nat→LS_→Option τ):Option τ:=runE (L89_4 fu) fu κ t l
def L89_4.E (fu:Nat):LEnt P:=LStep.EN fu (L89_4 fu)
def L119_8.H:LHead:=⟨false,true,0,520200,520200,3973,901,0,[(PS.mk (pI::us 1 (qR::us 4 ((rr 0)::pI::pI::pI::pI::us 55 []))) [oI])],[((Out.exit 2),(PS.mk (pI::us 1 (qR::us 4 ((rr 0)::pI::pI::us 57 []))) [oI]))]⟩
def L119_8.O (fu:Nat):Orc P:=⟨[],[],[],40⟩
def L119_8.s0 (fu:Nat) {τ:Type} (next ex:Nat→LS_→Option τ) (l:LS_):Option τ :=
 br (leI (gI l 7) (gI l 4))
 (ck (((leI 0 (wr .i64 ((wr .i64 ((gI l 5)-(gI l 4)))+(gI l 7))))&&(ltI (wr .i64 ((wr .i64 ((gI l 5)-(gI l 4)))+(gI l 7))) (((gN l 3):Nat):Int)))&&true)
 (ck (ltN (0+((Int.toNat (wr .i64 ((wr .i64 ((gI l 5)-(gI l 4)))+(gI l 7))))*1)) (gL l 8).length)
 (ck (((leI 0 (gI l 7))&&(ltI (gI l 7) (gN l 1)))&&true)
 (ck (ltN ((Int.toNat (gI l 7))*1) (gL l 2).length)
 (ck (!((gI l 0)==0))
 (ck (((leI 0 (wr .i64 ((wr .i64 ((gI l 5)-(gI l 4)))+(gI l 7))))&&(ltI (wr .i64 ((wr .i64 ((gI l 5)-(gI l 4)))+(gI l 7))) (((gN l 3):Nat):Int)))&&true)
 (ck ((leN ((0+((Int.toNat (wr .i64 ((wr .i64 ((gI l 5)-(gI l 4)))+(gI l 7))))*1))+1) (gL l 8).length)&&true)
 (next 0 [iG l 0,nG l 1,vG l 2,nG l 3,iG l 4,iG l 5,iG l 6,.I (wr .i64 ((gI l 7)+1)),.L (List.set (gL l 8) (0+((Int.toNat (wr .i64 ((wr .i64 ((gI l 5)-(gI l 4)))+(gI l 7))))*1)) (Int.tmod (wr .i64 ((List.getD (gL l 8) (0+((Int.toNat (wr .i64 ((wr .i64 ((gI l 5)-(gI l 4)))+(gI l 7))))*1)) 0)+(wr .i64 ((wr .i64 ((gI l 0)-(gI l 6)))*(List.getD (gL l 2) ((Int.toNat (gI l 7))*1) 0))))) (gI l 0)))]))))))))
 (ex 0 [iG l 0,nG l 1,vG l 2,nG l 3,iG l 4,iG l 5,vG l 8])
theorem L119_8.e0 (fu:Nat):LEq (L119_8.O fu) L119_8.H 0 (L119_8.s0 fu):=by intro τ next κ l;kernel_rfl
def L119_8 (fu:Nat):LStep P Cf:=LStep.mk1 (by decide) (L119_8.e0 fu)
def L119_8.b (fu:Nat) {τ:Type} (t:Nat) (l:LS_) (κ:Nat→LS_→Option τ):Option τ:=runE (L119_8 fu) fu κ t l
def L119_8.E (fu:Nat):LEnt P:=LStep.EN fu (L119_8 fu)
def L119_4.H:LHead:=⟨false,true,0,520196,520196,901,384,0,[(PS.mk (pI::us 1 (qR::us 4 ((rr 0)::pI::pI::us 57 []))) [oI])],[((Out.exit 0),(PS.mk (us 7 ((rr 0)::pI::us 58 [])) [oI]))]⟩
def L119_4.O (fu:Nat):Orc P:=⟨[],[(L119_8.E fu)],[],40⟩
def L119_4.s0 (fu:Nat) {τ:Type} (next ex:Nat→LS_→Option τ) (l:LS_):Option τ :=
 br (geI (gI l 5) (gI l 4))
 (ck (((leI 0 (gI l 5))&&(ltI (gI l 5) (gN l 3)))&&true)
 (ck (ltN (0+((Int.toNat (gI l 5))*1)) (gL l 6).length)
 ((L119_8.b fu) 0 [iG l 0,nG l 1,vG l 2,nG l 3,iG l 4,iG l 5,.I (List.getD (gL l 6) (0+((Int.toNat (gI l 5))*1)) 0),.I 0,vG l 6]
 (fun j A=>(sw (next 0 [iG A 0,nG A 1,vG A 2,nG A 3,iG A 4,.I (wr .i64 ((gI A 5)-1)),vG A 6])
 (fun _=>none)) j))))
 (ex 0 [nG l 3,iG l 4,vG l 6])
theorem L119_4.e0 (fu:Nat):LEq (L119_4.O fu) L119_4.H 0 (L119_4.s0 fu):=by intro τ next κ l;kernel_rfl
def L119_4 (fu:Nat):LStep P Cf:=LStep.mk1 (by decide) (L119_4.e0 fu)
def L119_4.b (fu:Nat) {τ:Type} (t:Nat) (l:LS_) (κ:Nat→LS_→Option τ):Option τ:=runE (L119_4 fu) fu κ t l
def L119_4.E (fu:Nat):LEnt P:=LStep.EN fu (L119_4 fu)
def F119.ps:List PV2:=[pI,pR,pR]
def F119.sh:List PA:=[(PA.mk (PV3.v (rr 0)) [cI]),(PA.mk (PV3.v (PV2.v (PV1.sl PC0.e))) [])]
def F119.O (fu:Nat):Orc P:=⟨[],[(L119_4.E fu)],[],40⟩
def F119 (fu:Nat) {τ:Type} (l:LS_) (k:Nat→LS_→Option τ):Option τ :=
 ck (((eqM (gL l 1).length ((gL l 1).length*1))&&(leN ((0+(gL l 1).length)*9) 1099511627776))&&true)
 ((L119_4.b fu) 0 [iG l 0,.N (gL l 2).length,vG l 2,.N (0+(gL l 1).length),.I (wr .i64 ((((gL l 2).length:Nat):Int)-1)),.I (wr .i64 ((((0+(gL l 1).length):Nat):Int)-1)),.L ([]++(gL l 1))]
 (fun j A=>(sw (ck (((((leI 0 (min (((gN A 0):Nat):Int) (gI A 1)))&&(leI (min (((gN A 0):Nat):Int) (gI A 1)) (min (((gN A 0):Nat):Int) (gI A 1))))&&(leI (min (((gN A 0):Nat):Int) (gI A 1)) (((gN A 0):Nat):Int)))&&true)&&true)
 (br (ltI 0 (min (((gN A 0):Nat):Int) (gI A 1)))
 (k 0 [.N ((Int.toNat (min (((gN A 0):Nat):Int) (gI A 1)))-0),vG A 2])
 (k 1 [.N 0])))
 (fun _=>none)) j))
theorem F119.eq (fu:Nat):FEq (F119.O fu) 127 F119.ps F119.sh (F119 fu):=by intro τ l κ;kernel_rfl
def F119.E (fu:Nat):Ent P:=mkF (F119.eq fu)
def F89.ps:List PV2:=[pField,pI,pI]
def F89.sh:List PA:=[(PA.mk (PV3.v pI) [])]
def F89.O (fu:Nat):Orc P:=⟨[(F108.E fu),(F119.E fu),(F110.E fu)],[(L89_4.E fu)],[],40⟩
def F89 (fu:Nat) {τ:Type} (l:LS_) (k:Nat→LS_→Option τ):Option τ :=
 (F108 fu) [iG l 0,iG l 1,iG l 3]
 (fun j A=>(sw ((F108 fu) [iG l 0,iG l 1,iG l 4]
 (fun j B=>(sw (ck (((leI 0 (wr .i64 (2*(gI l 1))))&&(leI (wr .i64 (2*(gI l 1))) (wr .i64 (2*(gI l 1)))))&&(leI ((wr .i64 (2*(gI l 1)))*9) 1099511627776))
 ((L89_4.b fu) 0 [nG A 0,nG B 0,.N (Int.toNat (wr .i64 (2*(gI l 1)))),.I 0,iG l 0,iG l 1,.N (gL l 2).length,vG l 2,vG A 1,vG B 1,.L (List.replicate (Int.toNat (wr .i64 (2*(gI l 1)))) (0:Int))]
 (fun j C=>(sw (ck (((eqM (gL C 4).length ((gN C 3)*1))&&(leN ((0+(gN C 3))*9) 1099511627776))&&true)
 (ck (((((eqM ([]++(gL C 4)).length ((0+(gN C 3))*1))&&true)&&true)&&(leN (((0+(gN C 3))+1)*9) 1099511627776))&&true)
 (ck ((eqM (gN C 0) (List.take ((gN C 0)*1) (List.drop 0 (gL C 5))).length)&&((eqM ((0+(gN C 3))+1) (List.take (((0+(gN C 3))+1)*1) (List.drop 0 (([]++(gL C 4))++[1]))).length)&&true))
 ((F119 fu) [iG C 1,.L (List.take ((gN C 0)*1) (List.drop 0 (gL C 5))),.L (List.take (((0+(gN C 3))+1)*1) (List.drop 0 (([]++(gL C 4))++[1])))]
 (fun j D=>(sw (ck ((eqM (gN D 0) (List.take ((gN D 0)*1) (List.drop 0 (gL D 1))).length)&&true)
 ((F110 fu) [iG C 1,.L (List.take ((gN D 0)*1) (List.drop 0 (gL D 1)))]
 (fun j E=>(sw (k 0 [iG E 0])
 (fun _=>none)) j)))
 (sw (ck ((eqM (gN D 0) 0)&&true)
 ((F110 fu) [iG C 1,.L []]
 (fun j E=>(sw (k 0 [iG E 0])
 (fun _=>none)) j)))
 (fun _=>none))) j)))))
 (fun _=>none)) j)))
 (fun _=>none)) j))
 (fun _=>none)) j)
theorem F89.eq (fu:Nat):FEq (F89.O fu) 102 F89.ps F89.sh (F89 fu):=by intro τ l κ;kernel_rfl
def F89.E (fu:Nat):Ent P:=mkF (F89.eq fu)
def L133_3.H:LHead:=⟨false,true,0,557059,557059,99,32,0,[(PS.mk (pI::pI::us 3 (pI::pI::us 9 [])) [])],[((Out.exit 0),(PS.mk (us 5 (pI::us 10 [])) []))]⟩
def L133_3.O (fu:Nat):Orc P:=⟨[],[],[],40⟩
def L133_3.s0 (fu:Nat) {τ:Type} (next ex:Nat→LS_→Option τ) (l:LS_):Option τ :=
 br (ltI (gI l 3) (gI l 1))
 (next 0 [iG l 0,iG l 1,.I (wr .i64 ((gI l 2)*(gI l 0))),.I (wr .i64 ((gI l 3)+1))])
 (ex 0 [iG l 2])
theorem L133_3.e0 (fu:Nat):LEq (L133_3.O fu) L133_3.H 0 (L133_3.s0 fu):=by intro τ next κ l;kernel_rfl
def L133_3 (fu:Nat):LStep P Cf:=LStep.mk1 (by decide) (L133_3.e0 fu)
def L133_3.b (fu:Nat) {τ:Type} (t:Nat) (l:LS_) (κ:Nat→LS_→Option τ):Option τ:=runE (L133_3 fu) fu κ t l
def L133_3.E (fu:Nat):LEnt P:=LStep.EN fu (L133_3 fu)
def F133.ps:List PV2:=[pI,pI]
def F133.sh:List PA:=[(PA.mk (PV3.v pI) [])]
def F133.O (fu:Nat):Orc P:=⟨[],[(L133_3.E fu)],[],40⟩
def F133 (fu:Nat) {τ:Type} (l:LS_) (k:Nat→LS_→Option τ):Option τ :=
 (L133_3.b fu) 0 [iG l 0,iG l 1,.I 1,.I 0]
 (fun j A=>(sw (k 0 [iG A 0])
 (fun _=>none)) j)
theorem F133.eq (fu:Nat):FEq (F133.O fu) 136 F133.ps F133.sh (F133 fu):=by intro τ l κ;kernel_rfl
def F133.E (fu:Nat):Ent P:=mkF (F133.eq fu)
def L132_4.H:LHead:=⟨false,true,0,552964,552964,13,4,0,[(PS.mk (pI::us 1 (pB::pI::us 13 [])) [])],[(Out.ret,(PS.mk (us 2 (pB::us 14 [])) [])),((Out.exit 0),(PS.mk (us 2 (pB::us 14 [])) []))]⟩
def L132_4.O (fu:Nat):Orc P:=⟨[],[],[],40⟩
def L132_4.s0 (fu:Nat) {τ:Type} (next ex:Nat→LS_→Option τ) (l:LS_):Option τ :=
 br (leI (wr .i64 ((gI l 2)*(gI l 2))) (gI l 0))
 (ck (!((gI l 2)==0))
 (br ((Int.tmod (gI l 0) (gI l 2))==0)
 (ex 0 [.B false])
 (next 0 [iG l 0,bG l 1,.I (wr .i64 ((gI l 2)+1))])))
 (ex 1 [bG l 1])
theorem L132_4.e0 (fu:Nat):LEq (L132_4.O fu) L132_4.H 0 (L132_4.s0 fu):=by intro τ next κ l;kernel_rfl
def L132_4 (fu:Nat):LStep P Cf:=LStep.mk1 (by decide) (L132_4.e0 fu)
def L132_4.b (fu:Nat) {τ:Type} (t:Nat) (l:LS_) (κ:Nat→LS_→Option τ):Option τ:=runE (L132_4 fu) fu κ t l
def L132_4.E (fu:Nat):LEnt P:=LStep.EN fu (L132_4 fu)
def F132.ps:List PV2:=[pI]
def F132.sh:List PA:=[(PA.mk (PV3.v pB) [])]
def F132.O (fu:Nat):Orc P:=⟨[],[(L132_4.E fu)],[],40⟩
def F132 (fu:Nat) {τ:Type} (l:LS_) (k:Nat→LS_→Option τ):Option τ :=
 br (ltI (gI l 0) 2)
 (k 0 [.B false])
 ((L132_4.b fu) 0 [iG l 0,.B false,.I 2]
 (fun j A=>(sw (k 0 [bG A 0])
 (sw (k 0 [.B true])
 (fun _=>none))) j))
theorem F132.eq (fu:Nat):FEq (F132.O fu) 135 F132.ps F132.sh (F132 fu):=by intro τ l κ;kernel_rfl
def F132.E (fu:Nat):Ent P:=mkF (F132.eq fu)
def L107_8.H:LHead:=⟨false,true,0,475144,475144,61,61,0,[(PS.mk (pI::us 1 ((pp 0)::pI::pI::pI::us 31 [])) [(oG [pI,pI])])],[((Out.exit 2),(PS.mk (pI::us 1 ((pp 0)::pI::pI::pI::us 31 [])) [(oG [pI,pI])]))]⟩
def L107_8.O (fu:Nat):Orc P:=⟨[],[],[],40⟩
def L107_8.s0 (fu:Nat) {τ:Type} (next ex:Nat→LS_→Option τ) (l:LS_):Option τ :=
 br (ltI (gI l 2) (gI l 0))
 (next 0 [iG l 0,iG l 1,.I (wr .i64 ((gI l 2)*(gI l 1))),.I (wr .i64 ((gI l 3)+1)),iG l 4,iG l 5])
 (ex 0 [iG l 0,iG l 1,iG l 2,iG l 3,iG l 4,iG l 5])
theorem L107_8.e0 (fu:Nat):LEq (L107_8.O fu) L107_8.H 0 (L107_8.s0 fu):=by intro τ next κ l;kernel_rfl
def L107_8 (fu:Nat):LStep P Cf:=LStep.mk1 (by decide) (L107_8.e0 fu)
def L107_8.b (fu:Nat) {τ:Type} (t:Nat) (l:LS_) (κ:Nat→LS_→Option τ):Option τ:=runE (L107_8 fu) fu κ t l
def L107_8.E (fu:Nat):LEnt P:=LStep.EN fu (L107_8 fu)
def L107_4.H:LHead:=⟨false,true,0,475140,475140,13,4,0,[(PS.mk (pI::us 1 ((pp 0)::pI::us 33 [])) [(oG [pI,pI])])],[(Out.ret,(PS.mk (us 2 ((pp 0)::us 34 [])) [(oG [pI,pI])])),((Out.exit 0),(PS.mk (us 2 ((pp 0)::us 34 [])) [(oG [pI,pI])]))]⟩
def L107_4.O (fu:Nat):Orc P:=⟨[(F132.E fu)],[(L107_8.E fu)],[],40⟩
def L107_4.s0 (fu:Nat) {τ:Type} (next ex:Nat→LS_→Option τ) (l:LS_):Option τ :=
 br (leI (gI l 1) (gI l 0))
 ((F132 fu) [iG l 1]
 (fun j A=>(sw (br (!(gB A 0))
 (next 0 [iG l 0,.I (wr .i64 ((gI l 1)+1)),iG l 2,iG l 3])
 ((L107_8.b fu) 0 [iG l 0,iG l 1,iG l 1,.I 1,iG l 2,iG l 3]
 (fun j B=>(sw (br ((gI B 2)==(gI B 0))
 (ex 0 [iG B 1,iG B 3])
 (next 0 [iG B 0,.I (wr .i64 ((gI B 1)+1)),iG B 4,iG B 5]))
 (fun _=>none)) j)))
 (fun _=>none)) j))
 (ex 1 [iG l 2,iG l 3])
theorem L107_4.e0 (fu:Nat):LEq (L107_4.O fu) L107_4.H 0 (L107_4.s0 fu):=by intro τ next κ l;kernel_rfl
def L107_4 (fu:Nat):LStep P Cf:=LStep.mk1 (by decide) (L107_4.e0 fu)
def L107_4.b (fu:Nat) {τ:Type} (t:Nat) (l:LS_) (κ:Nat→LS_→Option τ):Option τ:=runE (L107_4 fu) fu κ t l
def L107_4.E (fu:Nat):LEnt P:=LStep.EN fu (L107_4 fu)
def F107.ps:List PV2:=[pI]
def F107.sh:List PA:=[(PA.mk (PV3.v (PV2.agg [iI,iI])) [])]
def F107.O (fu:Nat):Orc P:=⟨[],[(L107_4.E fu)],[],40⟩
def F107 (fu:Nat) {τ:Type} (l:LS_) (k:Nat→LS_→Option τ):Option τ :=
 br (ltI (gI l 0) 2)
 (k 0 [.I 0,.I 0])
 (br (gtI (gI l 0) 64)
 (k 0 [.I 0,.I 0])
 ((L107_4.b fu) 0 [iG l 0,.I 2,.I 0,.I 0]
 (fun j A=>(sw (k 0 [iG A 0,iG A 1])
 (sw (k 0 [.I 0,.I 0])
 (fun _=>none))) j)))
theorem F107.eq (fu:Nat):FEq (F107.O fu) 116 F107.ps F107.sh (F107 fu):=by intro τ l κ;kernel_rfl
def F107.E (fu:Nat):Ent P:=mkF (F107.eq fu)
def L134_2.H:LHead:=⟨false,true,0,561154,561154,13,4,0,[(PS.mk (qR::us 1 (pB::pI::us 11 [])) [])],[(Out.ret,(PS.mk (us 2 (pB::us 12 [])) [])),((Out.exit 0),(PS.mk (us 2 (pB::us 12 [])) []))]⟩
def L134_2.O (fu:Nat):Orc P:=⟨[],[],[],40⟩
def L134_2.s0 (fu:Nat) {τ:Type} (next ex:Nat→LS_→Option τ) (l:LS_):Option τ :=
 br (ltI (gI l 3) (gN l 0))
 (ck (((leI 0 (gI l 3))&&(ltI (gI l 3) (gN l 0)))&&true)
 (ck (ltN ((Int.toNat (gI l 3))*1) (gL l 1).length)
 (br ((List.getD (gL l 1) ((Int.toNat (gI l 3))*1) 0) != 0)
 (ex 0 [.B false])
 (next 0 [nG l 0,vG l 1,bG l 2,.I (wr .i64 ((gI l 3)+1))]))))
 (ex 1 [bG l 2])
theorem L134_2.e0 (fu:Nat):LEq (L134_2.O fu) L134_2.H 0 (L134_2.s0 fu):=by intro τ next κ l;kernel_rfl
def L134_2 (fu:Nat):LStep P Cf:=LStep.mk1 (by decide) (L134_2.e0 fu)
def L134_2.b (fu:Nat) {τ:Type} (t:Nat) (l:LS_) (κ:Nat→LS_→Option τ):Option τ:=runE (L134_2 fu) fu κ t l
def L134_2.E (fu:Nat):LEnt P:=LStep.EN fu (L134_2 fu)
def F134.ps:List PV2:=[pR]
def F134.sh:List PA:=[(PA.mk (PV3.v pB) [])]
def F134.O (fu:Nat):Orc P:=⟨[],[(L134_2.E fu)],[],40⟩
def F134 (fu:Nat) {τ:Type} (l:LS_) (k:Nat→LS_→Option τ):Option τ :=
 (L134_2.b fu) 0 [.N (gL l 0).length,vG l 0,.B false,.I 0]
 (fun j A=>(sw (k 0 [bG A 0])
 (sw (k 0 [.B true])
 (fun _=>none))) j)
theorem F134.eq (fu:Nat):FEq (F134.O fu) 137 F134.ps F134.sh (F134 fu):=by intro τ l κ;kernel_rfl
def F134.E (fu:Nat):Ent P:=mkF (F134.eq fu)
def L109_5.H:LHead:=⟨false,true,0,479237,479237,115,51,0,[(PS.mk (pI::qR::us 2 (pB::pI::pI::us 25 [])) [])],[(Out.ret,(PS.mk (pI::qR::us 2 (pB::pI::us 26 [])) [])),((Out.exit 2),(PS.mk (pI::qR::us 2 (pB::pI::us 26 [])) []))]⟩
def L109_5.O (fu:Nat):Orc P:=⟨[(F133.E fu),(F108.E fu),(F119.E fu),(F134.E fu)],[],[],40⟩
def L109_5.s0 (fu:Nat) {τ:Type} (next ex:Nat→LS_→Option τ) (l:LS_):Option τ :=
 (F133 fu) [iG l 0,iG l 4]
 (fun j A=>(sw (br (ltI (gI l 5) (gI A 0))
 ((F108 fu) [iG l 0,iG l 4,iG l 5]
 (fun j B=>(sw (ck (((((eqM (gL B 1).length ((gN B 0)*1))&&true)&&true)&&(leN (((gN B 0)+1)*9) 1099511627776))&&true)
 (ck ((eqM (gN l 1) (gL l 2).length)&&((eqM ((gN B 0)+1) (List.take (((gN B 0)+1)*1) (List.drop 0 ((gL B 1)++[1]))).length)&&true))
 ((F119 fu) [iG l 0,vG l 2,.L (List.take (((gN B 0)+1)*1) (List.drop 0 ((gL B 1)++[1])))]
 (fun j C=>(sw (ck ((eqM (gN C 0) (List.take ((gN C 0)*1) (List.drop 0 (gL C 1))).length)&&true)
 ((F134 fu) [.L (List.take ((gN C 0)*1) (List.drop 0 (gL C 1)))]
 (fun j D=>(sw (br (gB D 0)
 (ex 0 [iG l 0,nG l 1,vG l 2,.B false,iG l 4])
 (next 0 [iG l 0,nG l 1,vG l 2,bG l 3,iG l 4,.I (wr .i64 ((gI l 5)+1))]))
 (fun _=>none)) j)))
 (sw (ck ((eqM (gN C 0) 0)&&true)
 ((F134 fu) [.L []]
 (fun j D=>(sw (br (gB D 0)
 (ex 0 [iG l 0,nG l 1,vG l 2,.B false,iG l 4])
 (next 0 [iG l 0,nG l 1,vG l 2,bG l 3,iG l 4,.I (wr .i64 ((gI l 5)+1))]))
 (fun _=>none)) j)))
 (fun _=>none))) j))))
 (fun _=>none)) j))
 (ex 1 [iG l 0,nG l 1,vG l 2,bG l 3,iG l 4]))
 (fun _=>none)) j)
theorem L109_5.e0 (fu:Nat):LEq (L109_5.O fu) L109_5.H 0 (L109_5.s0 fu):=by intro τ next κ l;kernel_rfl
def L109_5 (fu:Nat):LStep P Cf:=LStep.mk1 (by decide) (L109_5.e0 fu)
def L109_5.b (fu:Nat) {τ:Type} (t:Nat) (l:LS_) (κ:Nat→LS_→Option τ):Option τ:=runE (L109_5 fu) fu κ t l
def L109_5.E (fu:Nat):LEnt P:=LStep.EN fu (L109_5 fu)
def L109_2.H:LHead:=⟨false,true,0,479234,479234,51,16,0,[(PS.mk (pI::qR::us 2 (pB::pI::us 26 [])) [])],[(Out.ret,(PS.mk (us 4 (pB::us 27 [])) [])),((Out.exit 0),(PS.mk (us 4 (pB::us 27 [])) []))]⟩
def L109_2.O (fu:Nat):Orc P:=⟨[],[(L109_5.E fu)],[],40⟩
def L109_2.s0 (fu:Nat) {τ:Type} (next ex:Nat→LS_→Option τ) (l:LS_):Option τ :=
 br (leI (wr .i64 (2*(gI l 4))) (wr .i64 ((((gN l 1):Nat):Int)-1)))
 ((L109_5.b fu) 0 [iG l 0,nG l 1,vG l 2,bG l 3,iG l 4,.I 0]
 (fun j A=>(sw (ex 0 [bG A 3])
 (sw (next 0 [iG A 0,nG A 1,vG A 2,bG A 3,.I (wr .i64 ((gI A 4)+1))])
 (fun _=>none))) j))
 (ex 1 [bG l 3])
theorem L109_2.e0 (fu:Nat):LEq (L109_2.O fu) L109_2.H 0 (L109_2.s0 fu):=by intro τ next κ l;kernel_rfl
def L109_2 (fu:Nat):LStep P Cf:=LStep.mk1 (by decide) (L109_2.e0 fu)
def L109_2.b (fu:Nat) {τ:Type} (t:Nat) (l:LS_) (κ:Nat→LS_→Option τ):Option τ:=runE (L109_2 fu) fu κ t l
def L109_2.E (fu:Nat):LEnt P:=LStep.EN fu (L109_2 fu)
def F109.ps:List PV2:=[pI,pR]
def F109.sh:List PA:=[(PA.mk (PV3.v pB) [])]
def F109.O (fu:Nat):Orc P:=⟨[],[(L109_2.E fu)],[],40⟩
def F109 (fu:Nat) {τ:Type} (l:LS_) (k:Nat→LS_→Option τ):Option τ :=
 (L109_2.b fu) 0 [iG l 0,.N (gL l 1).length,vG l 1,.B false,.I 1]
 (fun j A=>(sw (k 0 [bG A 0])
 (sw (k 0 [.B true])
 (fun _=>none))) j)
theorem F109.eq (fu:Nat):FEq (F109.O fu) 117 F109.ps F109.sh (F109 fu):=by intro τ l κ;kernel_rfl
def F109.E (fu:Nat):Ent P:=mkF (F109.eq fu)
def L76_5.H:LHead:=⟨false,true,0,344069,344069,61,12,0,[(PS.mk (pI::us 1 ((pp 0)::pI::(pp 1)::pI::us 33 [])) [(oG [pI,pI,nS]),(oG [pI,pI])])],[(Out.ret,(PS.mk (us 2 ((pp 0)::pI::us 35 [])) [(oG [pI,pI,(rr 1)]),oI])),((Out.exit 0),(PS.mk (us 2 ((pp 0)::pI::us 35 [])) [(oG [pI,pI,nS])]))]⟩
def L76_5.O (fu:Nat):Orc P:=⟨[(F108.E fu),(F109.E fu)],[],[],40⟩
def L76_5.s0 (fu:Nat) {τ:Type} (next ex:Nat→LS_→Option τ) (l:LS_):Option τ :=
 br (ltI (gI l 2) (gI l 0))
 ((F108 fu) [iG l 5,iG l 6,iG l 2]
 (fun j A=>(sw (ck (((eqM (List.take ((gN A 0)*1) (List.drop 0 (gL A 1))).length ((gN A 0)*1))&&(leN ((0+(gN A 0))*9) 1099511627776))&&true)
 (ck (((((eqM ([]++(List.take ((gN A 0)*1) (List.drop 0 (gL A 1)))).length ((0+(gN A 0))*1))&&true)&&true)&&(leN (((0+(gN A 0))+1)*9) 1099511627776))&&true)
 (ck ((eqM ((0+(gN A 0))+1) (List.take (((0+(gN A 0))+1)*1) (List.drop 0 (([]++(List.take ((gN A 0)*1) (List.drop 0 (gL A 1))))++[1]))).length)&&true)
 ((F109 fu) [iG l 5,.L (List.take (((0+(gN A 0))+1)*1) (List.drop 0 (([]++(List.take ((gN A 0)*1) (List.drop 0 (gL A 1))))++[1])))]
 (fun j B=>(sw (br (gB B 0)
 (ex 0 [.I 0,iG l 5,iG l 6,nG A 0,vG A 1])
 (next 0 [iG l 0,iG l 1,.I (wr .i64 ((gI l 2)+1)),iG l 3,iG l 4,iG l 5,iG l 6]))
 (fun _=>none)) j)))))
 (fun _=>none)) j))
 (ex 1 [iG l 1,iG l 3,iG l 4])
theorem L76_5.e0 (fu:Nat):LEq (L76_5.O fu) L76_5.H 0 (L76_5.s0 fu):=by intro τ next κ l;kernel_rfl
def L76_5 (fu:Nat):LStep P Cf:=LStep.mk1 (by decide) (L76_5.e0 fu)
def L76_5.b (fu:Nat) {τ:Type} (t:Nat) (l:LS_) (κ:Nat→LS_→Option τ):Option τ:=runE (L76_5 fu) fu κ t l
def L76_5.E (fu:Nat):LEnt P:=LStep.EN fu (L76_5 fu)
def F76.ps:List PV2:=[pI]
def F76.sh:List PA:=[(PA.mk (PV3.tup [(PV2.agg [(PV1.intC .i64 0),(PV1.intC .i64 0),PV1.nilS]),(pC 1)]) []),(PA.mk (PV3.tup [(PV2.agg [iI,iI,(r1 0)]),pI]) [cI])]
def F76.O (fu:Nat):Orc P:=⟨[(F107.E fu)],[(L76_5.E fu)],[],40⟩
def F76 (fu:Nat) {τ:Type} (l:LS_) (k:Nat→LS_→Option τ):Option τ :=
 (F107 fu) [iG l 0]
 (fun j A=>(sw (br ((gI A 0)==0)
 (k 0 [])
 ((L76_5.b fu) 0 [iG l 0,.I 0,.I 0,.I 0,.I 0,iG A 0,iG A 1]
 (fun j B=>(sw (k 1 [iG B 1,iG B 2,nG B 3,iG B 0,vG B 4])
 (sw (k 0 [])
 (fun _=>none))) j)))
 (fun _=>none)) j)
theorem F76.eq (fu:Nat):FEq (F76.O fu) 84 F76.ps F76.sh (F76 fu):=by intro τ l κ;kernel_rfl
def F76.E (fu:Nat):Ent P:=mkF (F76.eq fu)
end
end Go.Proofs.Yticbdgmcofjkeaa.Ai
namespace Go.Proofs.Yticbdgmcofjkeaa.Ai
open Go Go.RowKit Ma
noncomputable section
def kk (sh:List PA):Nat→LS_→Option Ans:=fun j l=>sel sh (fun s=>some (fA s l)) j
theorem F_ok {O:Orc P} {f:FuncId} {ps:List PV2} {sh:List PA} {F:∀ {τ:Type},LS_→(Nat→LS_→Option τ)→Option τ} (e:FEq O f ps sh F) {ls:LS_} {x:Ans} (h:F ls (kk sh)=some x):CS P f (fL2 ls ps 0) x:=by
 obtain ⟨y,h1,h2⟩:=Orc.call cfgOk O ((e ls some).trans h)
 cases h2
 exact h1
theorem or_no {a b:Bool} (h:(a || b)=true) (ha:a=false):b=true:=by subst ha;exact h
def chkI (v:Int):Option Ans→Bool
 | some ⟨.int .i64 m,[]⟩=>decide (m=v)
 | _=>false
theorem chkI_ok {v:Int} {o:Option Ans} (h:chkI v o=true):o=some ⟨.int .i64 v,[]⟩:=by
 unfold chkI at h
 split at h
 ·rw [of_decide_eq_true h]
 ·cases h
def chkP (v:Int):Option Ans→Bool
 | some ⟨.tup [.int .i64 m,.int .i64 z],[]⟩=>decide (m=v)&&decide (z=0)
 | _=>false
theorem chkP_ok {v:Int} {o:Option Ans} (h:chkP v o=true):o=some ⟨.tup [.int .i64 v,.int .i64 0],[]⟩:=by
 unfold chkP at h
 split at h
 ·rw [Bool.and_eq_true] at h
  rw [of_decide_eq_true h.1,of_decide_eq_true h.2]
 ·cases h
def chkM (p e:Int) (m:List Int):Option Ans→Bool
 | some ⟨.tup [.agg [.int .i64 p',.int .i64 e',.ref id r off n k],.int .i64 z],[.i .i64 m']⟩=>decide (p'=p)&&(decide (e'=e)&&(decide (m'=m)&&(decide (z=0)&&(decide (id=0)&&(decide (r=0)&&(decide (off=0)&&(decide (n=m.length)&&decide (k=1))))))))
 | _=>false
theorem chkM_ok {p e:Int} {m:List Int} {o:Option Ans} (h:chkM p e m o=true):o=some ⟨.tup [.agg [.int .i64 p,.int .i64 e,.ref 0 0 0 m.length 1],.int .i64 0],[.i .i64 m]⟩:=by
 unfold chkM at h
 split at h
 ·simp only [Bool.and_eq_true,decide_eq_true_eq] at h
  obtain ⟨h1,h2,h3,h4,h5,h6,h7,h8,h9⟩:=h
  subst h1 h2 h3 h4 h5 h6 h7 h8 h9
  rfl
 ·cases h
theorem all2 {l:List Nat} {p:Nat→Int→Int→Bool} (h:l.all (fun q=>(List.range q).all fun a=>(List.range q).all fun b=>p q a b)=true) {q:Nat} (hq:q∈l) {a b:Int} (h0:0≤a) (h1:a<q) (h2:0≤b) (h3:b<q):p q a b=true:=by
 have e1:=List.all_eq_true.1 (List.all_eq_true.1 (List.all_eq_true.1 h q hq) a.toNat (List.mem_range.2 (by omega))) b.toNat (List.mem_range.2 (by omega))
 rwa [Int.toNat_of_nonneg h0,Int.toNat_of_nonneg h2] at e1
theorem all1 {l:List Nat} {p:Nat→Int→Bool} (h:l.all (fun q=>(List.range q).all fun a=>p q a)=true) {q:Nat} (hq:q∈l) {a:Int} (h0:0≤a) (h1:a<q):p q a=true:=by
 have e1:=List.all_eq_true.1 (List.all_eq_true.1 h q hq) a.toNat (List.mem_range.2 (by omega))
 rwa [Int.toNat_of_nonneg h0] at e1
def p77 (q:Nat) (a b:Int):Bool:=chkI (fadd q a b) (F77 64 [.I (fp q),.I (fe q),.L (fm q),.I a,.I b] (kk F77.sh))
theorem t77:Qs.all (fun q=>(List.range q).all fun a=>(List.range q).all fun b=>p77 q a b)=true:=by kernel_rfl
def p89 (q:Nat) (a b:Int):Bool:=chkI (fmul q a b) (F89 64 [.I (fp q),.I (fe q),.L (fm q),.I a,.I b] (kk F89.sh))
theorem t89a:[2,3,4,5,7,8].all (fun q=>(List.range q).all fun a=>(List.range q).all fun b=>p89 q a b)=true:=by kernel_rfl
theorem t89b:[9,11].all (fun q=>(List.range q).all fun a=>(List.range q).all fun b=>p89 q a b)=true:=by kernel_rfl
theorem t89c:[13].all (fun q=>(List.range q).all fun a=>(List.range q).all fun b=>p89 q a b)=true:=by kernel_rfl
theorem t89d:(List.range 8).all (fun (a:Nat)=>(List.range 16).all fun (b:Nat)=>p89 16 a b)=true:=by kernel_rfl
theorem t89e:((List.range 16).drop 8).all (fun (a:Nat)=>(List.range 16).all fun (b:Nat)=>p89 16 a b)=true:=by kernel_rfl
theorem all_split {p:Nat→Bool} (h1:(List.range 8).all p=true) (h2:((List.range 16).drop 8).all p=true):(List.range 16).all p=true :=
 (congrArg (fun l=>List.all l p) (show List.range 16=List.range 8++(List.range 16).drop 8 from rfl)).trans (List.all_append.trans (by rw [h1,h2];rfl))
theorem t89:Qs.all (fun q=>(List.range q).all fun a=>(List.range q).all fun b=>p89 q a b)=true:=by
 have e:Qs=[2,3,4,5,7,8]++([9,11]++([13]++[16])):=rfl
 have d:=all_split t89d t89e
 rw [e,List.all_append,t89a,List.all_append,t89b,List.all_append,t89c,List.all_cons,d]
 rfl
theorem t76:Qs.all (fun q=>chkM (fp q) (fe q) (fm q) (F76 64 [.I (q:Int)] (kk F76.sh)))=true:=by kernel_rfl
def p103 (q:Nat) (a b:Int):Bool:=chkI (fadd q a b) (F103 64 [.I (fp q),.L (fm q),.I a,.I b] (kk F103.sh))
theorem t103:[2,3,5,7,11,13].all (fun q=>(List.range q).all fun a=>(List.range q).all fun b=>p103 q a b)=true:=by kernel_rfl
def p103_1 (q:Nat) (a b:Int):Bool:=chkI (fadd q a b) (F103_1 64 [.I (fp q),.L (fm q),.I a,.I b] (kk F103_1.sh))
theorem t103_1:[4,9].all (fun q=>(List.range q).all fun a=>(List.range q).all fun b=>p103_1 q a b)=true:=by kernel_rfl
def p103_2 (q:Nat) (a b:Int):Bool:=chkI (fadd q a b) (F103_2 64 [.I (fp q),.L (fm q),.I a,.I b] (kk F103_2.sh))
theorem t103_2:[8].all (fun q=>(List.range q).all fun a=>(List.range q).all fun b=>p103_2 q a b)=true:=by kernel_rfl
def p104 (q:Nat) (a b:Int):Bool:=chkI (fmul q a b) (F104 64 [.I (fp q),.L (fm q),.I a,.I b] (kk F104.sh))
theorem t104:[2,3,5,7,11,13].all (fun q=>(List.range q).all fun a=>(List.range q).all fun b=>p104 q a b)=true:=by kernel_rfl
def p104_1 (q:Nat) (a b:Int):Bool:=chkI (fmul q a b) (F104_1 64 [.I (fp q),.L (fm q),.I a,.I b] (kk F104_1.sh))
theorem t104_1:[4,9].all (fun q=>(List.range q).all fun a=>(List.range q).all fun b=>p104_1 q a b)=true:=by kernel_rfl
def p104_2 (q:Nat) (a b:Int):Bool:=chkI (fmul q a b) (F104_2 64 [.I (fp q),.L (fm q),.I a,.I b] (kk F104_2.sh))
theorem t104_2:[8].all (fun q=>(List.range q).all fun a=>(List.range q).all fun b=>p104_2 q a b)=true:=by kernel_rfl
def p83 (q:Nat) (a:Int):Bool:=chkI (fneg q a) (F83 64 [.I (fp q),.L (fm q),.I a] (kk F83.sh))
theorem t83:[2,3,5,7,11,13].all (fun q=>(List.range q).all fun a=>p83 q a)=true:=by kernel_rfl
def p83_1 (q:Nat) (a:Int):Bool:=chkI (fneg q a) (F83_1 64 [.I (fp q),.L (fm q),.I a] (kk F83_1.sh))
theorem t83_1:[4,9].all (fun q=>(List.range q).all fun a=>p83_1 q a)=true:=by kernel_rfl
def p83_2 (q:Nat) (a:Int):Bool:=chkI (fneg q a) (F83_2 64 [.I (fp q),.L (fm q),.I a] (kk F83_2.sh))
theorem t83_2:[8].all (fun q=>(List.range q).all fun a=>p83_2 q a)=true:=by kernel_rfl
def chkE:Option Ans→Bool
 | some ⟨.tup [.agg [.int .i64 p,.int .i64 e,.nilS],.int .i64 z],[]⟩=>decide (p=0)&&(decide (e=0)&&decide (z=1))
 | _=>false
theorem chkE_ok {o:Option Ans} (h:chkE o=true):o=some ⟨.tup [.agg [.int .i64 0,.int .i64 0,.nilS],.int .i64 1],[]⟩:=by
 unfold chkE at h
 split at h
 ·simp only [Bool.and_eq_true,decide_eq_true_eq] at h
  obtain ⟨h1,h2,h3⟩:=h
  subst h1 h2 h3
  rfl
 ·cases h
def p76 (q:Nat):Bool:=chkM (fp q) (fe q) (fm q) (F76 64 [.I (q:Int)] (kk F76.sh))
theorem t76_17:p76 17=true:=by kernel_rfl
theorem t76_19:p76 19=true:=by kernel_rfl
theorem t76_23:p76 23=true:=by kernel_rfl
theorem t76_25:p76 25=true:=by kernel_rfl
theorem t76_27:p76 27=true:=by kernel_rfl
theorem t76_29:p76 29=true:=by kernel_rfl
theorem t76_31:p76 31=true:=by kernel_rfl
theorem t76_32:p76 32=true:=by kernel_rfl
theorem t76_37:p76 37=true:=by kernel_rfl
theorem t76_41:p76 41=true:=by kernel_rfl
theorem t76_43:p76 43=true:=by kernel_rfl
theorem t76_47:p76 47=true:=by kernel_rfl
theorem t76_49:p76 49=true:=by kernel_rfl
theorem t76_53:p76 53=true:=by kernel_rfl
theorem t76_59:p76 59=true:=by kernel_rfl
theorem t76_61:p76 61=true:=by kernel_rfl
theorem t76_64:p76 64=true:=by kernel_rfl
theorem t76b:Qb.all p76=true:=by
 simp only [Qb,List.all_cons,List.all_nil,t76_17,t76_19,t76_23,t76_25,t76_27,t76_29,t76_31,t76_32,t76_37,t76_41,t76_43,t76_47,t76_49,t76_53,t76_59,t76_61,t76_64,Bool.and_self]
theorem t76n:(List.range 65).all (fun q=>decide (q<2) || (isq (q:Int) || chkE (F76 64 [.I (q:Int)] (kk F76.sh))))=true:=by kernel_rfl
theorem no76 {q:Int} (h:isq q=false):F76 64 [.I q] (kk F76.sh)=some ⟨.tup [.agg [.int .i64 0,.int .i64 0,.nilS],.int .i64 1],[]⟩:=by
 by_cases h1:q<2
 ·unfold F76 F107
  simp only [gI_zero,h_]
  rw [br_of (by simpa using h1)]
  rfl
 ·by_cases h2:64<q
  ·unfold F76 F107
   simp only [gI_zero,h_]
   rw [br_no (by simpa using h1),br_of (by simpa using h2)]
   rfl
  ·obtain ⟨m,rfl⟩:∃ m:Nat,q=m:=⟨q.toNat,by omega⟩
   have:=List.all_eq_true.1 t76n m (List.mem_range.2 (by omega))
   rw [h,Bool.false_or,Bool.or_eq_true] at this
   rcases this with e | e
   ·have:=of_decide_eq_true e;omega
   ·exact chkE_ok e
def fAV (q:Nat):AV:=.agg [.int .i64 (fp q),.int .i64 (fe q),.sl (fm q).length (.i .i64 (fm q))]
theorem fq_inv {p e:Int} {m:List Int} (h:fq p e m∈Qs):p=fp (fq p e m)∧e=fe (fq p e m)∧m=fm (fq p e m):=by
 unfold fq at h ⊢
 cases hf:Qs.find? fun q=>decide (p=fp q)&&(decide (e=fe q)&&decide (m=fm q)) with
 | none=>rw [hf] at h;simp [Qs] at h
 | some q =>
  have:=List.find?_some hf
  simp only [Bool.and_eq_true,decide_eq_true_eq] at this
  exact this
def sh1:List PA:=[⟨.v (.v (.int .i64)),[]⟩]
def shI:List PA:=[⟨.v (.tup [.int .i64,.intC .i64 0]),[]⟩]
def shM:List PA:=[⟨.tup [.agg [.int .i64,.int .i64,.ref 0 (some 0) (some 0) none 1],.v (.intC .i64 0)],[.c (.i .i64)]⟩,⟨.tup [.agg [.intC .i64 0,.intC .i64 0,.nilS],.v (.intC .i64 1)],[]⟩]
theorem tab2_ok {f:FuncId} {op:Nat→Int→Int→Int} (hcs:∀ q∈Qs,∀ a b:Int,0≤a→a<q→0≤b→b<q→CS P f [fAV q,.int .i64 a,.int .i64 b] ⟨.int .i64 (op q a b),[]⟩) {τ:Type} (ls:LS_) (κ:Ans→Option τ) (r:τ) (h:tab2 op ls (fun j l=>sel sh1 (fun s=>κ (fA s l)) j)=some r):∃ x,CS P f (fL2 ls [pField,pI,pI] 0) x∧κ x=some r:=by
 unfold tab2 at h
 obtain ⟨h1,h2⟩:=ck_some h
 simp only [Bool.and_eq_true,decide_eq_true_eq,inq] at h1
 obtain ⟨hq,⟨a0,a1⟩,b0,b1⟩:=h1
 refine ⟨_,?_,h2⟩
 have:=hcs _ hq _ _ a0 a1 b0 b1
 obtain ⟨e1,e2,e3⟩:=fq_inv hq
 unfold fAV at this
 rw [←e1,←e2,←e3] at this
 exact this
theorem tab1_ok {f:FuncId} {op:Nat→Int→Int} (hcs:∀ q∈Qs,∀ a:Int,0≤a→a<q→CS P f [fAV q,.int .i64 a] ⟨.int .i64 (op q a),[]⟩) {τ:Type} (ls:LS_) (κ:Ans→Option τ) (r:τ) (h:tab1 op ls (fun j l=>sel sh1 (fun s=>κ (fA s l)) j)=some r):∃ x,CS P f (fL2 ls [pField,pI] 0) x∧κ x=some r:=by
 unfold tab1 at h
 obtain ⟨h1,h2⟩:=ck_some h
 simp only [Bool.and_eq_true,decide_eq_true_eq,inq] at h1
 obtain ⟨hq,a0,a1⟩:=h1
 refine ⟨_,?_,h2⟩
 have:=hcs _ hq _ a0 a1
 obtain ⟨e1,e2,e3⟩:=fq_inv hq
 unfold fAV at this
 rw [←e1,←e2,←e3] at this
 exact this
theorem tabI_ok {f:FuncId} (hcs:∀ q∈Qs,∀ a:Int,0≤a→a<q→a≠0→CS P f [fAV q,.int .i64 a] ⟨.tup [.int .i64 (finv q a),.int .i64 0],[]⟩) {τ:Type} (ls:LS_) (κ:Ans→Option τ) (r:τ) (h:tabI ls (fun j l=>sel shI (fun s=>κ (fA s l)) j)=some r):∃ x,CS P f (fL2 ls [pField,pI] 0) x∧κ x=some r:=by
 unfold tabI at h
 obtain ⟨h1,h2⟩:=ck_some h
 simp only [Bool.and_eq_true,decide_eq_true_eq,inq] at h1
 obtain ⟨hq,⟨a0,a1⟩,hz⟩:=h1
 refine ⟨_,?_,h2⟩
 have:=hcs _ hq _ a0 a1 hz
 obtain ⟨e1,e2,e3⟩:=fq_inv hq
 unfold fAV at this
 rw [←e1,←e2,←e3] at this
 exact this
theorem tabM_ok {f:FuncId} (hcs:∀ q∈Qs++Qb,CS P f [.int .i64 q] ⟨.tup [.agg [.int .i64 (fp q),.int .i64 (fe q),.ref 0 0 0 (fm q).length 1],.int .i64 0],[.i .i64 (fm q)]⟩)
  (hno:∀ q:Int,isq q=false→CS P f [.int .i64 q] ⟨.tup [.agg [.int .i64 0,.int .i64 0,.nilS],.int .i64 1],[]⟩) {τ:Type} (ls:LS_) (κ:Ans→Option τ) (r:τ) (h:tabM ls (fun j l=>sel shM (fun s=>κ (fA s l)) j)=some r) :
  ∃ x,CS P f (fL2 ls [pI] 0) x∧κ x=some r:=by
 unfold tabM at h
 cases hq:isq (gI ls 0) with
 | true =>
  rw [br_of hq] at h
  refine ⟨_,?_,h⟩
  unfold isq at hq
  simp only [Bool.and_eq_true,decide_eq_true_eq,List.contains_iff_mem] at hq
  have:=hcs _ hq.2
  rw [Int.toNat_of_nonneg hq.1] at this
  exact this
 | false =>
  rw [br_no hq] at h
  exact ⟨_,hno _ hq,h⟩
def T77.E:Ent P:=⟨85,[pField,pI,pI],sh1,fun l k=>T77 l k,tab2_ok fun q hq a b h0 h1 h2 h3=>F_ok (F77.eq 64) (chkI_ok (all2 (p:=p77) t77 hq h0 h1 h2 h3))⟩
def T89.E:Ent P:=⟨102,[pField,pI,pI],sh1,fun l k=>T89 l k,tab2_ok fun q hq a b h0 h1 h2 h3=>F_ok (F89.eq 64) (chkI_ok (all2 (p:=p89) t89 hq h0 h1 h2 h3))⟩
def T76.E:Ent P:=⟨84,[pI],shM,fun l k=>T76 l k,tabM_ok (fun q hq=>F_ok (F76.eq 64) (chkM_ok (by
 rcases List.mem_append.1 hq with h | h
 ·exact List.all_eq_true.1 t76 q h
 ·exact List.all_eq_true.1 t76b q h))) (fun q hq=>F_ok (F76.eq 64) (no76 hq))⟩
end
end Go.Proofs.Yticbdgmcofjkeaa.Ai
namespace Go.Proofs.Yticbdgmcofjkeaa.Ai
open Go Go.RowKit
noncomputable section
section
variable {O:Orc P} {H:LHead} {s0 s1 s2 s3 s4:∀ {τ:Type},(Nat→LS_→Option τ)→(Nat→LS_→Option τ)→LS_→Option τ}
def LStep.mk5 (hfl:(Nat.beq H.fl 0 || Nat.beq H.cl H.fl)=true) (e0:LEq O H 0 s0) (e1:LEq O H 1 s1) (e2:LEq O H 2 s2) (e3:LEq O H 3 s3) (e4:LEq O H 4 s4):LStep P Cf where
 toLHead:=H
 hfl:=hfl
 step:=fun next ex t l=>(sw (s0 next ex l) (sw (s1 next ex l) (sw (s2 next ex l) (sw (s3 next ex l) (sw (s4 next ex l) (fun _=>none)))))) t
 ok:=fun next κ tag l r h=>match tag,h with
  | 0,h=>Orc.round cfgOk O H ((e0 next κ l).trans h)
  | 1,h=>Orc.round cfgOk O H ((e1 next κ l).trans h)
  | 2,h=>Orc.round cfgOk O H ((e2 next κ l).trans h)
  | 3,h=>Orc.round cfgOk O H ((e3 next κ l).trans h)
  | 4,h=>Orc.round cfgOk O H ((e4 next κ l).trans h)
  | _+5,h=>nomatch h
end
def feo0:List PO:=[(oG [(pC (0:Int)),(pC (0:Int)),(pC (0:Int)),(pC (0:Int)),(pC (0:Int)),(pC (0:Int)),(pC (0:Int)),(pC (0:Int)),(pC (0:Int)),(pC (0:Int)),(pC (0:Int)),(pC (0:Int))]),(oG [pI,pI,pI,pI,pI,pI,pI,pI,pI,pI,pI,pI])]
def feo1:List PO:=[(oG [pI,(pC (4:Int)),qR]),(oG [pI,pI,pI,pI,pI,pI,pI,pI,pI,pI,pI,pI]),(oG [pI,pI,pI,pI,pI,pI,pI,pI,pI,pI,pI,pI])]
def feo2:List PO:=[(oG [pI,(pC (4:Int)),qR]),(oG [pI,pI,pI,pI,pI,pI,pI,pI,pI,pI,pI,pI])]
def feo3:List PO:=[(oG [pI,(pC (4:Int)),qR]),(oG [pI,pI,pI,pI,pI,pI,pI,pI,pI,pI,pI,pI]),(oG [pI,pI,pI,pI,(pC (0:Int)),(pC (0:Int)),(pC (0:Int)),(pC (0:Int)),(pC (0:Int)),(pC (0:Int)),(pC (0:Int)),(pC (0:Int))]),(oG [pI,(pC (4:Int)),qR]),(oG [pI]),(PO.loop false [(PV2.agg [iI,(PV1.intC IntKind.i64 (4:Int)),(PV1.sl (PC0.i IntKind.i64))]),pI,pI,(pp 0),n_,n_,(pC (0:Int)),(pp 1),(pp 2),n_,n_,n_,n_,(PV2.agg [iI,(PV1.intC IntKind.i64 (4:Int)),(PV1.sl (PC0.i IntKind.i64))]),pB,(PV2.v (PV1.boolC false)),(pp 0),pI,pI,(PV2.agg [iI,iI,iI,iI,iI,iI,iI,iI,iI,iI,iI,iI]),(PV2.agg [iI,(PV1.intC IntKind.i64 (4:Int)),(PV1.sl (PC0.i IntKind.i64))]),pI,(PV2.fn 140 [(p1 3),(p1 4)]),n_,n_,n_,n_,n_,n_,n_,n_,n_,n_,n_,n_,n_,n_,n_,n_,n_,n_,n_,n_,n_,n_,n_,n_,n_,n_,n_,n_,n_,n_,n_,n_,n_,n_,n_,n_,n_,n_,n_,n_,n_,n_,n_,n_,n_,n_,n_,n_,n_,n_,n_] [23] (rfA 93 0) (rfB 93 0) 16528282690043758248264 false Out.normal),(oG [pI,pI,pI,pI,pI,pI,pI,pI,pI,pI,pI,pI])]
def feo4:List PO:=[(oG [pI,(pC (4:Int)),qR]),(oG [pI,pI,pI,pI,pI,pI,pI,pI,pI,pI,pI,pI]),(oG [pI,pI,pI,pI,(pC (0:Int)),(pC (0:Int)),(pC (0:Int)),(pC (0:Int)),(pC (0:Int)),(pC (0:Int)),(pC (0:Int)),(pC (0:Int))]),(oG [pI,(pC (4:Int)),qR]),(oG [pI]),(PO.loop false [(PV2.agg [iI,(PV1.intC IntKind.i64 (4:Int)),(PV1.sl (PC0.i IntKind.i64))]),pI,pI,(pp 0),n_,n_,(pC (0:Int)),(pp 1),(pp 2),n_,n_,n_,n_,(PV2.agg [iI,(PV1.intC IntKind.i64 (4:Int)),(PV1.sl (PC0.i IntKind.i64))]),pB,(PV2.v (PV1.boolC false)),(pp 0),pI,pI,(PV2.agg [iI,iI,iI,iI,iI,iI,iI,iI,iI,iI,iI,iI]),(PV2.agg [iI,(PV1.intC IntKind.i64 (4:Int)),(PV1.sl (PC0.i IntKind.i64))]),pI,(PV2.fn 140 [(p1 3),(p1 4)]),n_,n_,n_,n_,n_,n_,n_,n_,n_,n_,n_,n_,n_,n_,n_,n_,n_,n_,n_,n_,n_,n_,n_,n_,n_,n_,n_,n_,n_,n_,n_,n_,n_,n_,n_,n_,n_,n_,n_,n_,n_,n_,n_,n_,n_,n_,n_,n_,n_,n_,n_] [23] (rfA 93 0) (rfB 93 0) 16528282690043758248264 true Out.normal),(oG [pI,pI,pI,pI,pI,pI,pI,pI,pI,pI,pI,pI])]
def L128_5_99.H:LHead:=⟨false,true,0,487429,487429,201326606,4,0,[(PS.mk (us 1 ((pp 0)::(PV2.v (PV1.boolC false))::pI::us 22 ((pC (4:Int))::(pC (0:Int))::us 11 []))) [(oG [pI,(pC (4:Int)),qR])]),(PS.mk (us 1 ((pp 0)::(PV2.v (PV1.boolC false))::pI::us 22 ((pC (4:Int))::(pC (1:Int))::us 11 []))) [(oG [pI,(pC (4:Int)),qR])]),(PS.mk (us 1 ((pp 0)::(PV2.v (PV1.boolC false))::pI::us 22 ((pC (4:Int))::(pC (2:Int))::us 11 []))) [(oG [pI,(pC (4:Int)),qR])]),(PS.mk (us 1 ((pp 0)::(PV2.v (PV1.boolC false))::pI::us 22 ((pC (4:Int))::(pC (3:Int))::us 11 []))) [(oG [pI,(pC (4:Int)),qR])]),(PS.mk (us 1 ((pp 0)::(PV2.v (PV1.boolC false))::pI::us 22 ((pC (4:Int))::(pC (4:Int))::us 11 []))) [(oG [pI,(pC (4:Int)),qR])])],[(Out.ret,(PS.mk (us 2 ((PV2.v (PV1.boolC false))::us 36 [])) [])),((Out.exit 0),(PS.mk (us 2 ((PV2.v (PV1.boolC false))::us 36 [])) []))]⟩
def L128_5_99.O (fu:Nat):Orc P:=⟨[],[],[],40⟩
def L128_5_99.s0 (fu:Nat) {τ:Type} (next ex:Nat→LS_→Option τ) (l:LS_):Option τ :=
 ck (!((gI l 1)==(0:Int)))
 (br (gtI (gI l 0) (wr IntKind.i64 (Int.tdiv (64:Int) (gI l 1))))
 (ex 0 [])
 (next 1 [.I (wr IntKind.i64 ((gI l 0)*(gI l 1))),.I (gI l 1),.N (gN l 2),.L (gL l 3)]))
theorem L128_5_99.e0 (fu:Nat):LEq (L128_5_99.O fu) L128_5_99.H 0 (L128_5_99.s0 fu):=by intro τ next κ l;kernel_rfl
def L128_5_99.s1 (fu:Nat) {τ:Type} (next ex:Nat→LS_→Option τ) (l:LS_):Option τ :=
 ck (!((gI l 1)==(0:Int)))
 (br (gtI (gI l 0) (wr IntKind.i64 (Int.tdiv (64:Int) (gI l 1))))
 (ex 0 [])
 (next 2 [.I (wr IntKind.i64 ((gI l 0)*(gI l 1))),.I (gI l 1),.N (gN l 2),.L (gL l 3)]))
theorem L128_5_99.e1 (fu:Nat):LEq (L128_5_99.O fu) L128_5_99.H 1 (L128_5_99.s1 fu):=by intro τ next κ l;kernel_rfl
def L128_5_99.s2 (fu:Nat) {τ:Type} (next ex:Nat→LS_→Option τ) (l:LS_):Option τ :=
 ck (!((gI l 1)==(0:Int)))
 (br (gtI (gI l 0) (wr IntKind.i64 (Int.tdiv (64:Int) (gI l 1))))
 (ex 0 [])
 (next 3 [.I (wr IntKind.i64 ((gI l 0)*(gI l 1))),.I (gI l 1),.N (gN l 2),.L (gL l 3)]))
theorem L128_5_99.e2 (fu:Nat):LEq (L128_5_99.O fu) L128_5_99.H 2 (L128_5_99.s2 fu):=by intro τ next κ l;kernel_rfl
def L128_5_99.s3 (fu:Nat) {τ:Type} (next ex:Nat→LS_→Option τ) (l:LS_):Option τ :=
 ck (!((gI l 1)==(0:Int)))
 (br (gtI (gI l 0) (wr IntKind.i64 (Int.tdiv (64:Int) (gI l 1))))
 (ex 0 [])
 (next 4 [.I (wr IntKind.i64 ((gI l 0)*(gI l 1))),.I (gI l 1),.N (gN l 2),.L (gL l 3)]))
theorem L128_5_99.e3 (fu:Nat):LEq (L128_5_99.O fu) L128_5_99.H 3 (L128_5_99.s3 fu):=by intro τ next κ l;kernel_rfl
def L128_5_99.s4 (fu:Nat) {τ:Type} (next ex:Nat→LS_→Option τ) (l:LS_):Option τ :=
 ex 1 []
theorem L128_5_99.e4 (fu:Nat):LEq (L128_5_99.O fu) L128_5_99.H 4 (L128_5_99.s4 fu):=by intro τ next κ l;kernel_rfl
def L128_5_99 (fu:Nat):LStep P Cf:=LStep.mk5 (by decide) (L128_5_99.e0 fu) (L128_5_99.e1 fu) (L128_5_99.e2 fu) (L128_5_99.e3 fu) (L128_5_99.e4 fu)
def L128_5_99.b (fu:Nat) {τ:Type} (t:Nat) (l:LS_) (κ:Nat→LS_→Option τ):Option τ:=runE (L128_5_99 fu) fu κ t l
def L128_5_99.E (fu:Nat):LEnt P:=LStep.EN fu (L128_5_99 fu)
def F128_99.ps:List PV2:=[(PV2.agg [iI,(PV1.intC IntKind.i64 (4:Int)),aI])]
def F128_99.sh:List PA:=[(PA.mk (PV3.v pB) [])]
def F128_99.O (fu:Nat):Orc P:=⟨[],[(L128_5_99.E fu)],[],40⟩
def F128_99 (fu:Nat) {τ:Type} (l:LS_) (k:Nat→LS_→Option τ):Option τ :=
 br (ltI (gI l 0) (2:Int))
 (k 0 [.B false])
 (br ((((List.length (gL l 1)):Nat):Int) != (4:Int))
 (k 0 [.B false])
 ((L128_5_99.b fu) 0 [.I (1:Int),.I (gI l 0),.N (List.length (gL l 1)),.L (gL l 1)]
 (fun j l0=>(sw (k 0 [.B false])
 (sw (k 0 [.B true])
 (fun _=>none))) j)))
theorem F128_99.eq (fu:Nat):FEq (F128_99.O fu) 119 F128_99.ps F128_99.sh (F128_99 fu):=by intro τ l κ;kernel_rfl
def F128_99.E (fu:Nat):Ent P:=mkF (F128_99.eq fu)
def L127_3_99.H:LHead:=⟨false,true,0,491523,491523,179,48,0,[(PS.mk (pI::pI::us 2 ((pp 0)::(pp 1)::us 1 ((pC (0:Int))::us 12 []))) feo0),(PS.mk (pI::pI::us 2 ((pp 0)::(pp 1)::us 1 ((pC (1:Int))::us 12 []))) feo0),(PS.mk (pI::pI::us 2 ((pp 0)::(pp 1)::us 1 ((pC (2:Int))::us 12 []))) feo0),(PS.mk (pI::pI::us 2 ((pp 0)::(pp 1)::us 1 ((pC (3:Int))::us 12 []))) feo0),(PS.mk (pI::pI::us 2 ((pp 0)::(pp 1)::us 1 ((pC (4:Int))::us 12 []))) feo0),(PS.mk (pI::pI::us 2 ((pp 0)::(pp 1)::us 1 ((pC (5:Int))::us 12 []))) feo0),(PS.mk (pI::pI::us 2 ((pp 0)::(pp 1)::us 1 ((pC (6:Int))::us 12 []))) feo0),(PS.mk (pI::pI::us 2 ((pp 0)::(pp 1)::us 1 ((pC (7:Int))::us 12 []))) feo0),(PS.mk (pI::pI::us 2 ((pp 0)::(pp 1)::us 1 ((pC (8:Int))::us 12 []))) feo0),(PS.mk (pI::pI::us 2 ((pp 0)::(pp 1)::us 1 ((pC (9:Int))::us 12 []))) feo0),(PS.mk (pI::pI::us 2 ((pp 0)::(pp 1)::us 1 ((pC (10:Int))::us 12 []))) feo0),(PS.mk (pI::pI::us 2 ((pp 0)::(pp 1)::us 1 ((pC (11:Int))::us 12 []))) feo0),(PS.mk (pI::pI::us 2 ((pp 0)::(pp 1)::us 1 ((pC (12:Int))::us 12 []))) feo0)],[((Out.exit 0),(PS.mk (us 4 ((pp 0)::(pp 1)::us 14 [])) feo0))]⟩
def L127_3_99.O (fu:Nat):Orc P:=⟨[],[],[],40⟩
def L127_3_99.s0 (fu:Nat) {τ:Type} (next ex:Nat→LS_→Option τ) (l:LS_):Option τ :=
 ck (!((gI l 0)==(0:Int)))
 (ck (!((gI l 0)==(0:Int)))
 (next 1 [.I (gI l 0),.I (wr IntKind.i64 (Int.tdiv (gI l 1) (gI l 0))),.I (Int.tmod (gI l 1) (gI l 0)),.I (gI l 3),.I (gI l 4),.I (gI l 5),.I (gI l 6),.I (gI l 7),.I (gI l 8),.I (gI l 9),.I (gI l 10),.I (gI l 11),.I (gI l 12),.I (gI l 13)]))
theorem L127_3_99.e0 (fu:Nat):LEq (L127_3_99.O fu) L127_3_99.H 0 (L127_3_99.s0 fu):=by intro τ next κ l;kernel_rfl
def L127_3_99.s1 (fu:Nat) {τ:Type} (next ex:Nat→LS_→Option τ) (l:LS_):Option τ :=
 ck (!((gI l 0)==(0:Int)))
 (ck (!((gI l 0)==(0:Int)))
 (next 2 [.I (gI l 0),.I (wr IntKind.i64 (Int.tdiv (gI l 1) (gI l 0))),.I (gI l 2),.I (Int.tmod (gI l 1) (gI l 0)),.I (gI l 4),.I (gI l 5),.I (gI l 6),.I (gI l 7),.I (gI l 8),.I (gI l 9),.I (gI l 10),.I (gI l 11),.I (gI l 12),.I (gI l 13)]))
theorem L127_3_99.e1 (fu:Nat):LEq (L127_3_99.O fu) L127_3_99.H 1 (L127_3_99.s1 fu):=by intro τ next κ l;kernel_rfl
def L127_3_99.s2 (fu:Nat) {τ:Type} (next ex:Nat→LS_→Option τ) (l:LS_):Option τ :=
 ck (!((gI l 0)==(0:Int)))
 (ck (!((gI l 0)==(0:Int)))
 (next 3 [.I (gI l 0),.I (wr IntKind.i64 (Int.tdiv (gI l 1) (gI l 0))),.I (gI l 2),.I (gI l 3),.I (Int.tmod (gI l 1) (gI l 0)),.I (gI l 5),.I (gI l 6),.I (gI l 7),.I (gI l 8),.I (gI l 9),.I (gI l 10),.I (gI l 11),.I (gI l 12),.I (gI l 13)]))
theorem L127_3_99.e2 (fu:Nat):LEq (L127_3_99.O fu) L127_3_99.H 2 (L127_3_99.s2 fu):=by intro τ next κ l;kernel_rfl
def L127_3_99.s3 (fu:Nat) {τ:Type} (next ex:Nat→LS_→Option τ) (l:LS_):Option τ :=
 ck (!((gI l 0)==(0:Int)))
 (ck (!((gI l 0)==(0:Int)))
 (next 4 [.I (gI l 0),.I (wr IntKind.i64 (Int.tdiv (gI l 1) (gI l 0))),.I (gI l 2),.I (gI l 3),.I (gI l 4),.I (Int.tmod (gI l 1) (gI l 0)),.I (gI l 6),.I (gI l 7),.I (gI l 8),.I (gI l 9),.I (gI l 10),.I (gI l 11),.I (gI l 12),.I (gI l 13)]))
theorem L127_3_99.e3 (fu:Nat):LEq (L127_3_99.O fu) L127_3_99.H 3 (L127_3_99.s3 fu):=by intro τ next κ l;kernel_rfl
def L127_3_99.s4 (fu:Nat) {τ:Type} (next ex:Nat→LS_→Option τ) (l:LS_):Option τ :=
 ck (!((gI l 0)==(0:Int)))
 (ck (!((gI l 0)==(0:Int)))
 (next 5 [.I (gI l 0),.I (wr IntKind.i64 (Int.tdiv (gI l 1) (gI l 0))),.I (gI l 2),.I (gI l 3),.I (gI l 4),.I (gI l 5),.I (Int.tmod (gI l 1) (gI l 0)),.I (gI l 7),.I (gI l 8),.I (gI l 9),.I (gI l 10),.I (gI l 11),.I (gI l 12),.I (gI l 13)]))
theorem L127_3_99.e4 (fu:Nat):LEq (L127_3_99.O fu) L127_3_99.H 4 (L127_3_99.s4 fu):=by intro τ next κ l;kernel_rfl
def L127_3_99.s5 (fu:Nat) {τ:Type} (next ex:Nat→LS_→Option τ) (l:LS_):Option τ :=
 ck (!((gI l 0)==(0:Int)))
 (ck (!((gI l 0)==(0:Int)))
 (next 6 [.I (gI l 0),.I (wr IntKind.i64 (Int.tdiv (gI l 1) (gI l 0))),.I (gI l 2),.I (gI l 3),.I (gI l 4),.I (gI l 5),.I (gI l 6),.I (Int.tmod (gI l 1) (gI l 0)),.I (gI l 8),.I (gI l 9),.I (gI l 10),.I (gI l 11),.I (gI l 12),.I (gI l 13)]))
theorem L127_3_99.e5 (fu:Nat):LEq (L127_3_99.O fu) L127_3_99.H 5 (L127_3_99.s5 fu):=by intro τ next κ l;kernel_rfl
def L127_3_99.s6 (fu:Nat) {τ:Type} (next ex:Nat→LS_→Option τ) (l:LS_):Option τ :=
 ck (!((gI l 0)==(0:Int)))
 (ck (!((gI l 0)==(0:Int)))
 (next 7 [.I (gI l 0),.I (wr IntKind.i64 (Int.tdiv (gI l 1) (gI l 0))),.I (gI l 2),.I (gI l 3),.I (gI l 4),.I (gI l 5),.I (gI l 6),.I (gI l 7),.I (Int.tmod (gI l 1) (gI l 0)),.I (gI l 9),.I (gI l 10),.I (gI l 11),.I (gI l 12),.I (gI l 13)]))
theorem L127_3_99.e6 (fu:Nat):LEq (L127_3_99.O fu) L127_3_99.H 6 (L127_3_99.s6 fu):=by intro τ next κ l;kernel_rfl
def L127_3_99.s7 (fu:Nat) {τ:Type} (next ex:Nat→LS_→Option τ) (l:LS_):Option τ :=
 ck (!((gI l 0)==(0:Int)))
 (ck (!((gI l 0)==(0:Int)))
 (next 8 [.I (gI l 0),.I (wr IntKind.i64 (Int.tdiv (gI l 1) (gI l 0))),.I (gI l 2),.I (gI l 3),.I (gI l 4),.I (gI l 5),.I (gI l 6),.I (gI l 7),.I (gI l 8),.I (Int.tmod (gI l 1) (gI l 0)),.I (gI l 10),.I (gI l 11),.I (gI l 12),.I (gI l 13)]))
theorem L127_3_99.e7 (fu:Nat):LEq (L127_3_99.O fu) L127_3_99.H 7 (L127_3_99.s7 fu):=by intro τ next κ l;kernel_rfl
def L127_3_99.s8 (fu:Nat) {τ:Type} (next ex:Nat→LS_→Option τ) (l:LS_):Option τ :=
 ck (!((gI l 0)==(0:Int)))
 (ck (!((gI l 0)==(0:Int)))
 (next 9 [.I (gI l 0),.I (wr IntKind.i64 (Int.tdiv (gI l 1) (gI l 0))),.I (gI l 2),.I (gI l 3),.I (gI l 4),.I (gI l 5),.I (gI l 6),.I (gI l 7),.I (gI l 8),.I (gI l 9),.I (Int.tmod (gI l 1) (gI l 0)),.I (gI l 11),.I (gI l 12),.I (gI l 13)]))
theorem L127_3_99.e8 (fu:Nat):LEq (L127_3_99.O fu) L127_3_99.H 8 (L127_3_99.s8 fu):=by intro τ next κ l;kernel_rfl
def L127_3_99.s9 (fu:Nat) {τ:Type} (next ex:Nat→LS_→Option τ) (l:LS_):Option τ :=
 ck (!((gI l 0)==(0:Int)))
 (ck (!((gI l 0)==(0:Int)))
 (next 10 [.I (gI l 0),.I (wr IntKind.i64 (Int.tdiv (gI l 1) (gI l 0))),.I (gI l 2),.I (gI l 3),.I (gI l 4),.I (gI l 5),.I (gI l 6),.I (gI l 7),.I (gI l 8),.I (gI l 9),.I (gI l 10),.I (Int.tmod (gI l 1) (gI l 0)),.I (gI l 12),.I (gI l 13)]))
theorem L127_3_99.e9 (fu:Nat):LEq (L127_3_99.O fu) L127_3_99.H 9 (L127_3_99.s9 fu):=by intro τ next κ l;kernel_rfl
def L127_3_99.s10 (fu:Nat) {τ:Type} (next ex:Nat→LS_→Option τ) (l:LS_):Option τ :=
 ck (!((gI l 0)==(0:Int)))
 (ck (!((gI l 0)==(0:Int)))
 (next 11 [.I (gI l 0),.I (wr IntKind.i64 (Int.tdiv (gI l 1) (gI l 0))),.I (gI l 2),.I (gI l 3),.I (gI l 4),.I (gI l 5),.I (gI l 6),.I (gI l 7),.I (gI l 8),.I (gI l 9),.I (gI l 10),.I (gI l 11),.I (Int.tmod (gI l 1) (gI l 0)),.I (gI l 13)]))
theorem L127_3_99.e10 (fu:Nat):LEq (L127_3_99.O fu) L127_3_99.H 10 (L127_3_99.s10 fu):=by intro τ next κ l;kernel_rfl
def L127_3_99.s11 (fu:Nat) {τ:Type} (next ex:Nat→LS_→Option τ) (l:LS_):Option τ :=
 ck (!((gI l 0)==(0:Int)))
 (ck (!((gI l 0)==(0:Int)))
 (next 12 [.I (gI l 0),.I (wr IntKind.i64 (Int.tdiv (gI l 1) (gI l 0))),.I (gI l 2),.I (gI l 3),.I (gI l 4),.I (gI l 5),.I (gI l 6),.I (gI l 7),.I (gI l 8),.I (gI l 9),.I (gI l 10),.I (gI l 11),.I (gI l 12),.I (Int.tmod (gI l 1) (gI l 0))]))
theorem L127_3_99.e11 (fu:Nat):LEq (L127_3_99.O fu) L127_3_99.H 11 (L127_3_99.s11 fu):=by intro τ next κ l;kernel_rfl
def L127_3_99.s12 (fu:Nat) {τ:Type} (next ex:Nat→LS_→Option τ) (l:LS_):Option τ :=
 ex 0 [.I (gI l 2),.I (gI l 3),.I (gI l 4),.I (gI l 5),.I (gI l 6),.I (gI l 7),.I (gI l 8),.I (gI l 9),.I (gI l 10),.I (gI l 11),.I (gI l 12),.I (gI l 13)]
theorem L127_3_99.e12 (fu:Nat):LEq (L127_3_99.O fu) L127_3_99.H 12 (L127_3_99.s12 fu):=by intro τ next κ l;kernel_rfl
def L127_3_99 (fu:Nat):LStep P Cf:=LStep.mk13 (by decide) (L127_3_99.e0 fu) (L127_3_99.e1 fu) (L127_3_99.e2 fu) (L127_3_99.e3 fu) (L127_3_99.e4 fu) (L127_3_99.e5 fu) (L127_3_99.e6 fu) (L127_3_99.e7 fu) (L127_3_99.e8 fu) (L127_3_99.e9 fu) (L127_3_99.e10 fu) (L127_3_99.e11 fu) (L127_3_99.e12 fu)
def L127_3_99.b (fu:Nat) {τ:Type} (t:Nat) (l:LS_) (κ:Nat→LS_→Option τ):Option τ:=runE (L127_3_99 fu) fu κ t l
def L127_3_99.E (fu:Nat):LEnt P:=LStep.EN fu (L127_3_99 fu)
def F127_99.ps:List PV2:=[pI,pI]
def F127_99.sh:List PA:=[(PA.mk (PV3.v (PV2.agg [iI,iI,iI,iI,iI,iI,iI,iI,iI,iI,iI,iI])) [])]
def F127_99.O (fu:Nat):Orc P:=⟨[],[(L127_3_99.E fu)],[],40⟩
def F127_99 (fu:Nat) {τ:Type} (l:LS_) (k:Nat→LS_→Option τ):Option τ :=
 (L127_3_99.b fu) 0 [.I (gI l 0),.I (gI l 1),.I (0:Int),.I (0:Int),.I (0:Int),.I (0:Int),.I (0:Int),.I (0:Int),.I (0:Int),.I (0:Int),.I (0:Int),.I (0:Int),.I (0:Int),.I (0:Int)]
 (fun j l2=>(sw (k 0 [.I (gI l2 0),.I (gI l2 1),.I (gI l2 2),.I (gI l2 3),.I (gI l2 4),.I (gI l2 5),.I (gI l2 6),.I (gI l2 7),.I (gI l2 8),.I (gI l2 9),.I (gI l2 10),.I (gI l2 11)])
 (fun _=>none)) j)
theorem F127_99.eq (fu:Nat):FEq (F127_99.O fu) 120 F127_99.ps F127_99.sh (F127_99 fu):=by intro τ l κ;kernel_rfl
def F127_99.E (fu:Nat):Ent P:=mkF (F127_99.eq fu)
def F129_99.ps:List PV2:=[pI,pI]
def F129_99.sh:List PA:=[(PA.mk (PV3.v pI) [])]
def F129_99.O (fu:Nat):Orc P:=⟨[],[],[],40⟩
def F129_99 (fu:Nat) {τ:Type} (l:LS_) (k:Nat→LS_→Option τ):Option τ :=
 ck (!((gI l 1)==(0:Int)))
 (ck (!((gI l 1)==(0:Int)))
 (k 0 [.I (Int.tmod (wr IntKind.i64 ((Int.tmod (gI l 0) (gI l 1))+(gI l 1))) (gI l 1))]))
theorem F129_99.eq (fu:Nat):FEq (F129_99.O fu) 122 F129_99.ps F129_99.sh (F129_99 fu):=by intro τ l κ;kernel_rfl
def F129_99.E (fu:Nat):Ent P:=mkF (F129_99.eq fu)
def L103_5_99.H:LHead:=⟨false,true,0,405509,405509,12583304,136,0,[(PS.mk (us 3 ((pp 0)::us 3 ((pp 1)::(pp 2)::us 13 ((pC (4:Int))::(pC (0:Int))::us 18 [])))) feo1),(PS.mk (us 3 ((pp 0)::us 3 ((pp 1)::(pp 2)::us 13 ((pC (4:Int))::(pC (1:Int))::us 18 [])))) feo1),(PS.mk (us 3 ((pp 0)::us 3 ((pp 1)::(pp 2)::us 13 ((pC (4:Int))::(pC (2:Int))::us 18 [])))) feo1),(PS.mk (us 3 ((pp 0)::us 3 ((pp 1)::(pp 2)::us 13 ((pC (4:Int))::(pC (3:Int))::us 18 [])))) feo1),(PS.mk (us 3 ((pp 0)::us 3 ((pp 1)::(pp 2)::us 13 ((pC (4:Int))::(pC (4:Int))::us 18 [])))) feo1)],[((Out.exit 0),(PS.mk (us 3 ((pp 0)::us 3 ((pp 1)::us 34 []))) feo2))]⟩
def L103_5_99.O (fu:Nat):Orc P:=⟨[(F129_99.E fu)],[],[],40⟩
def L103_5_99.s0 (fu:Nat) {τ:Type} (next ex:Nat→LS_→Option τ) (l:LS_):Option τ :=
 (F129_99 fu) [.I (wr IntKind.i64 ((gI l 3)+(gI l 15))),.I (gI l 0)]
 (fun j l5=>(sw (next 1 [.I (gI l 0),.N (gN l 1),.L (gL l 2),.I (gI l5 0),.I (gI l 4),.I (gI l 5),.I (gI l 6),.I (gI l 7),.I (gI l 8),.I (gI l 9),.I (gI l 10),.I (gI l 11),.I (gI l 12),.I (gI l 13),.I (gI l 14),.I (gI l 15),.I (gI l 16),.I (gI l 17),.I (gI l 18),.I (gI l 19),.I (gI l 20),.I (gI l 21),.I (gI l 22),.I (gI l 23),.I (gI l 24),.I (gI l 25),.I (gI l 26)])
 (fun _=>none)) j)
theorem L103_5_99.e0 (fu:Nat):LEq (L103_5_99.O fu) L103_5_99.H 0 (L103_5_99.s0 fu):=by intro τ next κ l;kernel_rfl
def L103_5_99.s1 (fu:Nat) {τ:Type} (next ex:Nat→LS_→Option τ) (l:LS_):Option τ :=
 (F129_99 fu) [.I (wr IntKind.i64 ((gI l 4)+(gI l 16))),.I (gI l 0)]
 (fun j l6=>(sw (next 2 [.I (gI l 0),.N (gN l 1),.L (gL l 2),.I (gI l 3),.I (gI l6 0),.I (gI l 5),.I (gI l 6),.I (gI l 7),.I (gI l 8),.I (gI l 9),.I (gI l 10),.I (gI l 11),.I (gI l 12),.I (gI l 13),.I (gI l 14),.I (gI l 15),.I (gI l 16),.I (gI l 17),.I (gI l 18),.I (gI l 19),.I (gI l 20),.I (gI l 21),.I (gI l 22),.I (gI l 23),.I (gI l 24),.I (gI l 25),.I (gI l 26)])
 (fun _=>none)) j)
theorem L103_5_99.e1 (fu:Nat):LEq (L103_5_99.O fu) L103_5_99.H 1 (L103_5_99.s1 fu):=by intro τ next κ l;kernel_rfl
def L103_5_99.s2 (fu:Nat) {τ:Type} (next ex:Nat→LS_→Option τ) (l:LS_):Option τ :=
 (F129_99 fu) [.I (wr IntKind.i64 ((gI l 5)+(gI l 17))),.I (gI l 0)]
 (fun j l7=>(sw (next 3 [.I (gI l 0),.N (gN l 1),.L (gL l 2),.I (gI l 3),.I (gI l 4),.I (gI l7 0),.I (gI l 6),.I (gI l 7),.I (gI l 8),.I (gI l 9),.I (gI l 10),.I (gI l 11),.I (gI l 12),.I (gI l 13),.I (gI l 14),.I (gI l 15),.I (gI l 16),.I (gI l 17),.I (gI l 18),.I (gI l 19),.I (gI l 20),.I (gI l 21),.I (gI l 22),.I (gI l 23),.I (gI l 24),.I (gI l 25),.I (gI l 26)])
 (fun _=>none)) j)
theorem L103_5_99.e2 (fu:Nat):LEq (L103_5_99.O fu) L103_5_99.H 2 (L103_5_99.s2 fu):=by intro τ next κ l;kernel_rfl
def L103_5_99.s3 (fu:Nat) {τ:Type} (next ex:Nat→LS_→Option τ) (l:LS_):Option τ :=
 (F129_99 fu) [.I (wr IntKind.i64 ((gI l 6)+(gI l 18))),.I (gI l 0)]
 (fun j l8=>(sw (next 4 [.I (gI l 0),.N (gN l 1),.L (gL l 2),.I (gI l 3),.I (gI l 4),.I (gI l 5),.I (gI l8 0),.I (gI l 7),.I (gI l 8),.I (gI l 9),.I (gI l 10),.I (gI l 11),.I (gI l 12),.I (gI l 13),.I (gI l 14),.I (gI l 15),.I (gI l 16),.I (gI l 17),.I (gI l 18),.I (gI l 19),.I (gI l 20),.I (gI l 21),.I (gI l 22),.I (gI l 23),.I (gI l 24),.I (gI l 25),.I (gI l 26)])
 (fun _=>none)) j)
theorem L103_5_99.e3 (fu:Nat):LEq (L103_5_99.O fu) L103_5_99.H 3 (L103_5_99.s3 fu):=by intro τ next κ l;kernel_rfl
def L103_5_99.s4 (fu:Nat) {τ:Type} (next ex:Nat→LS_→Option τ) (l:LS_):Option τ :=
 ex 0 [.I (gI l 0),.N (gN l 1),.L (gL l 2),.I (gI l 3),.I (gI l 4),.I (gI l 5),.I (gI l 6),.I (gI l 7),.I (gI l 8),.I (gI l 9),.I (gI l 10),.I (gI l 11),.I (gI l 12),.I (gI l 13),.I (gI l 14)]
theorem L103_5_99.e4 (fu:Nat):LEq (L103_5_99.O fu) L103_5_99.H 4 (L103_5_99.s4 fu):=by intro τ next κ l;kernel_rfl
def L103_5_99 (fu:Nat):LStep P Cf:=LStep.mk5 (by decide) (L103_5_99.e0 fu) (L103_5_99.e1 fu) (L103_5_99.e2 fu) (L103_5_99.e3 fu) (L103_5_99.e4 fu)
def L103_5_99.b (fu:Nat) {τ:Type} (t:Nat) (l:LS_) (κ:Nat→LS_→Option τ):Option τ:=runE (L103_5_99 fu) fu κ t l
def L103_5_99.E (fu:Nat):LEnt P:=LStep.EN fu (L103_5_99 fu)
def L130_3_99.H:LHead:=⟨false,true,0,503811,503811,108,32,0,[(PS.mk (us 2 ((pp 0)::(pp 1)::us 1 (pI::(pC (3:Int))::us 16 []))) feo2),(PS.mk (us 2 ((pp 0)::(pp 1)::us 1 (pI::(pC (2:Int))::us 16 []))) feo2),(PS.mk (us 2 ((pp 0)::(pp 1)::us 1 (pI::(pC (1:Int))::us 16 []))) feo2),(PS.mk (us 2 ((pp 0)::(pp 1)::us 1 (pI::(pC (0:Int))::us 16 []))) feo2),(PS.mk (us 2 ((pp 0)::(pp 1)::us 1 (pI::(pC (-(1:Int)))::us 16 []))) feo2)],[((Out.exit 0),(PS.mk (us 5 (pI::us 17 [])) []))]⟩
def L130_3_99.O (fu:Nat):Orc P:=⟨[],[],[],40⟩
def L130_3_99.s0 (fu:Nat) {τ:Type} (next ex:Nat→LS_→Option τ) (l:LS_):Option τ :=
 next 1 [.I (wr IntKind.i64 ((wr IntKind.i64 ((gI l 0)*(gI l 1)))+(gI l 7))),.I (gI l 1),.N (gN l 2),.L (gL l 3),.I (gI l 4),.I (gI l 5),.I (gI l 6),.I (gI l 7),.I (gI l 8),.I (gI l 9),.I (gI l 10),.I (gI l 11),.I (gI l 12),.I (gI l 13),.I (gI l 14),.I (gI l 15)]
theorem L130_3_99.e0 (fu:Nat):LEq (L130_3_99.O fu) L130_3_99.H 0 (L130_3_99.s0 fu):=by intro τ next κ l;kernel_rfl
def L130_3_99.s1 (fu:Nat) {τ:Type} (next ex:Nat→LS_→Option τ) (l:LS_):Option τ :=
 next 2 [.I (wr IntKind.i64 ((wr IntKind.i64 ((gI l 0)*(gI l 1)))+(gI l 6))),.I (gI l 1),.N (gN l 2),.L (gL l 3),.I (gI l 4),.I (gI l 5),.I (gI l 6),.I (gI l 7),.I (gI l 8),.I (gI l 9),.I (gI l 10),.I (gI l 11),.I (gI l 12),.I (gI l 13),.I (gI l 14),.I (gI l 15)]
theorem L130_3_99.e1 (fu:Nat):LEq (L130_3_99.O fu) L130_3_99.H 1 (L130_3_99.s1 fu):=by intro τ next κ l;kernel_rfl
def L130_3_99.s2 (fu:Nat) {τ:Type} (next ex:Nat→LS_→Option τ) (l:LS_):Option τ :=
 next 3 [.I (wr IntKind.i64 ((wr IntKind.i64 ((gI l 0)*(gI l 1)))+(gI l 5))),.I (gI l 1),.N (gN l 2),.L (gL l 3),.I (gI l 4),.I (gI l 5),.I (gI l 6),.I (gI l 7),.I (gI l 8),.I (gI l 9),.I (gI l 10),.I (gI l 11),.I (gI l 12),.I (gI l 13),.I (gI l 14),.I (gI l 15)]
theorem L130_3_99.e2 (fu:Nat):LEq (L130_3_99.O fu) L130_3_99.H 2 (L130_3_99.s2 fu):=by intro τ next κ l;kernel_rfl
def L130_3_99.s3 (fu:Nat) {τ:Type} (next ex:Nat→LS_→Option τ) (l:LS_):Option τ :=
 next 4 [.I (wr IntKind.i64 ((wr IntKind.i64 ((gI l 0)*(gI l 1)))+(gI l 4))),.I (gI l 1),.N (gN l 2),.L (gL l 3),.I (gI l 4),.I (gI l 5),.I (gI l 6),.I (gI l 7),.I (gI l 8),.I (gI l 9),.I (gI l 10),.I (gI l 11),.I (gI l 12),.I (gI l 13),.I (gI l 14),.I (gI l 15)]
theorem L130_3_99.e3 (fu:Nat):LEq (L130_3_99.O fu) L130_3_99.H 3 (L130_3_99.s3 fu):=by intro τ next κ l;kernel_rfl
def L130_3_99.s4 (fu:Nat) {τ:Type} (next ex:Nat→LS_→Option τ) (l:LS_):Option τ :=
 ex 0 [.I (gI l 0)]
theorem L130_3_99.e4 (fu:Nat):LEq (L130_3_99.O fu) L130_3_99.H 4 (L130_3_99.s4 fu):=by intro τ next κ l;kernel_rfl
def L130_3_99 (fu:Nat):LStep P Cf:=LStep.mk5 (by decide) (L130_3_99.e0 fu) (L130_3_99.e1 fu) (L130_3_99.e2 fu) (L130_3_99.e3 fu) (L130_3_99.e4 fu)
def L130_3_99.b (fu:Nat) {τ:Type} (t:Nat) (l:LS_) (κ:Nat→LS_→Option τ):Option τ:=runE (L130_3_99 fu) fu κ t l
def L130_3_99.E (fu:Nat):LEnt P:=LStep.EN fu (L130_3_99 fu)
def F130_99.ps:List PV2:=[(PV2.agg [iI,(PV1.intC IntKind.i64 (4:Int)),aI]),(PV2.agg [iI,iI,iI,iI,iI,iI,iI,iI,iI,iI,iI,iI])]
def F130_99.sh:List PA:=[(PA.mk (PV3.v pI) [])]
def F130_99.O (fu:Nat):Orc P:=⟨[],[(L130_3_99.E fu)],[],40⟩
def F130_99 (fu:Nat) {τ:Type} (l:LS_) (k:Nat→LS_→Option τ):Option τ :=
 (L130_3_99.b fu) 0 [.I (0:Int),.I (gI l 0),.N (List.length (gL l 1)),.L (gL l 1),.I (gI l 2),.I (gI l 3),.I (gI l 4),.I (gI l 5),.I (gI l 6),.I (gI l 7),.I (gI l 8),.I (gI l 9),.I (gI l 10),.I (gI l 11),.I (gI l 12),.I (gI l 13)]
 (fun j l10=>(sw (k 0 [.I (gI l10 0)])
 (fun _=>none)) j)
theorem F130_99.eq (fu:Nat):FEq (F130_99.O fu) 123 F130_99.ps F130_99.sh (F130_99 fu):=by intro τ l κ;kernel_rfl
def F130_99.E (fu:Nat):Ent P:=mkF (F130_99.eq fu)
def F103_99.ps:List PV2:=[(pFieldE (4:Int)),pI,pI]
def F103_99.sh:List PA:=[(PA.mk (PV3.v pI) [])]
def F103_99.O (fu:Nat):Orc P:=⟨[(F128_99.E fu),(F127_99.E fu),(F130_99.E fu)],[(L103_5_99.E fu)],[],40⟩
def F103_99 (fu:Nat) {τ:Type} (l:LS_) (k:Nat→LS_→Option τ):Option τ :=
 ck ((true&&(true&&((eqM (List.length (gL l 1)) (List.length (gL l 1)))&&true)))&&true)
 ((F128_99 fu) [.I (gI l 0),.L (gL l 1)]
 (fun j l1=>(sw (br (!(gB l1 0))
 (k 0 [.I (0:Int)])
 ((F127_99 fu) [.I (gI l 0),.I (gI l 2)]
 (fun j l3=>(sw ((F127_99 fu) [.I (gI l 0),.I (gI l 3)]
 (fun j l4=>(sw ((L103_5_99.b fu) 0 [.I (gI l 0),.N (List.length (gL l 1)),.L (gL l 1),.I (gI l3 0),.I (gI l3 1),.I (gI l3 2),.I (gI l3 3),.I (gI l3 4),.I (gI l3 5),.I (gI l3 6),.I (gI l3 7),.I (gI l3 8),.I (gI l3 9),.I (gI l3 10),.I (gI l3 11),.I (gI l4 0),.I (gI l4 1),.I (gI l4 2),.I (gI l4 3),.I (gI l4 4),.I (gI l4 5),.I (gI l4 6),.I (gI l4 7),.I (gI l4 8),.I (gI l4 9),.I (gI l4 10),.I (gI l4 11)]
 (fun j l9=>(sw (ck ((true&&(true&&((eqM (gN l9 1) (List.length (gL l9 2)))&&true)))&&((true&&(true&&(true&&(true&&(true&&(true&&(true&&(true&&(true&&(true&&(true&&(true&&true))))))))))))&&true))
 ((F130_99 fu) [.I (gI l9 0),.L (gL l9 2),.I (gI l9 3),.I (gI l9 4),.I (gI l9 5),.I (gI l9 6),.I (gI l9 7),.I (gI l9 8),.I (gI l9 9),.I (gI l9 10),.I (gI l9 11),.I (gI l9 12),.I (gI l9 13),.I (gI l9 14)]
 (fun j l11=>(sw (k 0 [.I (gI l11 0)])
 (fun _=>none)) j)))
 (fun _=>none)) j))
 (fun _=>none)) j))
 (fun _=>none)) j)))
 (fun _=>none)) j))
theorem F103_99.eq (fu:Nat):FEq (F103_99.O fu) 99 F103_99.ps F103_99.sh (F103_99 fu):=by intro τ l κ;kernel_rfl
def F103_99.E (fu:Nat):Ent P:=mkF (F103_99.eq fu)
def L113_5_99.H:LHead:=⟨false,true,0,421893,421893,12583304,136,0,[(PS.mk (us 3 ((pp 0)::us 3 ((pp 1)::(pp 2)::us 13 ((pC (4:Int))::(pC (0:Int))::us 18 [])))) feo1),(PS.mk (us 3 ((pp 0)::us 3 ((pp 1)::(pp 2)::us 13 ((pC (4:Int))::(pC (1:Int))::us 18 [])))) feo1),(PS.mk (us 3 ((pp 0)::us 3 ((pp 1)::(pp 2)::us 13 ((pC (4:Int))::(pC (2:Int))::us 18 [])))) feo1),(PS.mk (us 3 ((pp 0)::us 3 ((pp 1)::(pp 2)::us 13 ((pC (4:Int))::(pC (3:Int))::us 18 [])))) feo1),(PS.mk (us 3 ((pp 0)::us 3 ((pp 1)::(pp 2)::us 13 ((pC (4:Int))::(pC (4:Int))::us 18 [])))) feo1)],[((Out.exit 0),(PS.mk (us 3 ((pp 0)::us 3 ((pp 1)::us 34 []))) feo2))]⟩
def L113_5_99.O (fu:Nat):Orc P:=⟨[(F129_99.E fu)],[],[],40⟩
def L113_5_99.s0 (fu:Nat) {τ:Type} (next ex:Nat→LS_→Option τ) (l:LS_):Option τ :=
 (F129_99 fu) [.I (wr IntKind.i64 ((gI l 3)-(gI l 15))),.I (gI l 0)]
 (fun j l15=>(sw (next 1 [.I (gI l 0),.N (gN l 1),.L (gL l 2),.I (gI l15 0),.I (gI l 4),.I (gI l 5),.I (gI l 6),.I (gI l 7),.I (gI l 8),.I (gI l 9),.I (gI l 10),.I (gI l 11),.I (gI l 12),.I (gI l 13),.I (gI l 14),.I (gI l 15),.I (gI l 16),.I (gI l 17),.I (gI l 18),.I (gI l 19),.I (gI l 20),.I (gI l 21),.I (gI l 22),.I (gI l 23),.I (gI l 24),.I (gI l 25),.I (gI l 26)])
 (fun _=>none)) j)
theorem L113_5_99.e0 (fu:Nat):LEq (L113_5_99.O fu) L113_5_99.H 0 (L113_5_99.s0 fu):=by intro τ next κ l;kernel_rfl
def L113_5_99.s1 (fu:Nat) {τ:Type} (next ex:Nat→LS_→Option τ) (l:LS_):Option τ :=
 (F129_99 fu) [.I (wr IntKind.i64 ((gI l 4)-(gI l 16))),.I (gI l 0)]
 (fun j l16=>(sw (next 2 [.I (gI l 0),.N (gN l 1),.L (gL l 2),.I (gI l 3),.I (gI l16 0),.I (gI l 5),.I (gI l 6),.I (gI l 7),.I (gI l 8),.I (gI l 9),.I (gI l 10),.I (gI l 11),.I (gI l 12),.I (gI l 13),.I (gI l 14),.I (gI l 15),.I (gI l 16),.I (gI l 17),.I (gI l 18),.I (gI l 19),.I (gI l 20),.I (gI l 21),.I (gI l 22),.I (gI l 23),.I (gI l 24),.I (gI l 25),.I (gI l 26)])
 (fun _=>none)) j)
theorem L113_5_99.e1 (fu:Nat):LEq (L113_5_99.O fu) L113_5_99.H 1 (L113_5_99.s1 fu):=by intro τ next κ l;kernel_rfl
def L113_5_99.s2 (fu:Nat) {τ:Type} (next ex:Nat→LS_→Option τ) (l:LS_):Option τ :=
 (F129_99 fu) [.I (wr IntKind.i64 ((gI l 5)-(gI l 17))),.I (gI l 0)]
 (fun j l17=>(sw (next 3 [.I (gI l 0),.N (gN l 1),.L (gL l 2),.I (gI l 3),.I (gI l 4),.I (gI l17 0),.I (gI l 6),.I (gI l 7),.I (gI l 8),.I (gI l 9),.I (gI l 10),.I (gI l 11),.I (gI l 12),.I (gI l 13),.I (gI l 14),.I (gI l 15),.I (gI l 16),.I (gI l 17),.I (gI l 18),.I (gI l 19),.I (gI l 20),.I (gI l 21),.I (gI l 22),.I (gI l 23),.I (gI l 24),.I (gI l 25),.I (gI l 26)])
 (fun _=>none)) j)
theorem L113_5_99.e2 (fu:Nat):LEq (L113_5_99.O fu) L113_5_99.H 2 (L113_5_99.s2 fu):=by intro τ next κ l;kernel_rfl
def L113_5_99.s3 (fu:Nat) {τ:Type} (next ex:Nat→LS_→Option τ) (l:LS_):Option τ :=
 (F129_99 fu) [.I (wr IntKind.i64 ((gI l 6)-(gI l 18))),.I (gI l 0)]
 (fun j l18=>(sw (next 4 [.I (gI l 0),.N (gN l 1),.L (gL l 2),.I (gI l 3),.I (gI l 4),.I (gI l 5),.I (gI l18 0),.I (gI l 7),.I (gI l 8),.I (gI l 9),.I (gI l 10),.I (gI l 11),.I (gI l 12),.I (gI l 13),.I (gI l 14),.I (gI l 15),.I (gI l 16),.I (gI l 17),.I (gI l 18),.I (gI l 19),.I (gI l 20),.I (gI l 21),.I (gI l 22),.I (gI l 23),.I (gI l 24),.I (gI l 25),.I (gI l 26)])
 (fun _=>none)) j)
theorem L113_5_99.e3 (fu:Nat):LEq (L113_5_99.O fu) L113_5_99.H 3 (L113_5_99.s3 fu):=by intro τ next κ l;kernel_rfl
def L113_5_99.s4 (fu:Nat) {τ:Type} (next ex:Nat→LS_→Option τ) (l:LS_):Option τ :=
 ex 0 [.I (gI l 0),.N (gN l 1),.L (gL l 2),.I (gI l 3),.I (gI l 4),.I (gI l 5),.I (gI l 6),.I (gI l 7),.I (gI l 8),.I (gI l 9),.I (gI l 10),.I (gI l 11),.I (gI l 12),.I (gI l 13),.I (gI l 14)]
theorem L113_5_99.e4 (fu:Nat):LEq (L113_5_99.O fu) L113_5_99.H 4 (L113_5_99.s4 fu):=by intro τ next κ l;kernel_rfl
def L113_5_99 (fu:Nat):LStep P Cf:=LStep.mk5 (by decide) (L113_5_99.e0 fu) (L113_5_99.e1 fu) (L113_5_99.e2 fu) (L113_5_99.e3 fu) (L113_5_99.e4 fu)
def L113_5_99.b (fu:Nat) {τ:Type} (t:Nat) (l:LS_) (κ:Nat→LS_→Option τ):Option τ:=runE (L113_5_99 fu) fu κ t l
def L113_5_99.E (fu:Nat):LEnt P:=LStep.EN fu (L113_5_99 fu)
def F113_99.ps:List PV2:=[(PV2.agg [iI,(PV1.intC IntKind.i64 (4:Int)),aI]),(pC (0:Int)),pI]
def F113_99.sh:List PA:=[(PA.mk (PV3.v pI) [])]
def F113_99.O (fu:Nat):Orc P:=⟨[(F128_99.E fu),(F127_99.E fu),(F130_99.E fu)],[(L113_5_99.E fu)],[],40⟩
def F113_99 (fu:Nat) {τ:Type} (l:LS_) (k:Nat→LS_→Option τ):Option τ :=
 ck ((true&&(true&&((eqM (List.length (gL l 1)) (List.length (gL l 1)))&&true)))&&true)
 ((F128_99 fu) [.I (gI l 0),.L (gL l 1)]
 (fun j l12=>(sw (br (!(gB l12 0))
 (k 0 [.I (0:Int)])
 ((F127_99 fu) [.I (gI l 0),.I (0:Int)]
 (fun j l13=>(sw ((F127_99 fu) [.I (gI l 0),.I (gI l 2)]
 (fun j l14=>(sw ((L113_5_99.b fu) 0 [.I (gI l 0),.N (List.length (gL l 1)),.L (gL l 1),.I (gI l13 0),.I (gI l13 1),.I (gI l13 2),.I (gI l13 3),.I (gI l13 4),.I (gI l13 5),.I (gI l13 6),.I (gI l13 7),.I (gI l13 8),.I (gI l13 9),.I (gI l13 10),.I (gI l13 11),.I (gI l14 0),.I (gI l14 1),.I (gI l14 2),.I (gI l14 3),.I (gI l14 4),.I (gI l14 5),.I (gI l14 6),.I (gI l14 7),.I (gI l14 8),.I (gI l14 9),.I (gI l14 10),.I (gI l14 11)]
 (fun j l19=>(sw (ck ((true&&(true&&((eqM (gN l19 1) (List.length (gL l19 2)))&&true)))&&((true&&(true&&(true&&(true&&(true&&(true&&(true&&(true&&(true&&(true&&(true&&(true&&true))))))))))))&&true))
 ((F130_99 fu) [.I (gI l19 0),.L (gL l19 2),.I (gI l19 3),.I (gI l19 4),.I (gI l19 5),.I (gI l19 6),.I (gI l19 7),.I (gI l19 8),.I (gI l19 9),.I (gI l19 10),.I (gI l19 11),.I (gI l19 12),.I (gI l19 13),.I (gI l19 14)]
 (fun j l20=>(sw (k 0 [.I (gI l20 0)])
 (fun _=>none)) j)))
 (fun _=>none)) j))
 (fun _=>none)) j))
 (fun _=>none)) j)))
 (fun _=>none)) j))
theorem F113_99.eq (fu:Nat):FEq (F113_99.O fu) 103 F113_99.ps F113_99.sh (F113_99 fu):=by intro τ l κ;kernel_rfl
def F113_99.E (fu:Nat):Ent P:=mkF (F113_99.eq fu)
def F83_99.ps:List PV2:=[(pFieldE (4:Int)),pI]
def F83_99.sh:List PA:=[(PA.mk (PV3.v pI) [])]
def F83_99.O (fu:Nat):Orc P:=⟨[(F113_99.E fu)],[],[],40⟩
def F83_99 (fu:Nat) {τ:Type} (l:LS_) (k:Nat→LS_→Option τ):Option τ :=
 ck ((true&&(true&&((eqM (List.length (gL l 1)) (List.length (gL l 1)))&&true)))&&(true&&(true&&true)))
 ((F113_99 fu) [.I (gI l 0),.L (gL l 1),.I (gI l 2)]
 (fun j l21=>(sw (k 0 [.I (gI l21 0)])
 (fun _=>none)) j))
theorem F83_99.eq (fu:Nat):FEq (F83_99.O fu) 72 F83_99.ps F83_99.sh (F83_99 fu):=by intro τ l κ;kernel_rfl
def F83_99.E (fu:Nat):Ent P:=mkF (F83_99.eq fu)
def L104_9_1_99.H:LHead:=⟨false,false,7,0,380937,3976,1928,0,[(PS.mk (us 3 ((pp 0)::us 3 ((pp 1)::(pp 2)::pI::pI::(pC (3:Int))::us 62 []))) feo3),(PS.mk (us 3 ((pp 0)::us 3 ((pp 1)::(pp 2)::pI::pI::(pC (2:Int))::us 62 []))) feo3),(PS.mk (us 3 ((pp 0)::us 3 ((pp 1)::(pp 2)::pI::pI::(pC (1:Int))::us 62 []))) feo3),(PS.mk (us 3 ((pp 0)::us 3 ((pp 1)::(pp 2)::pI::pI::(pC (0:Int))::us 62 []))) feo3)],[((Out.exit 2),(PS.mk (us 3 ((pp 0)::us 3 ((pp 1)::(pp 2)::pI::pI::us 63 []))) feo3))]⟩
def L104_9_1_99.O (fu:Nat):Orc P:=⟨[],[],[],40⟩
def L104_9_1_99.s0 (fu:Nat) {τ:Type} (next ex:Nat→LS_→Option τ) (l:LS_):Option τ :=
 next 1 [.I (gI l 0),.I (gI l 1),.I (gI l 2),.N (gN l 3),.L (gL l 4),.I (gI l 5),.I (gI l 6),.I (gI l 7),.I (gI l 8),.I (gI l 9),.I (gI l 10),.I (gI l 11),.I (gI l 12),.I (gI l 13),.I (gI l 14),.I (gI l 15),.I (gI l 16),.I (gI l 17),.I (gI l 18),.I (gI l 19),.I (gI l 19),.I (gI l 21),.N (gN l 22),.L (gL l 23),.I (gI l 24),.I (gI l 25),.N (gN l 26),.L (gL l 27),.I (gI l 28),.I (gI l 29),.I (gI l 30),.N (gN l 31),.L (gL l 32),.B (gB l 33),.I (gI l 34),.I (gI l 35),.I (gI l 36),.I (gI l 37),.I (gI l 38),.I (gI l 39),.I (gI l 40),.I (gI l 41),.I (gI l 42),.I (gI l 43),.I (gI l 44),.I (gI l 45),.I (gI l 46),.I (gI l 47),.I (gI l 48),.N (gN l 49),.L (gL l 50),.I (gI l 51),.I (gI l 52),.I (gI l 53),.I (gI l 54),.I (gI l 55),.I (gI l 56),.I (gI l 57),.I (gI l 58),.I (gI l 59),.I (gI l 60),.I (gI l 61),.I (gI l 62),.I (gI l 63)]
theorem L104_9_1_99.e0 (fu:Nat):LEq (L104_9_1_99.O fu) L104_9_1_99.H 0 (L104_9_1_99.s0 fu):=by intro τ next κ l;kernel_rfl
def L104_9_1_99.s1 (fu:Nat) {τ:Type} (next ex:Nat→LS_→Option τ) (l:LS_):Option τ :=
 next 2 [.I (gI l 0),.I (gI l 1),.I (gI l 2),.N (gN l 3),.L (gL l 4),.I (gI l 5),.I (gI l 6),.I (gI l 7),.I (gI l 8),.I (gI l 9),.I (gI l 10),.I (gI l 11),.I (gI l 12),.I (gI l 13),.I (gI l 14),.I (gI l 15),.I (gI l 16),.I (gI l 17),.I (gI l 18),.I (gI l 18),.I (gI l 20),.I (gI l 21),.N (gN l 22),.L (gL l 23),.I (gI l 24),.I (gI l 25),.N (gN l 26),.L (gL l 27),.I (gI l 28),.I (gI l 29),.I (gI l 30),.N (gN l 31),.L (gL l 32),.B (gB l 33),.I (gI l 34),.I (gI l 35),.I (gI l 36),.I (gI l 37),.I (gI l 38),.I (gI l 39),.I (gI l 40),.I (gI l 41),.I (gI l 42),.I (gI l 43),.I (gI l 44),.I (gI l 45),.I (gI l 46),.I (gI l 47),.I (gI l 48),.N (gN l 49),.L (gL l 50),.I (gI l 51),.I (gI l 52),.I (gI l 53),.I (gI l 54),.I (gI l 55),.I (gI l 56),.I (gI l 57),.I (gI l 58),.I (gI l 59),.I (gI l 60),.I (gI l 61),.I (gI l 62),.I (gI l 63)]
theorem L104_9_1_99.e1 (fu:Nat):LEq (L104_9_1_99.O fu) L104_9_1_99.H 1 (L104_9_1_99.s1 fu):=by intro τ next κ l;kernel_rfl
def L104_9_1_99.s2 (fu:Nat) {τ:Type} (next ex:Nat→LS_→Option τ) (l:LS_):Option τ :=
 next 3 [.I (gI l 0),.I (gI l 1),.I (gI l 2),.N (gN l 3),.L (gL l 4),.I (gI l 5),.I (gI l 6),.I (gI l 7),.I (gI l 8),.I (gI l 9),.I (gI l 10),.I (gI l 11),.I (gI l 12),.I (gI l 13),.I (gI l 14),.I (gI l 15),.I (gI l 16),.I (gI l 17),.I (gI l 17),.I (gI l 19),.I (gI l 20),.I (gI l 21),.N (gN l 22),.L (gL l 23),.I (gI l 24),.I (gI l 25),.N (gN l 26),.L (gL l 27),.I (gI l 28),.I (gI l 29),.I (gI l 30),.N (gN l 31),.L (gL l 32),.B (gB l 33),.I (gI l 34),.I (gI l 35),.I (gI l 36),.I (gI l 37),.I (gI l 38),.I (gI l 39),.I (gI l 40),.I (gI l 41),.I (gI l 42),.I (gI l 43),.I (gI l 44),.I (gI l 45),.I (gI l 46),.I (gI l 47),.I (gI l 48),.N (gN l 49),.L (gL l 50),.I (gI l 51),.I (gI l 52),.I (gI l 53),.I (gI l 54),.I (gI l 55),.I (gI l 56),.I (gI l 57),.I (gI l 58),.I (gI l 59),.I (gI l 60),.I (gI l 61),.I (gI l 62),.I (gI l 63)]
theorem L104_9_1_99.e2 (fu:Nat):LEq (L104_9_1_99.O fu) L104_9_1_99.H 2 (L104_9_1_99.s2 fu):=by intro τ next κ l;kernel_rfl
def L104_9_1_99.s3 (fu:Nat) {τ:Type} (next ex:Nat→LS_→Option τ) (l:LS_):Option τ :=
 ex 0 [.I (gI l 0),.I (gI l 1),.I (gI l 2),.N (gN l 3),.L (gL l 4),.I (gI l 5),.I (gI l 6),.I (gI l 7),.I (gI l 8),.I (gI l 9),.I (gI l 10),.I (gI l 11),.I (gI l 12),.I (gI l 13),.I (gI l 14),.I (gI l 15),.I (gI l 16),.I (gI l 17),.I (gI l 18),.I (gI l 19),.I (gI l 20),.I (gI l 21),.N (gN l 22),.L (gL l 23),.I (gI l 24),.I (gI l 25),.N (gN l 26),.L (gL l 27),.I (gI l 28),.I (gI l 29),.I (gI l 30),.N (gN l 31),.L (gL l 32),.B (gB l 33),.I (gI l 34),.I (gI l 35),.I (gI l 36),.I (gI l 37),.I (gI l 38),.I (gI l 39),.I (gI l 40),.I (gI l 41),.I (gI l 42),.I (gI l 43),.I (gI l 44),.I (gI l 45),.I (gI l 46),.I (gI l 47),.I (gI l 48),.N (gN l 49),.L (gL l 50),.I (gI l 51),.I (gI l 52),.I (gI l 53),.I (gI l 54),.I (gI l 55),.I (gI l 56),.I (gI l 57),.I (gI l 58),.I (gI l 59),.I (gI l 60),.I (gI l 61),.I (gI l 62),.I (gI l 63)]
theorem L104_9_1_99.e3 (fu:Nat):LEq (L104_9_1_99.O fu) L104_9_1_99.H 3 (L104_9_1_99.s3 fu):=by intro τ next κ l;kernel_rfl
def L104_9_1_99 (fu:Nat):LStep P Cf:=LStep.mk4 (by decide) (L104_9_1_99.e0 fu) (L104_9_1_99.e1 fu) (L104_9_1_99.e2 fu) (L104_9_1_99.e3 fu)
def L104_9_1_99.b (fu:Nat) {τ:Type} (t:Nat) (l:LS_) (κ:Nat→LS_→Option τ):Option τ:=runE (L104_9_1_99 fu) fu κ t l
def L104_9_1_99.E (fu:Nat):LEnt P:=LStep.EN fu (L104_9_1_99 fu)
def L104_14_1_99.H:LHead:=⟨false,false,7,0,380942,52776558135176,0,0,[(PS.mk (us 3 ((pp 0)::us 3 ((pp 1)::(pp 2)::pI::pI::us 33 ((pC (4:Int))::(pC (0:Int))::us 28 [])))) feo3),(PS.mk (us 3 ((pp 0)::us 3 ((pp 1)::(pp 2)::pI::pI::us 33 ((pC (4:Int))::(pC (1:Int))::us 28 [])))) feo3),(PS.mk (us 3 ((pp 0)::us 3 ((pp 1)::(pp 2)::pI::pI::us 33 ((pC (4:Int))::(pC (2:Int))::us 28 [])))) feo3),(PS.mk (us 3 ((pp 0)::us 3 ((pp 1)::(pp 2)::pI::pI::us 33 ((pC (4:Int))::(pC (3:Int))::us 28 [])))) feo3),(PS.mk (us 3 ((pp 0)::us 3 ((pp 1)::(pp 2)::pI::pI::us 33 ((pC (4:Int))::(pC (4:Int))::us 28 [])))) feo3)],[((Out.exit 4),(PS.mk (us 74 []) feo3))]⟩
def L104_14_1_99.O (fu:Nat):Orc P:=⟨[(F129_99.E fu)],[],[],40⟩
def L104_14_1_99.s0 (fu:Nat) {τ:Type} (next ex:Nat→LS_→Option τ) (l:LS_):Option τ :=
 ck ((true&&(ltI (0:Int) (((gN l 3):Nat):Int)))&&true)
 (ck (ltN 0 (List.length (gL l 4)))
 ((F129_99 fu) [.I (wr IntKind.i64 ((wr IntKind.i64 ((gI l 17)-(wr IntKind.i64 ((gI l 1)*(List.getD (gL l 4) 0 (0:Int))))))+(wr IntKind.i64 ((gI l 0)*(gI l 5))))),.I (gI l 2)]
 (fun j l43=>(sw (next 1 [.I (gI l 0),.I (gI l 1),.I (gI l 2),.N (gN l 3),.L (gL l 4),.I (gI l 5),.I (gI l 6),.I (gI l 7),.I (gI l 8),.I (gI l 9),.I (gI l 10),.I (gI l 11),.I (gI l 12),.I (gI l 13),.I (gI l 14),.I (gI l 15),.I (gI l 16),.I (gI l43 0),.I (gI l 18),.I (gI l 19),.I (gI l 20),.I (gI l 21),.N (gN l 22),.L (gL l 23),.I (gI l 24),.I (gI l 25),.N (gN l 26),.L (gL l 27),.I (gI l 28),.I (gI l 29),.I (gI l 30),.N (gN l 31),.L (gL l 32),.B (gB l 33),.I (gI l 34),.I (gI l 35),.I (gI l 36),.I (gI l 37),.I (gI l 38),.I (gI l 39),.I (gI l 40),.I (gI l 41),.I (gI l 42),.I (gI l 43),.I (gI l 44),.I (gI l 45),.I (gI l 46),.I (gI l 47),.I (gI l 48),.N (gN l 49),.L (gL l 50),.I (gI l 51),.I (gI l 52),.I (gI l 53),.I (gI l 54),.I (gI l 55),.I (gI l 56),.I (gI l 57),.I (gI l 58),.I (gI l 59),.I (gI l 60),.I (gI l 61),.I (gI l 62),.I (gI l 63)])
 (fun _=>none)) j)))
theorem L104_14_1_99.e0 (fu:Nat):LEq (L104_14_1_99.O fu) L104_14_1_99.H 0 (L104_14_1_99.s0 fu):=by intro τ next κ l;kernel_rfl
def L104_14_1_99.s1 (fu:Nat) {τ:Type} (next ex:Nat→LS_→Option τ) (l:LS_):Option τ :=
 ck ((true&&(ltI (1:Int) (((gN l 3):Nat):Int)))&&true)
 (ck (ltN 1 (List.length (gL l 4)))
 ((F129_99 fu) [.I (wr IntKind.i64 ((wr IntKind.i64 ((gI l 18)-(wr IntKind.i64 ((gI l 1)*(List.getD (gL l 4) 1 (0:Int))))))+(wr IntKind.i64 ((gI l 0)*(gI l 6))))),.I (gI l 2)]
 (fun j l44=>(sw (next 2 [.I (gI l 0),.I (gI l 1),.I (gI l 2),.N (gN l 3),.L (gL l 4),.I (gI l 5),.I (gI l 6),.I (gI l 7),.I (gI l 8),.I (gI l 9),.I (gI l 10),.I (gI l 11),.I (gI l 12),.I (gI l 13),.I (gI l 14),.I (gI l 15),.I (gI l 16),.I (gI l 17),.I (gI l44 0),.I (gI l 19),.I (gI l 20),.I (gI l 21),.N (gN l 22),.L (gL l 23),.I (gI l 24),.I (gI l 25),.N (gN l 26),.L (gL l 27),.I (gI l 28),.I (gI l 29),.I (gI l 30),.N (gN l 31),.L (gL l 32),.B (gB l 33),.I (gI l 34),.I (gI l 35),.I (gI l 36),.I (gI l 37),.I (gI l 38),.I (gI l 39),.I (gI l 40),.I (gI l 41),.I (gI l 42),.I (gI l 43),.I (gI l 44),.I (gI l 45),.I (gI l 46),.I (gI l 47),.I (gI l 48),.N (gN l 49),.L (gL l 50),.I (gI l 51),.I (gI l 52),.I (gI l 53),.I (gI l 54),.I (gI l 55),.I (gI l 56),.I (gI l 57),.I (gI l 58),.I (gI l 59),.I (gI l 60),.I (gI l 61),.I (gI l 62),.I (gI l 63)])
 (fun _=>none)) j)))
theorem L104_14_1_99.e1 (fu:Nat):LEq (L104_14_1_99.O fu) L104_14_1_99.H 1 (L104_14_1_99.s1 fu):=by intro τ next κ l;kernel_rfl
def L104_14_1_99.s2 (fu:Nat) {τ:Type} (next ex:Nat→LS_→Option τ) (l:LS_):Option τ :=
 ck ((true&&(ltI (2:Int) (((gN l 3):Nat):Int)))&&true)
 (ck (ltN 2 (List.length (gL l 4)))
 ((F129_99 fu) [.I (wr IntKind.i64 ((wr IntKind.i64 ((gI l 19)-(wr IntKind.i64 ((gI l 1)*(List.getD (gL l 4) 2 (0:Int))))))+(wr IntKind.i64 ((gI l 0)*(gI l 7))))),.I (gI l 2)]
 (fun j l45=>(sw (next 3 [.I (gI l 0),.I (gI l 1),.I (gI l 2),.N (gN l 3),.L (gL l 4),.I (gI l 5),.I (gI l 6),.I (gI l 7),.I (gI l 8),.I (gI l 9),.I (gI l 10),.I (gI l 11),.I (gI l 12),.I (gI l 13),.I (gI l 14),.I (gI l 15),.I (gI l 16),.I (gI l 17),.I (gI l 18),.I (gI l45 0),.I (gI l 20),.I (gI l 21),.N (gN l 22),.L (gL l 23),.I (gI l 24),.I (gI l 25),.N (gN l 26),.L (gL l 27),.I (gI l 28),.I (gI l 29),.I (gI l 30),.N (gN l 31),.L (gL l 32),.B (gB l 33),.I (gI l 34),.I (gI l 35),.I (gI l 36),.I (gI l 37),.I (gI l 38),.I (gI l 39),.I (gI l 40),.I (gI l 41),.I (gI l 42),.I (gI l 43),.I (gI l 44),.I (gI l 45),.I (gI l 46),.I (gI l 47),.I (gI l 48),.N (gN l 49),.L (gL l 50),.I (gI l 51),.I (gI l 52),.I (gI l 53),.I (gI l 54),.I (gI l 55),.I (gI l 56),.I (gI l 57),.I (gI l 58),.I (gI l 59),.I (gI l 60),.I (gI l 61),.I (gI l 62),.I (gI l 63)])
 (fun _=>none)) j)))
theorem L104_14_1_99.e2 (fu:Nat):LEq (L104_14_1_99.O fu) L104_14_1_99.H 2 (L104_14_1_99.s2 fu):=by intro τ next κ l;kernel_rfl
def L104_14_1_99.s3 (fu:Nat) {τ:Type} (next ex:Nat→LS_→Option τ) (l:LS_):Option τ :=
 ck ((true&&(ltI (3:Int) (((gN l 3):Nat):Int)))&&true)
 (ck (ltN 3 (List.length (gL l 4)))
 ((F129_99 fu) [.I (wr IntKind.i64 ((wr IntKind.i64 ((gI l 20)-(wr IntKind.i64 ((gI l 1)*(List.getD (gL l 4) 3 (0:Int))))))+(wr IntKind.i64 ((gI l 0)*(gI l 8))))),.I (gI l 2)]
 (fun j l46=>(sw (next 4 [.I (gI l 0),.I (gI l 1),.I (gI l 2),.N (gN l 3),.L (gL l 4),.I (gI l 5),.I (gI l 6),.I (gI l 7),.I (gI l 8),.I (gI l 9),.I (gI l 10),.I (gI l 11),.I (gI l 12),.I (gI l 13),.I (gI l 14),.I (gI l 15),.I (gI l 16),.I (gI l 17),.I (gI l 18),.I (gI l 19),.I (gI l46 0),.I (gI l 21),.N (gN l 22),.L (gL l 23),.I (gI l 24),.I (gI l 25),.N (gN l 26),.L (gL l 27),.I (gI l 28),.I (gI l 29),.I (gI l 30),.N (gN l 31),.L (gL l 32),.B (gB l 33),.I (gI l 34),.I (gI l 35),.I (gI l 36),.I (gI l 37),.I (gI l 38),.I (gI l 39),.I (gI l 40),.I (gI l 41),.I (gI l 42),.I (gI l 43),.I (gI l 44),.I (gI l 45),.I (gI l 46),.I (gI l 47),.I (gI l 48),.N (gN l 49),.L (gL l 50),.I (gI l 51),.I (gI l 52),.I (gI l 53),.I (gI l 54),.I (gI l 55),.I (gI l 56),.I (gI l 57),.I (gI l 58),.I (gI l 59),.I (gI l 60),.I (gI l 61),.I (gI l 62),.I (gI l 63)])
 (fun _=>none)) j)))
theorem L104_14_1_99.e3 (fu:Nat):LEq (L104_14_1_99.O fu) L104_14_1_99.H 3 (L104_14_1_99.s3 fu):=by intro τ next κ l;kernel_rfl
def L104_14_1_99.s4 (fu:Nat) {τ:Type} (next ex:Nat→LS_→Option τ) (l:LS_):Option τ :=
 ex 0 [.I (gI l 2),.N (gN l 3),.L (gL l 4),.I (gI l 5),.I (gI l 6),.I (gI l 7),.I (gI l 8),.I (gI l 9),.I (gI l 10),.I (gI l 11),.I (gI l 12),.I (gI l 13),.I (gI l 14),.I (gI l 15),.I (gI l 16),.I (gI l 17),.I (gI l 18),.I (gI l 19),.I (gI l 20),.I (gI l 21),.N (gN l 22),.L (gL l 23),.I (gI l 24),.I (gI l 25),.N (gN l 26),.L (gL l 27),.I (gI l 28),.I (gI l 29),.I (gI l 30),.N (gN l 31),.L (gL l 32),.B (gB l 33),.I (gI l 34),.I (gI l 35),.I (gI l 36),.I (gI l 37),.I (gI l 38),.I (gI l 39),.I (gI l 40),.I (gI l 41),.I (gI l 42),.I (gI l 43),.I (gI l 44),.I (gI l 45),.I (gI l 46),.I (gI l 47),.I (gI l 48),.N (gN l 49),.L (gL l 50),.I (gI l 51),.I (gI l 52),.I (gI l 53),.I (gI l 54),.I (gI l 55),.I (gI l 56),.I (gI l 57),.I (gI l 58),.I (gI l 59),.I (gI l 60),.I (gI l 61),.I (gI l 62),.I (gI l 63)]
theorem L104_14_1_99.e4 (fu:Nat):LEq (L104_14_1_99.O fu) L104_14_1_99.H 4 (L104_14_1_99.s4 fu):=by intro τ next κ l;kernel_rfl
def L104_14_1_99 (fu:Nat):LStep P Cf:=LStep.mk5 (by decide) (L104_14_1_99.e0 fu) (L104_14_1_99.e1 fu) (L104_14_1_99.e2 fu) (L104_14_1_99.e3 fu) (L104_14_1_99.e4 fu)
def L104_14_1_99.b (fu:Nat) {τ:Type} (t:Nat) (l:LS_) (κ:Nat→LS_→Option τ):Option τ:=runE (L104_14_1_99 fu) fu κ t l
def L104_14_1_99.E (fu:Nat):LEnt P:=LStep.EN fu (L104_14_1_99 fu)
def L138_2_99.H:LHead:=⟨false,false,7,573442,573442,49,0,0,[(PS.mk ((PV2.v (PV1.yld 5))::us 3 ((pp 6)::(pC (3:Int))::us 17 [])) feo4),(PS.mk ((PV2.v (PV1.yld 5))::us 3 ((pp 6)::(pC (2:Int))::us 17 [])) feo4),(PS.mk ((PV2.v (PV1.yld 5))::us 3 ((pp 6)::(pC (1:Int))::us 17 [])) feo4),(PS.mk ((PV2.v (PV1.yld 5))::us 3 ((pp 6)::(pC (0:Int))::us 17 [])) feo4),(PS.mk ((PV2.v (PV1.yld 5))::us 3 ((pp 6)::(pC (-(1:Int)))::us 17 [])) feo4)],[((Out.exit 0),(PS.mk (us 23 []) feo4))]⟩
def L138_2_99.O (fu:Nat):Orc P:=⟨[],[(L104_9_1_99.E fu),(L104_14_1_99.E fu)],[],40⟩
def L138_2_99.s0 (fu:Nat) {τ:Type} (next ex:Nat→LS_→Option τ) (l:LS_):Option τ :=
 (L104_9_1_99.b fu) 0 [.I (gI l 53),.I (gI l 18),.I (gI l 0),.N (gN l 1),.L (gL l 2),.I (gI l 3),.I (gI l 4),.I (gI l 5),.I (gI l 6),.I (gI l 7),.I (gI l 8),.I (gI l 9),.I (gI l 10),.I (gI l 11),.I (gI l 12),.I (gI l 13),.I (gI l 14),.I (gI l 15),.I (gI l 16),.I (gI l 17),.I (gI l 18),.I (gI l 19),.N (gN l 20),.L (gL l 21),.I (gI l 22),.I (gI l 23),.N (gN l 24),.L (gL l 25),.I (gI l 26),.I (gI l 27),.I (gI l 28),.N (gN l 29),.L (gL l 30),.B (gB l 31),.I (gI l 32),.I (gI l 33),.I (gI l 34),.I (gI l 35),.I (gI l 36),.I (gI l 37),.I (gI l 38),.I (gI l 39),.I (gI l 40),.I (gI l 41),.I (gI l 42),.I (gI l 43),.I (gI l 44),.I (gI l 45),.I (gI l 46),.N (gN l 47),.L (gL l 48),.I (gI l 49),.I (gI l 50),.I (gI l 51),.I (gI l 52),.I (gI l 53),.I (gI l 54),.I (gI l 55),.I (gI l 56),.I (gI l 57),.I (gI l 58),.I (gI l 59),.I (gI l 60),.I (gI l 61)]
 (fun j l41=>(sw ((L104_14_1_99.b fu) 0 [.I (gI l41 0),.I (gI l41 1),.I (gI l41 2),.N (gN l41 3),.L (gL l41 4),.I (gI l41 5),.I (gI l41 6),.I (gI l41 7),.I (gI l41 8),.I (gI l41 9),.I (gI l41 10),.I (gI l41 11),.I (gI l41 12),.I (gI l41 13),.I (gI l41 14),.I (gI l41 15),.I (gI l41 16),.I (0:Int),.I (gI l41 18),.I (gI l41 19),.I (gI l41 20),.I (gI l41 21),.N (gN l41 22),.L (gL l41 23),.I (gI l41 24),.I (gI l41 25),.N (gN l41 26),.L (gL l41 27),.I (gI l41 28),.I (gI l41 29),.I (gI l41 30),.N (gN l41 31),.L (gL l41 32),.B (gB l41 33),.I (gI l41 34),.I (gI l41 35),.I (gI l41 36),.I (gI l41 37),.I (gI l41 38),.I (gI l41 39),.I (gI l41 40),.I (gI l41 41),.I (gI l41 42),.I (gI l41 43),.I (gI l41 44),.I (gI l41 45),.I (gI l41 46),.I (gI l41 47),.I (gI l41 48),.N (gN l41 49),.L (gL l41 50),.I (gI l41 51),.I (gI l41 52),.I (gI l41 53),.I (gI l41 54),.I (gI l41 55),.I (gI l41 56),.I (gI l41 57),.I (gI l41 58),.I (gI l41 59),.I (gI l41 60),.I (gI l41 61),.I (gI l41 62),.I (gI l41 63)]
 (fun j l47=>(sw (next 1 [.I (gI l47 0),.N (gN l47 1),.L (gL l47 2),.I (gI l47 3),.I (gI l47 4),.I (gI l47 5),.I (gI l47 6),.I (gI l47 7),.I (gI l47 8),.I (gI l47 9),.I (gI l47 10),.I (gI l47 11),.I (gI l47 12),.I (gI l47 13),.I (gI l47 14),.I (gI l47 15),.I (gI l47 16),.I (gI l47 17),.I (gI l47 18),.I (gI l47 19),.N (gN l47 20),.L (gL l47 21),.I (gI l47 22),.I (gI l47 23),.N (gN l47 24),.L (gL l47 25),.I (gI l47 26),.I (gI l47 27),.I (gI l47 28),.N (gN l47 29),.L (gL l47 30),.B (gB l47 31),.I (gI l47 32),.I (gI l47 33),.I (gI l47 34),.I (gI l47 35),.I (gI l47 36),.I (gI l47 37),.I (gI l47 38),.I (gI l47 39),.I (gI l47 40),.I (gI l47 41),.I (gI l47 42),.I (gI l47 43),.I (gI l47 44),.I (gI l47 45),.I (gI l47 46),.N (gN l47 47),.L (gL l47 48),.I (gI l47 49),.I (gI l47 50),.I (gI l47 51),.I (gI l47 52),.I (gI l47 53),.I (gI l47 54),.I (gI l47 55),.I (gI l47 56),.I (gI l47 57),.I (gI l47 58),.I (gI l47 59),.I (gI l47 60),.I (gI l47 61)])
 (fun _=>none)) j))
 (fun _=>none)) j)
theorem L138_2_99.e0 (fu:Nat):LEq (L138_2_99.O fu) L138_2_99.H 0 (L138_2_99.s0 fu):=by intro τ next κ l;kernel_rfl
def L138_2_99.s1 (fu:Nat) {τ:Type} (next ex:Nat→LS_→Option τ) (l:LS_):Option τ :=
 (L104_9_1_99.b fu) 0 [.I (gI l 52),.I (gI l 18),.I (gI l 0),.N (gN l 1),.L (gL l 2),.I (gI l 3),.I (gI l 4),.I (gI l 5),.I (gI l 6),.I (gI l 7),.I (gI l 8),.I (gI l 9),.I (gI l 10),.I (gI l 11),.I (gI l 12),.I (gI l 13),.I (gI l 14),.I (gI l 15),.I (gI l 16),.I (gI l 17),.I (gI l 18),.I (gI l 19),.N (gN l 20),.L (gL l 21),.I (gI l 22),.I (gI l 23),.N (gN l 24),.L (gL l 25),.I (gI l 26),.I (gI l 27),.I (gI l 28),.N (gN l 29),.L (gL l 30),.B (gB l 31),.I (gI l 32),.I (gI l 33),.I (gI l 34),.I (gI l 35),.I (gI l 36),.I (gI l 37),.I (gI l 38),.I (gI l 39),.I (gI l 40),.I (gI l 41),.I (gI l 42),.I (gI l 43),.I (gI l 44),.I (gI l 45),.I (gI l 46),.N (gN l 47),.L (gL l 48),.I (gI l 49),.I (gI l 50),.I (gI l 51),.I (gI l 52),.I (gI l 53),.I (gI l 54),.I (gI l 55),.I (gI l 56),.I (gI l 57),.I (gI l 58),.I (gI l 59),.I (gI l 60),.I (gI l 61)]
 (fun j l48=>(sw ((L104_14_1_99.b fu) 0 [.I (gI l48 0),.I (gI l48 1),.I (gI l48 2),.N (gN l48 3),.L (gL l48 4),.I (gI l48 5),.I (gI l48 6),.I (gI l48 7),.I (gI l48 8),.I (gI l48 9),.I (gI l48 10),.I (gI l48 11),.I (gI l48 12),.I (gI l48 13),.I (gI l48 14),.I (gI l48 15),.I (gI l48 16),.I (0:Int),.I (gI l48 18),.I (gI l48 19),.I (gI l48 20),.I (gI l48 21),.N (gN l48 22),.L (gL l48 23),.I (gI l48 24),.I (gI l48 25),.N (gN l48 26),.L (gL l48 27),.I (gI l48 28),.I (gI l48 29),.I (gI l48 30),.N (gN l48 31),.L (gL l48 32),.B (gB l48 33),.I (gI l48 34),.I (gI l48 35),.I (gI l48 36),.I (gI l48 37),.I (gI l48 38),.I (gI l48 39),.I (gI l48 40),.I (gI l48 41),.I (gI l48 42),.I (gI l48 43),.I (gI l48 44),.I (gI l48 45),.I (gI l48 46),.I (gI l48 47),.I (gI l48 48),.N (gN l48 49),.L (gL l48 50),.I (gI l48 51),.I (gI l48 52),.I (gI l48 53),.I (gI l48 54),.I (gI l48 55),.I (gI l48 56),.I (gI l48 57),.I (gI l48 58),.I (gI l48 59),.I (gI l48 60),.I (gI l48 61),.I (gI l48 62),.I (gI l48 63)]
 (fun j l49=>(sw (next 2 [.I (gI l49 0),.N (gN l49 1),.L (gL l49 2),.I (gI l49 3),.I (gI l49 4),.I (gI l49 5),.I (gI l49 6),.I (gI l49 7),.I (gI l49 8),.I (gI l49 9),.I (gI l49 10),.I (gI l49 11),.I (gI l49 12),.I (gI l49 13),.I (gI l49 14),.I (gI l49 15),.I (gI l49 16),.I (gI l49 17),.I (gI l49 18),.I (gI l49 19),.N (gN l49 20),.L (gL l49 21),.I (gI l49 22),.I (gI l49 23),.N (gN l49 24),.L (gL l49 25),.I (gI l49 26),.I (gI l49 27),.I (gI l49 28),.N (gN l49 29),.L (gL l49 30),.B (gB l49 31),.I (gI l49 32),.I (gI l49 33),.I (gI l49 34),.I (gI l49 35),.I (gI l49 36),.I (gI l49 37),.I (gI l49 38),.I (gI l49 39),.I (gI l49 40),.I (gI l49 41),.I (gI l49 42),.I (gI l49 43),.I (gI l49 44),.I (gI l49 45),.I (gI l49 46),.N (gN l49 47),.L (gL l49 48),.I (gI l49 49),.I (gI l49 50),.I (gI l49 51),.I (gI l49 52),.I (gI l49 53),.I (gI l49 54),.I (gI l49 55),.I (gI l49 56),.I (gI l49 57),.I (gI l49 58),.I (gI l49 59),.I (gI l49 60),.I (gI l49 61)])
 (fun _=>none)) j))
 (fun _=>none)) j)
theorem L138_2_99.e1 (fu:Nat):LEq (L138_2_99.O fu) L138_2_99.H 1 (L138_2_99.s1 fu):=by intro τ next κ l;kernel_rfl
def L138_2_99.s2 (fu:Nat) {τ:Type} (next ex:Nat→LS_→Option τ) (l:LS_):Option τ :=
 (L104_9_1_99.b fu) 0 [.I (gI l 51),.I (gI l 18),.I (gI l 0),.N (gN l 1),.L (gL l 2),.I (gI l 3),.I (gI l 4),.I (gI l 5),.I (gI l 6),.I (gI l 7),.I (gI l 8),.I (gI l 9),.I (gI l 10),.I (gI l 11),.I (gI l 12),.I (gI l 13),.I (gI l 14),.I (gI l 15),.I (gI l 16),.I (gI l 17),.I (gI l 18),.I (gI l 19),.N (gN l 20),.L (gL l 21),.I (gI l 22),.I (gI l 23),.N (gN l 24),.L (gL l 25),.I (gI l 26),.I (gI l 27),.I (gI l 28),.N (gN l 29),.L (gL l 30),.B (gB l 31),.I (gI l 32),.I (gI l 33),.I (gI l 34),.I (gI l 35),.I (gI l 36),.I (gI l 37),.I (gI l 38),.I (gI l 39),.I (gI l 40),.I (gI l 41),.I (gI l 42),.I (gI l 43),.I (gI l 44),.I (gI l 45),.I (gI l 46),.N (gN l 47),.L (gL l 48),.I (gI l 49),.I (gI l 50),.I (gI l 51),.I (gI l 52),.I (gI l 53),.I (gI l 54),.I (gI l 55),.I (gI l 56),.I (gI l 57),.I (gI l 58),.I (gI l 59),.I (gI l 60),.I (gI l 61)]
 (fun j l50=>(sw ((L104_14_1_99.b fu) 0 [.I (gI l50 0),.I (gI l50 1),.I (gI l50 2),.N (gN l50 3),.L (gL l50 4),.I (gI l50 5),.I (gI l50 6),.I (gI l50 7),.I (gI l50 8),.I (gI l50 9),.I (gI l50 10),.I (gI l50 11),.I (gI l50 12),.I (gI l50 13),.I (gI l50 14),.I (gI l50 15),.I (gI l50 16),.I (0:Int),.I (gI l50 18),.I (gI l50 19),.I (gI l50 20),.I (gI l50 21),.N (gN l50 22),.L (gL l50 23),.I (gI l50 24),.I (gI l50 25),.N (gN l50 26),.L (gL l50 27),.I (gI l50 28),.I (gI l50 29),.I (gI l50 30),.N (gN l50 31),.L (gL l50 32),.B (gB l50 33),.I (gI l50 34),.I (gI l50 35),.I (gI l50 36),.I (gI l50 37),.I (gI l50 38),.I (gI l50 39),.I (gI l50 40),.I (gI l50 41),.I (gI l50 42),.I (gI l50 43),.I (gI l50 44),.I (gI l50 45),.I (gI l50 46),.I (gI l50 47),.I (gI l50 48),.N (gN l50 49),.L (gL l50 50),.I (gI l50 51),.I (gI l50 52),.I (gI l50 53),.I (gI l50 54),.I (gI l50 55),.I (gI l50 56),.I (gI l50 57),.I (gI l50 58),.I (gI l50 59),.I (gI l50 60),.I (gI l50 61),.I (gI l50 62),.I (gI l50 63)]
 (fun j l51=>(sw (next 3 [.I (gI l51 0),.N (gN l51 1),.L (gL l51 2),.I (gI l51 3),.I (gI l51 4),.I (gI l51 5),.I (gI l51 6),.I (gI l51 7),.I (gI l51 8),.I (gI l51 9),.I (gI l51 10),.I (gI l51 11),.I (gI l51 12),.I (gI l51 13),.I (gI l51 14),.I (gI l51 15),.I (gI l51 16),.I (gI l51 17),.I (gI l51 18),.I (gI l51 19),.N (gN l51 20),.L (gL l51 21),.I (gI l51 22),.I (gI l51 23),.N (gN l51 24),.L (gL l51 25),.I (gI l51 26),.I (gI l51 27),.I (gI l51 28),.N (gN l51 29),.L (gL l51 30),.B (gB l51 31),.I (gI l51 32),.I (gI l51 33),.I (gI l51 34),.I (gI l51 35),.I (gI l51 36),.I (gI l51 37),.I (gI l51 38),.I (gI l51 39),.I (gI l51 40),.I (gI l51 41),.I (gI l51 42),.I (gI l51 43),.I (gI l51 44),.I (gI l51 45),.I (gI l51 46),.N (gN l51 47),.L (gL l51 48),.I (gI l51 49),.I (gI l51 50),.I (gI l51 51),.I (gI l51 52),.I (gI l51 53),.I (gI l51 54),.I (gI l51 55),.I (gI l51 56),.I (gI l51 57),.I (gI l51 58),.I (gI l51 59),.I (gI l51 60),.I (gI l51 61)])
 (fun _=>none)) j))
 (fun _=>none)) j)
theorem L138_2_99.e2 (fu:Nat):LEq (L138_2_99.O fu) L138_2_99.H 2 (L138_2_99.s2 fu):=by intro τ next κ l;kernel_rfl
def L138_2_99.s3 (fu:Nat) {τ:Type} (next ex:Nat→LS_→Option τ) (l:LS_):Option τ :=
 (L104_9_1_99.b fu) 0 [.I (gI l 50),.I (gI l 18),.I (gI l 0),.N (gN l 1),.L (gL l 2),.I (gI l 3),.I (gI l 4),.I (gI l 5),.I (gI l 6),.I (gI l 7),.I (gI l 8),.I (gI l 9),.I (gI l 10),.I (gI l 11),.I (gI l 12),.I (gI l 13),.I (gI l 14),.I (gI l 15),.I (gI l 16),.I (gI l 17),.I (gI l 18),.I (gI l 19),.N (gN l 20),.L (gL l 21),.I (gI l 22),.I (gI l 23),.N (gN l 24),.L (gL l 25),.I (gI l 26),.I (gI l 27),.I (gI l 28),.N (gN l 29),.L (gL l 30),.B (gB l 31),.I (gI l 32),.I (gI l 33),.I (gI l 34),.I (gI l 35),.I (gI l 36),.I (gI l 37),.I (gI l 38),.I (gI l 39),.I (gI l 40),.I (gI l 41),.I (gI l 42),.I (gI l 43),.I (gI l 44),.I (gI l 45),.I (gI l 46),.N (gN l 47),.L (gL l 48),.I (gI l 49),.I (gI l 50),.I (gI l 51),.I (gI l 52),.I (gI l 53),.I (gI l 54),.I (gI l 55),.I (gI l 56),.I (gI l 57),.I (gI l 58),.I (gI l 59),.I (gI l 60),.I (gI l 61)]
 (fun j l52=>(sw ((L104_14_1_99.b fu) 0 [.I (gI l52 0),.I (gI l52 1),.I (gI l52 2),.N (gN l52 3),.L (gL l52 4),.I (gI l52 5),.I (gI l52 6),.I (gI l52 7),.I (gI l52 8),.I (gI l52 9),.I (gI l52 10),.I (gI l52 11),.I (gI l52 12),.I (gI l52 13),.I (gI l52 14),.I (gI l52 15),.I (gI l52 16),.I (0:Int),.I (gI l52 18),.I (gI l52 19),.I (gI l52 20),.I (gI l52 21),.N (gN l52 22),.L (gL l52 23),.I (gI l52 24),.I (gI l52 25),.N (gN l52 26),.L (gL l52 27),.I (gI l52 28),.I (gI l52 29),.I (gI l52 30),.N (gN l52 31),.L (gL l52 32),.B (gB l52 33),.I (gI l52 34),.I (gI l52 35),.I (gI l52 36),.I (gI l52 37),.I (gI l52 38),.I (gI l52 39),.I (gI l52 40),.I (gI l52 41),.I (gI l52 42),.I (gI l52 43),.I (gI l52 44),.I (gI l52 45),.I (gI l52 46),.I (gI l52 47),.I (gI l52 48),.N (gN l52 49),.L (gL l52 50),.I (gI l52 51),.I (gI l52 52),.I (gI l52 53),.I (gI l52 54),.I (gI l52 55),.I (gI l52 56),.I (gI l52 57),.I (gI l52 58),.I (gI l52 59),.I (gI l52 60),.I (gI l52 61),.I (gI l52 62),.I (gI l52 63)]
 (fun j l53=>(sw (next 4 [.I (gI l53 0),.N (gN l53 1),.L (gL l53 2),.I (gI l53 3),.I (gI l53 4),.I (gI l53 5),.I (gI l53 6),.I (gI l53 7),.I (gI l53 8),.I (gI l53 9),.I (gI l53 10),.I (gI l53 11),.I (gI l53 12),.I (gI l53 13),.I (gI l53 14),.I (gI l53 15),.I (gI l53 16),.I (gI l53 17),.I (gI l53 18),.I (gI l53 19),.N (gN l53 20),.L (gL l53 21),.I (gI l53 22),.I (gI l53 23),.N (gN l53 24),.L (gL l53 25),.I (gI l53 26),.I (gI l53 27),.I (gI l53 28),.N (gN l53 29),.L (gL l53 30),.B (gB l53 31),.I (gI l53 32),.I (gI l53 33),.I (gI l53 34),.I (gI l53 35),.I (gI l53 36),.I (gI l53 37),.I (gI l53 38),.I (gI l53 39),.I (gI l53 40),.I (gI l53 41),.I (gI l53 42),.I (gI l53 43),.I (gI l53 44),.I (gI l53 45),.I (gI l53 46),.N (gN l53 47),.L (gL l53 48),.I (gI l53 49),.I (gI l53 50),.I (gI l53 51),.I (gI l53 52),.I (gI l53 53),.I (gI l53 54),.I (gI l53 55),.I (gI l53 56),.I (gI l53 57),.I (gI l53 58),.I (gI l53 59),.I (gI l53 60),.I (gI l53 61)])
 (fun _=>none)) j))
 (fun _=>none)) j)
theorem L138_2_99.e3 (fu:Nat):LEq (L138_2_99.O fu) L138_2_99.H 3 (L138_2_99.s3 fu):=by intro τ next κ l;kernel_rfl
def L138_2_99.s4 (fu:Nat) {τ:Type} (next ex:Nat→LS_→Option τ) (l:LS_):Option τ :=
 ex 0 [.I (gI l 0),.N (gN l 1),.L (gL l 2),.I (gI l 3),.I (gI l 4),.I (gI l 5),.I (gI l 6),.I (gI l 7),.I (gI l 8),.I (gI l 9),.I (gI l 10),.I (gI l 11),.I (gI l 12),.I (gI l 13),.I (gI l 14),.I (gI l 15),.I (gI l 16),.I (gI l 17),.I (gI l 18),.I (gI l 19),.N (gN l 20),.L (gL l 21),.I (gI l 22),.I (gI l 23),.N (gN l 24),.L (gL l 25),.I (gI l 26),.I (gI l 27),.I (gI l 28),.N (gN l 29),.L (gL l 30),.B (gB l 31),.I (gI l 32),.I (gI l 33),.I (gI l 34),.I (gI l 35),.I (gI l 36),.I (gI l 37),.I (gI l 38),.I (gI l 39),.I (gI l 40),.I (gI l 41),.I (gI l 42),.I (gI l 43),.I (gI l 44),.I (gI l 45),.I (gI l 46),.N (gN l 47),.L (gL l 48),.I (gI l 49),.I (gI l 50),.I (gI l 51),.I (gI l 52),.I (gI l 53),.I (gI l 54),.I (gI l 55),.I (gI l 56),.I (gI l 57),.I (gI l 58),.I (gI l 59),.I (gI l 60),.I (gI l 61)]
theorem L138_2_99.e4 (fu:Nat):LEq (L138_2_99.O fu) L138_2_99.H 4 (L138_2_99.s4 fu):=by intro τ next κ l;kernel_rfl
def L138_2_99 (fu:Nat):LStep P Cf:=LStep.mk5 (by decide) (L138_2_99.e0 fu) (L138_2_99.e1 fu) (L138_2_99.e2 fu) (L138_2_99.e3 fu) (L138_2_99.e4 fu)
def L138_2_99.b (fu:Nat) {τ:Type} (t:Nat) (l:LS_) (κ:Nat→LS_→Option τ):Option τ:=runE (L138_2_99 fu) fu κ t l
def L138_2_99.E (fu:Nat):LEnt P:=LStep.EN fu (L138_2_99 fu)
def F104_99.ps:List PV2:=[(pFieldE (4:Int)),pI,pI]
def F104_99.sh:List PA:=[(PA.mk (PV3.v pI) [])]
def F104_99.O (fu:Nat):Orc P:=⟨[(F128_99.E fu),(F127_99.E fu),(F130_99.E fu)],[(L138_2_99.E fu)],[],40⟩
def F104_99 (fu:Nat) {τ:Type} (l:LS_) (k:Nat→LS_→Option τ):Option τ :=
 ck ((true&&(true&&((eqM (List.length (gL l 1)) (List.length (gL l 1)))&&true)))&&true)
 ((F128_99 fu) [.I (gI l 0),.L (gL l 1)]
 (fun j l22=>(sw (br (!(gB l22 0))
 (k 0 [.I (0:Int)])
 ((F127_99 fu) [.I (gI l 0),.I (gI l 2)]
 (fun j l23=>(sw ((F127_99 fu) [.I (gI l 0),.I (gI l 3)]
 (fun j l24=>(sw ((L138_2_99.b fu) 0 [.I (gI l 0),.N (List.length (gL l 1)),.L (gL l 1),.I (gI l23 0),.I (gI l23 1),.I (gI l23 2),.I (gI l23 3),.I (gI l23 4),.I (gI l23 5),.I (gI l23 6),.I (gI l23 7),.I (gI l23 8),.I (gI l23 9),.I (gI l23 10),.I (gI l23 11),.I (0:Int),.I (0:Int),.I (0:Int),.I (0:Int),.I (gI l 0),.N (List.length (gL l 1)),.L (gL l 1),.I (gI l 3),.I (gI l 0),.N (List.length (gL l 1)),.L (gL l 1),.I (gI l 2),.I (gI l 3),.I (gI l 0),.N (List.length (gL l 1)),.L (gL l 1),.B (gB l22 0),.I (gI l 0),.I (gI l 2),.I (gI l23 0),.I (gI l23 1),.I (gI l23 2),.I (gI l23 3),.I (gI l23 4),.I (gI l23 5),.I (gI l23 6),.I (gI l23 7),.I (gI l23 8),.I (gI l23 9),.I (gI l23 10),.I (gI l23 11),.I (gI l 0),.N (List.length (gL l 1)),.L (gL l 1),.I (gI l 3),.I (gI l24 0),.I (gI l24 1),.I (gI l24 2),.I (gI l24 3),.I (gI l24 4),.I (gI l24 5),.I (gI l24 6),.I (gI l24 7),.I (gI l24 8),.I (gI l24 9),.I (gI l24 10),.I (gI l24 11)]
 (fun j l54=>(sw (ck ((true&&(true&&((eqM (gN l54 1) (List.length (gL l54 2)))&&true)))&&((true&&(true&&(true&&(true&&true))))&&true))
 ((F130_99 fu) [.I (gI l54 0),.L (gL l54 2),.I (gI l54 15),.I (gI l54 16),.I (gI l54 17),.I (gI l54 18),.I (0:Int),.I (0:Int),.I (0:Int),.I (0:Int),.I (0:Int),.I (0:Int),.I (0:Int),.I (0:Int)]
 (fun j l55=>(sw (k 0 [.I (gI l55 0)])
 (fun _=>none)) j)))
 (fun _=>none)) j))
 (fun _=>none)) j))
 (fun _=>none)) j)))
 (fun _=>none)) j))
theorem F104_99.eq (fu:Nat):FEq (F104_99.O fu) 93 F104_99.ps F104_99.sh (F104_99 fu):=by intro τ l κ;kernel_rfl
def F104_99.E (fu:Nat):Ent P:=mkF (F104_99.eq fu)
end
end Go.Proofs.Yticbdgmcofjkeaa.Ai
namespace Go.Proofs.Yticbdgmcofjkeaa.Ai
open Go Go.RowKit Ma
noncomputable section
def p103_3 (q:Nat) (a b:Int):Bool:=chkI (fadd q a b) (F103_99 64 [.I (fp q),.L (fm q),.I a,.I b] (kk F103_99.sh))
theorem t103_3a:(List.range 8).all (fun (a:Nat)=>(List.range 16).all fun (b:Nat)=>p103_3 16 a b)=true:=by kernel_rfl
theorem t103_3b:((List.range 16).drop 8).all (fun (a:Nat)=>(List.range 16).all fun (b:Nat)=>p103_3 16 a b)=true:=by kernel_rfl
theorem t103_3:[16].all (fun q=>(List.range q).all fun a=>(List.range q).all fun b=>p103_3 q a b)=true:=by
 rw [List.all_cons,all_split t103_3a t103_3b]
 rfl
def p104_3 (q:Nat) (a b:Int):Bool:=chkI (fmul q a b) (F104_99 64 [.I (fp q),.L (fm q),.I a,.I b] (kk F104_99.sh))
theorem t104_3a:(List.range 8).all (fun (a:Nat)=>(List.range 16).all fun (b:Nat)=>p104_3 16 a b)=true:=by kernel_rfl
theorem t104_3b:((List.range 16).drop 8).all (fun (a:Nat)=>(List.range 16).all fun (b:Nat)=>p104_3 16 a b)=true:=by kernel_rfl
theorem t104_3:[16].all (fun q=>(List.range q).all fun a=>(List.range q).all fun b=>p104_3 q a b)=true:=by
 rw [List.all_cons,all_split t104_3a t104_3b]
 rfl
def p83_3 (q:Nat) (a:Int):Bool:=chkI (fneg q a) (F83_99 64 [.I (fp q),.L (fm q),.I a] (kk F83_99.sh))
theorem t83_3:[16].all (fun q=>(List.range q).all fun a=>p83_3 q a)=true:=by kernel_rfl
theorem qs_cases {q:Nat} (hq:q∈Qs):(q∈[2,3,5,7,11,13]∧fe q=1)∨(q∈[4,9]∧fe q=2)∨(q∈[8]∧fe q=3)∨(q∈[16]∧fe q=4):=by
 have:Qs.all (fun q=>decide ((q∈[2,3,5,7,11,13]∧fe q=1)∨(q∈[4,9]∧fe q=2)∨(q∈[8]∧fe q=3)∨(q∈[16]∧fe q=4)))=true:=by decide +kernel
 exact of_decide_eq_true (List.all_eq_true.1 this q hq)
theorem cs103:∀ q∈Qs,∀ a b:Int,0≤a→a<q→0≤b→b<q→CS P 99 [fAV q,.int .i64 a,.int .i64 b] ⟨.int .i64 (fadd q a b),[]⟩:=fun q hq a b h0 h1 h2 h3=>by
 unfold fAV
 rcases qs_cases hq with ⟨h,e⟩ | ⟨h,e⟩ | ⟨h,e⟩ | ⟨h,e⟩
 ·rw [e];exact F_ok (F103.eq 64) (chkI_ok (all2 (p:=p103) t103 h h0 h1 h2 h3))
 ·rw [e];exact F_ok (F103_1.eq 64) (chkI_ok (all2 (p:=p103_1) t103_1 h h0 h1 h2 h3))
 ·rw [e];exact F_ok (F103_2.eq 64) (chkI_ok (all2 (p:=p103_2) t103_2 h h0 h1 h2 h3))
 ·rw [e];exact F_ok (F103_99.eq 64) (chkI_ok (all2 (p:=p103_3) t103_3 h h0 h1 h2 h3))
def T103.E:Ent P:=⟨99,[pField,pI,pI],sh1,fun l k=>T103 l k,tab2_ok cs103⟩
theorem cs104:∀ q∈Qs,∀ a b:Int,0≤a→a<q→0≤b→b<q→CS P 93 [fAV q,.int .i64 a,.int .i64 b] ⟨.int .i64 (fmul q a b),[]⟩:=fun q hq a b h0 h1 h2 h3=>by
 unfold fAV
 rcases qs_cases hq with ⟨h,e⟩ | ⟨h,e⟩ | ⟨h,e⟩ | ⟨h,e⟩
 ·rw [e];exact F_ok (F104.eq 64) (chkI_ok (all2 (p:=p104) t104 h h0 h1 h2 h3))
 ·rw [e];exact F_ok (F104_1.eq 64) (chkI_ok (all2 (p:=p104_1) t104_1 h h0 h1 h2 h3))
 ·rw [e];exact F_ok (F104_2.eq 64) (chkI_ok (all2 (p:=p104_2) t104_2 h h0 h1 h2 h3))
 ·rw [e];exact F_ok (F104_99.eq 64) (chkI_ok (all2 (p:=p104_3) t104_3 h h0 h1 h2 h3))
def T104.E:Ent P:=⟨93,[pField,pI,pI],sh1,fun l k=>T104 l k,tab2_ok cs104⟩
theorem cs83:∀ q∈Qs,∀ a:Int,0≤a→a<q→CS P 72 [fAV q,.int .i64 a] ⟨.int .i64 (fneg q a),[]⟩:=fun q hq a h0 h1=>by
 unfold fAV
 rcases qs_cases hq with ⟨h,e⟩ | ⟨h,e⟩ | ⟨h,e⟩ | ⟨h,e⟩
 ·rw [e];exact F_ok (F83.eq 64) (chkI_ok (all1 (p:=p83) t83 h h0 h1))
 ·rw [e];exact F_ok (F83_1.eq 64) (chkI_ok (all1 (p:=p83_1) t83_1 h h0 h1))
 ·rw [e];exact F_ok (F83_2.eq 64) (chkI_ok (all1 (p:=p83_2) t83_2 h h0 h1))
 ·rw [e];exact F_ok (F83_99.eq 64) (chkI_ok (all1 (p:=p83_3) t83_3 h h0 h1))
def T83.E:Ent P:=⟨72,[pField,pI],sh1,fun l k=>T83 l k,tab1_ok cs83⟩
end
end Go.Proofs.Yticbdgmcofjkeaa.Ai
namespace Go.Proofs.Yticbdgmcofjkeaa.Ai
open Go Go.RowKit
noncomputable section
variable {τ:Type} (t:Nat) (nx ex:Nat→LS_→Option τ) (l:LS_) (k κ:Nat→LS_→Option τ)
def L128_5_i.H:LHead:=⟨false,true,0,487429,487429,201326606,4,0,[(PS.mk (us 1 ((pp 0)::pB::pI::us 22 (pI::pI::us 11 []))) [(oG [pI,pI,qR])])],[(Out.ret,(PS.mk (us 2 (pB::us 36 [])) [])),((Out.exit 0),(PS.mk (us 2 (pB::us 36 [])) []))]⟩
def L128_5_i.O (fu:Nat):Orc P:=⟨[],[],[],40⟩
def L128_5_i.s0 (fu:Nat) {τ:Type} (next ex:Nat→LS_→Option τ) (l:LS_):Option τ :=
 br (ltI (gI l 3) (gI l 2))
 (ck (!((gI l 4)==0))
 (br (gtI (gI l 1) (wr .i64 (Int.tdiv 64 (gI l 4))))
 (ex 0 [.B false])
 (next 0 [bG l 0,.I (wr .i64 ((gI l 1)*(gI l 4))),iG l 2,.I (wr .i64 ((gI l 3)+1)),iG l 4,iG l 5,nG l 6,vG l 7])))
 (ex 1 [bG l 0])
theorem L128_5_i.e0 (fu:Nat):LEq (L128_5_i.O fu) L128_5_i.H 0 (L128_5_i.s0 fu):=by intro τ next κ l;kernel_rfl
def L128_5_i (fu:Nat):LStep P Cf:=LStep.mk1 (by decide) (L128_5_i.e0 fu)
def L128_5_i.b (fu:Nat) {τ:Type} (t:Nat) (l:LS_) (κ:Nat→LS_→Option τ):Option τ:=runE (L128_5_i fu) fu κ t l
def L128_5_i.E (fu:Nat):LEnt P:=LStep.EN fu (L128_5_i fu)
def F128_i.ps:List PV2:=[(PV2.agg [iI,iI,aI])]
def F128_i.sh:List PA:=[(PA.mk (PV3.v pB) [])]
def F128_i.O (fu:Nat):Orc P:=⟨[],[(L128_5_i.E fu)],[],40⟩
def F128_i (fu:Nat) {τ:Type} (l:LS_) (k:Nat→LS_→Option τ):Option τ :=
 br (ltI (gI l 0) 2)
 (k 0 [.B false])
 (br (ltI (gI l 1) 1)
 (k 0 [.B false])
 (br (gtI (gI l 1) 6)
 (k 0 [.B false])
 (br ((((gL l 2).length:Nat):Int) != (gI l 1))
 (k 0 [.B false])
 ((L128_5_i.b fu) 0 [.B false,.I 1,iG l 1,.I 0,iG l 0,iG l 1,.N (gL l 2).length,vG l 2]
 (fun j A=>(sw (k 0 [bG A 0])
 (sw (k 0 [.B true])
 (fun _=>none))) j)))))
theorem F128_i.eq (fu:Nat):FEq (F128_i.O fu) 119 F128_i.ps F128_i.sh (F128_i fu):=by intro τ l κ;kernel_rfl
def F128_i.E (fu:Nat):Ent P:=mkF (F128_i.eq fu)
def L140_5.H:LHead:=⟨false,true,0,569349,569349,778,8,0,[(PS.mk (us 1 ((pp 0)::us 1 (pI::us 4 (pI::pI::us 7 [])))) [(oG [pI,pI,qR])])],[((Out.exit 0),(PS.mk (us 3 (pI::us 13 [])) []))]⟩
def L140_5.O (fu:Nat):Orc P:=⟨[],[],[],40⟩
def L140_5.s0 (fu:Nat) {τ:Type} (next ex:Nat→LS_→Option τ) (l:LS_):Option τ :=
 br (ltI (gI l 2) (gI l 1))
 (next 0 [.I (wr .i64 ((gI l 0)*(gI l 3))),iG l 1,.I (wr .i64 ((gI l 2)+1)),iG l 3,iG l 4,nG l 5,vG l 6])
 (ex 0 [iG l 0])
theorem L140_5.e0 (fu:Nat):LEq (L140_5.O fu) L140_5.H 0 (L140_5.s0 fu):=by intro τ next κ l;kernel_rfl
def L140_5 (fu:Nat):LStep P Cf:=LStep.mk1 (by decide) (L140_5.e0 fu)
def L140_5.b (fu:Nat) {τ:Type} (t:Nat) (l:LS_) (κ:Nat→LS_→Option τ):Option τ:=runE (L140_5 fu) fu κ t l
def L140_5.E (fu:Nat):LEnt P:=LStep.EN fu (L140_5 fu)
def F140.ps:List PV2:=[(PV2.agg [iI,iI,aI])]
def F140.sh:List PA:=[(PA.mk (PV3.v pI) [])]
def F140.O (fu:Nat):Orc P:=⟨[(F128_i.E fu)],[(L140_5.E fu)],[],40⟩
def F140 (fu:Nat) {τ:Type} (l:LS_) (k:Nat→LS_→Option τ):Option τ :=
 ck (((eqM (gL l 2).length (gL l 2).length)&&true)&&true)
 ((F128_i fu) [iG l 0,iG l 1,vG l 2]
 (fun j A=>(sw (br (!(gB A 0))
 (k 0 [.I 0])
 ((L140_5.b fu) 0 [.I 1,iG l 1,.I 0,iG l 0,iG l 1,.N (gL l 2).length,vG l 2]
 (fun j B=>(sw (k 0 [iG B 0])
 (fun _=>none)) j)))
 (fun _=>none)) j))
theorem F140.eq (fu:Nat):FEq (F140.O fu) 139 F140.ps F140.sh (F140 fu):=by intro τ l κ;kernel_rfl
def F140.E (fu:Nat):Ent P:=mkF (F140.eq fu)
def F129_i.ps:List PV2:=[pI,pI]
def F129_i.sh:List PA:=[(PA.mk (PV3.v pI) [])]
def F129_i.O (fu:Nat):Orc P:=⟨[],[],[],40⟩
def F129_i (fu:Nat) {τ:Type} (l:LS_) (k:Nat→LS_→Option τ):Option τ :=
 ck (!((gI l 1)==0))
 (ck (!((gI l 1)==0))
 (k 0 [.I (Int.tmod (wr .i64 ((Int.tmod (gI l 0) (gI l 1))+(gI l 1))) (gI l 1))]))
theorem F129_i.eq (fu:Nat):FEq (F129_i.O fu) 122 F129_i.ps F129_i.sh (F129_i fu):=by intro τ l κ;kernel_rfl
def F129_i.E (fu:Nat):Ent P:=mkF (F129_i.eq fu)
def L139_2.H:LHead:=⟨false,true,0,565250,565250,142,128,0,[(PS.mk (us 1 (pI::pI::(pp 0)::us 3 (pI::us 16 []))) [(oG [pI,pI,qR])])],[((Out.exit 0),(PS.mk (us 7 (pI::us 16 [])) []))]⟩
def L139_2.O (fu:Nat):Orc P:=⟨[T104.E],[],[],40⟩
def L139_2.s0 (fu:Nat) {τ:Type} (next ex:Nat→LS_→Option τ) (l:LS_):Option τ :=
 br (gtI (gI l 1) 0)
 (br ((Int.tmod (gI l 1) 2)==1)
 (ck (((eqM (gN l 5) (gL l 6).length)&&true)&&true)
 (T104 [iG l 3,iG l 4,vG l 6,iG l 2,iG l 0]
 (fun j A=>(sw (ck (((eqM (gN l 5) (gL l 6).length)&&true)&&true)
 (T104 [iG l 3,iG l 4,vG l 6,iG l 0,iG l 0]
 (fun j B=>(sw (next 0 [iG B 0,.I (wr .i64 (Int.tdiv (gI l 1) 2)),iG A 0,iG l 3,iG l 4,nG l 5,vG l 6])
 (fun _=>none)) j)))
 (fun _=>none)) j)))
 (ck (((eqM (gN l 5) (gL l 6).length)&&true)&&true)
 (T104 [iG l 3,iG l 4,vG l 6,iG l 0,iG l 0]
 (fun j A=>(sw (next 0 [iG A 0,.I (wr .i64 (Int.tdiv (gI l 1) 2)),iG l 2,iG l 3,iG l 4,nG l 5,vG l 6])
 (fun _=>none)) j))))
 (ex 0 [iG l 2])
theorem L139_2.e0 (fu:Nat):LEq (L139_2.O fu) L139_2.H 0 (L139_2.s0 fu):=by intro τ next κ l;kernel_rfl
def L139_2 (fu:Nat):LStep P Cf:=LStep.mk1 (by decide) (L139_2.e0 fu)
def L139_2.b (fu:Nat) {τ:Type} (t:Nat) (l:LS_) (κ:Nat→LS_→Option τ):Option τ:=runE (L139_2 fu) fu κ t l
def L139_2.E (fu:Nat):LEnt P:=LStep.EN fu (L139_2 fu)
def F139.ps:List PV2:=[(PV2.agg [iI,iI,aI]),pI,pI]
def F139.sh:List PA:=[(PA.mk (PV3.v pI) [])]
def F139.O (fu:Nat):Orc P:=⟨[],[(L139_2.E fu)],[],40⟩
def F139 (fu:Nat) {τ:Type} (l:LS_) (k:Nat→LS_→Option τ):Option τ :=
 (L139_2.b fu) 0 [iG l 3,iG l 4,.I 1,iG l 0,iG l 1,.N (gL l 2).length,vG l 2]
 (fun j A=>(sw (k 0 [iG A 0])
 (fun _=>none)) j)
theorem F139.eq (fu:Nat):FEq (F139.O fu) 138 F139.ps F139.sh (F139 fu):=by intro τ l κ;kernel_rfl
def F139.E (fu:Nat):Ent P:=mkF (F139.eq fu)
def F136.ps:List PV2:=[(PV2.agg [iI,iI,aI]),pI,pI]
def F136.sh:List PA:=[(PA.mk (PV3.tup [(pC 1),(pC 0)]) []),(PA.mk (PV3.tup [(pC 0),(pC 3)]) []),(PA.mk (PV3.tup [(pC 0),(pC 0)]) []),(PA.mk (PV3.tup [pI,(pC 0)]) [])]
def F136.O (fu:Nat):Orc P:=⟨[(F128_i.E fu),(F140.E fu),(F129_i.E fu),(F139.E fu)],[],[],40⟩
def F136 (fu:Nat) {τ:Type} (l:LS_) (k:Nat→LS_→Option τ):Option τ :=
 br ((gI l 4)==0)
 (k 0 [])
 (br ((gI l 3)==0)
 (br (ltI (gI l 4) 0)
 (k 1 [])
 (br ((gI l 3)==0)
 (k 2 [])
 (ck (((eqM (gL l 2).length (gL l 2).length)&&true)&&true)
 ((F128_i fu) [iG l 0,iG l 1,vG l 2]
 (fun j A=>(sw (br (!(gB A 0))
 (k 2 [])
 (ck (((eqM (gL l 2).length (gL l 2).length)&&true)&&true)
 ((F140 fu) [iG l 0,iG l 1,vG l 2]
 (fun j B=>(sw ((F129_i fu) [iG l 4,.I (wr .i64 ((gI B 0)-1))]
 (fun j C=>(sw (ck (((eqM (gL l 2).length (gL l 2).length)&&true)&&true)
 ((F139 fu) [iG l 0,iG l 1,vG l 2,iG l 3,iG C 0]
 (fun j D=>(sw (k 3 [iG D 0])
 (fun _=>none)) j)))
 (fun _=>none)) j))
 (fun _=>none)) j))))
 (fun _=>none)) j)))))
 (br ((gI l 3)==0)
 (k 2 [])
 (ck (((eqM (gL l 2).length (gL l 2).length)&&true)&&true)
 ((F128_i fu) [iG l 0,iG l 1,vG l 2]
 (fun j A=>(sw (br (!(gB A 0))
 (k 2 [])
 (ck (((eqM (gL l 2).length (gL l 2).length)&&true)&&true)
 ((F140 fu) [iG l 0,iG l 1,vG l 2]
 (fun j B=>(sw ((F129_i fu) [iG l 4,.I (wr .i64 ((gI B 0)-1))]
 (fun j C=>(sw (ck (((eqM (gL l 2).length (gL l 2).length)&&true)&&true)
 ((F139 fu) [iG l 0,iG l 1,vG l 2,iG l 3,iG C 0]
 (fun j D=>(sw (k 3 [iG D 0])
 (fun _=>none)) j)))
 (fun _=>none)) j))
 (fun _=>none)) j))))
 (fun _=>none)) j)))))
theorem F136.eq (fu:Nat):FEq (F136.O fu) 118 F136.ps F136.sh (F136 fu):=by intro τ l κ;kernel_rfl
def F136.E (fu:Nat):Ent P:=mkF (F136.eq fu)
def F116.ps:List PV2:=[pField,pI]
def F116.sh:List PA:=[(PA.mk (PV3.tup [(pC 1),(pC 0)]) []),(PA.mk (PV3.tup [(pC 0),(pC 3)]) []),(PA.mk (PV3.tup [(pC 0),(pC 0)]) []),(PA.mk (PV3.tup [pI,(pC 0)]) [])]
def F116.O (fu:Nat):Orc P:=⟨[(F136.E fu)],[],[],40⟩
def F116 (fu:Nat) {τ:Type} (l:LS_) (k:Nat→LS_→Option τ):Option τ :=
 ck (((eqM (gL l 2).length (gL l 2).length)&&true)&&true)
 ((F136 fu) [iG l 0,iG l 1,vG l 2,iG l 3,.I (-1)]
 (fun j A=>(sw (k 0 [])
 (sw (k 1 [])
 (sw (k 2 [])
 (sw (k 3 [iG A 0])
 (fun _=>none))))) j))
theorem F116.eq (fu:Nat):FEq (F116.O fu) 92 F116.ps F116.sh (F116 fu):=by intro τ l κ;kernel_rfl
def F116.E (fu:Nat):Ent P:=mkF (F116.eq fu)
end
end Go.Proofs.Yticbdgmcofjkeaa.Ai
namespace Go.Proofs.Yticbdgmcofjkeaa.Ai
open Go Go.RowKit Ma
noncomputable section
def chkB (b:Bool):Option Ans→Bool
 | some ⟨.bool c,[]⟩=>c==b
 | _=>false
theorem chkB_ok {b:Bool} {o:Option Ans} (h:chkB b o=true):o=some ⟨.bool b,[]⟩:=by
 unfold chkB at h
 split at h
 ·rw [eq_of_beq h]
 ·cases h
structure Dv where
 (p n d m e:Int)
 b:Bool
def Dv.ok (x:Dv):Bool:=chkB x.b (runC P Cf [F127.E 64] 60 141 [.int .i64 x.p,.int .i64 x.n,.int .i64 x.d,.int .i64 x.m,.int .i64 x.e])
def dv0:List Dv:=[⟨2,0,1,0,5,true⟩,⟨2,0,1,0,6,true⟩,⟨2,0,1,1,5,false⟩,⟨2,0,1,1,6,false⟩,⟨2,0,1,2,5,true⟩,⟨2,0,1,2,6,true⟩]
theorem dv0_ok:dv0.all Dv.ok=true:=by kernel_rfl
def dv1:List Dv:=[⟨2,0,1,3,5,false⟩,⟨2,0,1,3,6,false⟩,⟨2,0,1,4,5,true⟩,⟨2,0,1,5,5,false⟩,⟨2,0,2,3,5,false⟩,⟨2,0,2,3,6,false⟩]
theorem dv1_ok:dv1.all Dv.ok=true:=by kernel_rfl
def dv2:List Dv:=[⟨2,0,2,5,5,false⟩,⟨2,0,3,3,6,false⟩,⟨2,1,1,1,5,true⟩,⟨2,1,1,1,6,true⟩,⟨2,1,1,3,5,false⟩,⟨2,1,1,3,6,false⟩]
theorem dv2_ok:dv2.all Dv.ok=true:=by kernel_rfl
def dv3:List Dv:=[⟨2,1,1,5,5,false⟩,⟨2,1,2,3,5,false⟩,⟨2,1,2,3,6,false⟩,⟨2,1,2,5,5,false⟩,⟨2,1,3,3,6,false⟩,⟨2,2,2,3,5,false⟩]
theorem dv3_ok:dv3.all Dv.ok=true:=by kernel_rfl
def dv4:List Dv:=[⟨2,2,2,3,6,false⟩,⟨2,2,2,5,5,false⟩,⟨2,2,3,3,6,false⟩,⟨2,3,2,3,5,true⟩,⟨2,3,2,3,6,false⟩,⟨2,3,2,5,5,false⟩]
theorem dv4_ok:dv4.all Dv.ok=true:=by kernel_rfl
def dv5:List Dv:=[⟨2,3,3,3,6,false⟩,⟨2,4,3,3,6,false⟩,⟨2,5,3,3,6,false⟩,⟨2,6,3,3,6,false⟩,⟨2,7,3,3,6,false⟩,⟨3,0,1,0,3,true⟩]
theorem dv5_ok:dv5.all Dv.ok=true:=by kernel_rfl
def dv6:List Dv:=[⟨3,0,1,1,3,false⟩,⟨3,0,1,2,3,false⟩,⟨3,0,1,3,3,true⟩,⟨3,0,1,4,3,false⟩,⟨3,0,1,5,3,false⟩,⟨3,0,1,6,3,true⟩]
theorem dv6_ok:dv6.all Dv.ok=true:=by kernel_rfl
def dv7:List Dv:=[⟨3,0,1,7,3,false⟩,⟨3,1,1,1,3,true⟩,⟨3,1,1,2,3,false⟩,⟨3,1,1,4,3,false⟩,⟨3,1,1,5,3,true⟩,⟨3,1,1,7,3,false⟩]
theorem dv7_ok:dv7.all Dv.ok=true:=by kernel_rfl
def dv8:List Dv:=[⟨3,2,1,2,3,true⟩,⟨3,2,1,4,3,true⟩,⟨3,2,1,7,3,false⟩,⟨5,0,1,0,2,true⟩,⟨5,0,1,1,2,false⟩,⟨5,0,1,2,2,false⟩]
theorem dv8_ok:dv8.all Dv.ok=true:=by kernel_rfl
def dv9:List Dv:=[⟨5,1,1,1,2,false⟩,⟨5,1,1,2,2,false⟩,⟨5,2,1,1,2,true⟩,⟨5,2,1,2,2,false⟩,⟨5,3,1,2,2,false⟩,⟨5,4,1,2,2,false⟩]
theorem dv9_ok:dv9.all Dv.ok=true:=by kernel_rfl
def dv10:List Dv:=[⟨7,0,1,0,2,true⟩,⟨7,0,1,1,2,false⟩,⟨7,1,1,1,2,false⟩,⟨7,2,1,1,2,false⟩,⟨7,3,1,1,2,false⟩,⟨7,4,1,1,2,false⟩]
theorem dv10_ok:dv10.all Dv.ok=true:=by kernel_rfl
def dv11:List Dv:=[⟨7,5,1,1,2,false⟩,⟨7,6,1,1,2,false⟩]
theorem dv11_ok:dv11.all Dv.ok=true:=by kernel_rfl
def dvs:List Dv:=dv0++dv1++dv2++dv3++dv4++dv5++dv6++dv7++dv8++dv9++dv10++dv11
theorem dvs_ok:dvs.all Dv.ok=true:=by
 simp only [dvs,List.all_append,dv0_ok,dv1_ok,dv2_ok,dv3_ok,dv4_ok,dv5_ok,dv6_ok,dv7_ok,dv8_ok,dv9_ok,dv10_ok,dv11_ok,Bool.and_self]
def Dv.is (l:LS_) (x:Dv):Bool:=decide (gI l 0=x.p)&&(decide (gI l 1=x.n)&&(decide (gI l 2=x.d)&&(decide (gI l 3=x.m)&&decide (gI l 4=x.e))))
def T137 {τ:Type} (l:LS_) (k:Nat→LS_→Option τ):Option τ :=
 Option.rec (motive:=fun _=>Option τ) none (fun x=>k 0 [.B x.b]) (dvs.find? (Dv.is l))
def shB:List PA:=[PA.mk (PV3.v pB) []]
theorem T137_ok {τ:Type} (ls:LS_) (κ:Ans→Option τ) (r:τ) (h:T137 ls (fun j l=>sel shB (fun s=>κ (fA s l)) j)=some r):∃ x,CS P 141 (fL2 ls [pI,pI,pI,pI,pI] 0) x∧κ x=some r:=by
 unfold T137 at h
 cases e:dvs.find? (Dv.is ls) with
 | none=>rw [e] at h;cases h
 | some x =>
  rw [e] at h
  refine ⟨_,?_,h⟩
  have h1:Dv.is ls x=true:=List.find?_some e
  have h2:Dv.ok x=true:=List.all_eq_true.1 dvs_ok x (List.mem_of_find?_eq_some e)
  have:=runC_ok cfgOk (chkB_ok h2)
  simp only [Dv.is,Bool.and_eq_true,decide_eq_true_eq] at h1
  obtain ⟨e0,e1,e2,e3,e4⟩:=h1
  rw [←e0,←e1,←e2,←e3,←e4] at this
  exact this
def T137.E:Ent P:=⟨141,[pI,pI,pI,pI,pI],shB,fun l k=>T137 l k,T137_ok⟩
def p99 (q:Nat):Bool:=chkM (fp q) (fe q) (fm q) (runC P Cf [T137.E,F127.E 64] 90 98 [.int .i64 (q:Int)])
theorem t99_q17:p99 17=true:=by kernel_rfl
theorem t99_q19:p99 19=true:=by kernel_rfl
theorem t99_q23:p99 23=true:=by kernel_rfl
theorem t99_q25:p99 25=true:=by kernel_rfl
theorem t99_q27:p99 27=true:=by kernel_rfl
theorem t99_q29:p99 29=true:=by kernel_rfl
theorem t99_q31:p99 31=true:=by kernel_rfl
theorem t99_q32:p99 32=true:=by kernel_rfl
theorem t99_q37:p99 37=true:=by kernel_rfl
theorem t99_q41:p99 41=true:=by kernel_rfl
theorem t99_q43:p99 43=true:=by kernel_rfl
theorem t99_q47:p99 47=true:=by kernel_rfl
theorem t99_q49:p99 49=true:=by kernel_rfl
theorem t99_q53:p99 53=true:=by kernel_rfl
theorem t99_q59:p99 59=true:=by kernel_rfl
theorem t99_q61:p99 61=true:=by kernel_rfl
theorem t99_q64:p99 64=true:=by kernel_rfl
theorem t99b:Qb.all p99=true:=by
 simp only [Qb,List.all_cons,List.all_nil,t99_q17,t99_q19,t99_q23,t99_q25,t99_q27,t99_q29,t99_q31,t99_q32,t99_q37,t99_q41,t99_q43,t99_q47,t99_q49,t99_q53,t99_q59,t99_q61,t99_q64,Bool.and_self]
def n99 (q:Nat):Bool:=chkE (runC P Cf [] 60 98 [.int .i64 (q:Int)])
theorem n99_0:[6,10,12,14].all n99=true:=by kernel_rfl
theorem n99_1:[15,18,20,21].all n99=true:=by kernel_rfl
theorem n99_2:[22,24,26,28].all n99=true:=by kernel_rfl
theorem n99_3:[30,33,34,35].all n99=true:=by kernel_rfl
theorem n99_4:[36,38,39,40].all n99=true:=by kernel_rfl
theorem n99_5:[42,44,45,46].all n99=true:=by kernel_rfl
theorem n99_6:[48,50,51,52].all n99=true:=by kernel_rfl
theorem n99_7:[54,55,56,57].all n99=true:=by kernel_rfl
theorem n99_8:[58,60,62,63].all n99=true:=by kernel_rfl
def NQ:List Nat:=[6,10,12,14]++[15,18,20,21]++[22,24,26,28]++[30,33,34,35]++[36,38,39,40]++[42,44,45,46]++[48,50,51,52]++[54,55,56,57]++[58,60,62,63]
theorem n99_all:NQ.all n99=true:=by
 simp only [NQ,List.all_append,n99_0,n99_1,n99_2,n99_3,n99_4,n99_5,n99_6,n99_7,n99_8,Bool.and_self]
theorem q_cases:(List.range 65).all (fun q=>decide (q<2) || (isq (q:Int) || NQ.contains q))=true:=by decide +kernel
theorem t99n {q:Nat} (hq:q<65) (h2:¬ q<2) (h:isq (q:Int)=false):n99 q=true:=by
 have:=List.all_eq_true.1 q_cases q (List.mem_range.2 hq)
 rw [h,Bool.false_or,decide_eq_false h2,Bool.false_or] at this
 exact List.all_eq_true.1 n99_all q (List.contains_iff_mem.1 this)
def F99e.O:Orc P:=⟨[],[],[],40⟩
def F99e {τ:Type} (l:LS_) (k:Nat→LS_→Option τ):Option τ :=
 br (ltI (gI l 0) (2:Int)) (k 0 []) (br (gtI (gI l 0) (64:Int)) (k 0 []) none)
theorem F99e.eq:FEq F99e.O 98 [pI] [PA.mk (PV3.tup [(PV2.agg [(PV1.intC IntKind.i64 (0:Int)),(PV1.intC IntKind.i64 (0:Int)),PV1.nilS]),(pC (1:Int))]) []] F99e:=by intro τ l κ;kernel_rfl
theorem no99 {q:Int} (h:isq q=false):CS P 98 [.int .i64 q] ⟨.tup [.agg [.int .i64 0,.int .i64 0,.nilS],.int .i64 1],[]⟩:=by
 by_cases h1:q<2
 ·refine F_ok F99e.eq (ls:=[.I q]) ?_
  unfold F99e
  simp only [gI_zero,h_]
  rw [br_of (by simpa using h1)]
  rfl
 ·by_cases h2:64<q
  ·refine F_ok F99e.eq (ls:=[.I q]) ?_
   unfold F99e
   simp only [gI_zero,h_]
   rw [br_no (by simpa using h1),br_of (by simpa using h2)]
   rfl
  ·obtain ⟨m,rfl⟩:∃ m:Nat,q=m:=⟨q.toNat,by omega⟩
   exact runC_ok cfgOk (chkE_ok (t99n (by omega) (by omega) h))
def p116 (q:Nat) (a:Int):Bool:=decide (a=0) || chkP (finv q a) (F116 64 [.I (fp q),.I (fe q),.L (fm q),.I a] (kk F116.sh))
theorem t116:Qs.all (fun q=>(List.range q).all fun a=>p116 q a)=true:=by kernel_rfl
def T116.E:Ent P:=⟨92,[pField,pI],shI,fun l k=>T116 l k,tabI_ok fun q hq a h0 h1 hz=>F_ok (F116.eq 64) (chkP_ok (or_no (all1 (p:=p116) t116 hq h0 h1) (by simpa using hz)))⟩
theorem t99_0:[2,3,4,5,7,8].all (fun q=>chkM (fp q) (fe q) (fm q) (runC P Cf [F127.E 64] 60 98 [.int .i64 (q:Int)]))=true:=by kernel_rfl
theorem t99_1:[9,11].all (fun q=>chkM (fp q) (fe q) (fm q) (runC P Cf [F127.E 64] 60 98 [.int .i64 (q:Int)]))=true:=by kernel_rfl
theorem t99_2:[13].all (fun q=>chkM (fp q) (fe q) (fm q) (runC P Cf [F127.E 64] 60 98 [.int .i64 (q:Int)]))=true:=by kernel_rfl
theorem t99_3:[16].all (fun q=>chkM (fp q) (fe q) (fm q) (runC P Cf [F127.E 64] 60 98 [.int .i64 (q:Int)]))=true:=by kernel_rfl
theorem t99:Qs.all (fun q=>chkM (fp q) (fe q) (fm q) (runC P Cf [F127.E 64] 60 98 [.int .i64 (q:Int)]))=true:=by
 have e:Qs=[2,3,4,5,7,8]++([9,11]++([13]++[16])):=rfl
 rw [e,List.all_append,t99_0,List.all_append,t99_1,List.all_append,t99_2,t99_3]
 rfl
theorem cs99:∀ q∈Qs++Qb,CS P 98 [.int .i64 (q:Int)] ⟨.tup [.agg [.int .i64 (fp q),.int .i64 (fe q),.ref 0 0 0 (fm q).length 1],.int .i64 0],[.i .i64 (fm q)]⟩:=fun q hq=>by
 rcases List.mem_append.1 hq with h | h
 ·have:=List.all_eq_true.1 t99 q h
  exact runC_ok cfgOk (chkM_ok this)
 ·have:p99 q=true:=List.all_eq_true.1 t99b q h
  unfold p99 at this
  exact runC_ok cfgOk (chkM_ok this)
def T99.E:Ent P:=⟨98,[pI],shM,fun l k=>T99 l k,tabM_ok cs99 (fun q hq=>no99 hq)⟩
end
end Go.Proofs.Yticbdgmcofjkeaa.Ai
namespace Go.Proofs.Yticbdgmcofjkeaa.Ai
open Go Go.RowKit
noncomputable section
variable {τ:Type} (t:Nat) (nx ex:Nat→LS_→Option τ) (l:LS_) (k κ:Nat→LS_→Option τ)
def L27_4.H:LHead:=⟨false,true,0,98308,98308,51,16,0,[(PS.mk (qR::qR::us 2 (pB::pI::us 20 [])) [])],[(Out.ret,(PS.mk (us 4 (pB::us 21 [])) [])),((Out.exit 0),(PS.mk (us 4 (pB::us 21 [])) []))]⟩
def L27_4.O:Orc P:=⟨[],[],[],40⟩
def L27_4.s0:Option τ :=
 br (ltI (gI l 5) (gN l 0))
 (ck (((leI 0 (gI l 5))&&(ltI (gI l 5) (gN l 0)))&&true)
 (ck (ltN ((Int.toNat (gI l 5))*1) (gL l 1).length)
 (ck (((leI 0 (gI l 5))&&(ltI (gI l 5) (gN l 2)))&&true)
 (ck (ltN ((Int.toNat (gI l 5))*1) (gL l 3).length)
 (br ((List.getD (gL l 1) ((Int.toNat (gI l 5))*1) 0) != (List.getD (gL l 3) ((Int.toNat (gI l 5))*1) 0))
 (ex 0 [.B false])
 (nx 0 [nG l 0,vG l 1,nG l 2,vG l 3,bG l 4,.I (wr .i64 ((gI l 5)+1))]))))))
 (ex 1 [bG l 4])
theorem L27_4.e0:LEq L27_4.O L27_4.H 0 L27_4.s0:=by intro τ next κ l;kernel_rfl
def L27_4:LStep P Cf:=LStep.mk1 (by decide) L27_4.e0
def L27_4.b:Option τ:=runE L27_4 fuel κ t l
def L27_4.E:LEnt P:=LStep.E L27_4
def F27.ps:List PV2:=[pR,pR]
def F27.sh:List PA:=[(PA.mk (PV3.v pB) [])]
def F27.O:Orc P:=⟨[],[L27_4.E],[],40⟩
def F27:Option τ :=
 br ((((gL l 0).length:Nat):Int) != (((gL l 1).length:Nat):Int))
 (k 0 [.B false])
 (L27_4.b 0 [.N (gL l 0).length,vG l 0,.N (gL l 1).length,vG l 1,.B false,.I 0]
 (fun j A=>(sw (k 0 [bG A 0])
 (sw (k 0 [.B true])
 (fun _=>none))) j))
theorem F27.eq:FEq F27.O 24 F27.ps F27.sh F27:=by intro τ l κ;kernel_rfl
def F27.E:Ent P:=mkF F27.eq
def L22_4.H:LHead:=⟨false,true,0,126980,126980,51,16,0,[(PS.mk (qM::qM::us 2 (pB::pI::us 21 [])) [])],[(Out.ret,(PS.mk (us 4 (pB::us 22 [])) [])),((Out.exit 0),(PS.mk (us 4 (pB::us 22 [])) []))]⟩
def L22_4.O:Orc P:=⟨[F27.E],[],[],40⟩
def L22_4.s0:Option τ :=
 br (ltI (gI l 5) (gN l 0))
 (ck (((leI 0 (gI l 5))&&(ltI (gI l 5) (gN l 0)))&&true)
 (ck (ltN ((Int.toNat (gI l 5))*1) (gLL l 1).length)
 (ck (((leI 0 (gI l 5))&&(ltI (gI l 5) (gN l 2)))&&true)
 (ck (ltN ((Int.toNat (gI l 5))*1) (gLL l 3).length)
 (ck ((eqM (List.getD (gLL l 1) ((Int.toNat (gI l 5))*1) []).length (List.getD (gLL l 1) ((Int.toNat (gI l 5))*1) []).length)&&((eqM (List.getD (gLL l 3) ((Int.toNat (gI l 5))*1) []).length (List.getD (gLL l 3) ((Int.toNat (gI l 5))*1) []).length)&&true))
 (F27 [.L (List.getD (gLL l 1) ((Int.toNat (gI l 5))*1) []),.L (List.getD (gLL l 3) ((Int.toNat (gI l 5))*1) [])]
 (fun j A=>(sw (br (!(gB A 0))
 (ex 0 [.B false])
 (nx 0 [nG l 0,wG l 1,nG l 2,wG l 3,bG l 4,.I (wr .i64 ((gI l 5)+1))]))
 (fun _=>none)) j)))))))
 (ex 1 [bG l 4])
theorem L22_4.e0:LEq L22_4.O L22_4.H 0 L22_4.s0:=by intro τ next κ l;kernel_rfl
def L22_4:LStep P Cf:=LStep.mk1 (by decide) L22_4.e0
def L22_4.b:Option τ:=runE L22_4 fuel κ t l
def L22_4.E:LEnt P:=LStep.E L22_4
def F22.ps:List PV2:=[pM,pM]
def F22.sh:List PA:=[(PA.mk (PV3.v pB) [])]
def F22.O:Orc P:=⟨[],[L22_4.E],[],40⟩
def F22:Option τ :=
 br ((((gLL l 0).length:Nat):Int) != (((gLL l 1).length:Nat):Int))
 (k 0 [.B false])
 (L22_4.b 0 [.N (gLL l 0).length,wG l 0,.N (gLL l 1).length,wG l 1,.B false,.I 0]
 (fun j A=>(sw (k 0 [bG A 0])
 (sw (k 0 [.B true])
 (fun _=>none))) j))
theorem F22.eq:FEq F22.O 31 F22.ps F22.sh F22:=by intro τ l κ;kernel_rfl
def F22.E:Ent P:=mkF F22.eq
def L30_3.H:LHead:=⟨false,true,0,196611,196611,398,128,0,[(PS.mk (us 1 (qR::qR::(pp 0)::us 3 ((rr 1)::pI::us 21 []))) [(oG [pI,pI,qR]),oI])],[((Out.exit 0),(PS.mk (us 7 ((rr 0)::us 22 [])) [oI]))]⟩
def L30_3.O:Orc P:=⟨[T77.E],[],[],40⟩
def L30_3.s0:Option τ :=
 br (ltI (gI l 5) (gN l 0))
 (ck (((leI 0 (gI l 5))&&(ltI (gI l 5) (gN l 0)))&&true)
 (ck (ltN ((Int.toNat (gI l 5))*1) (gL l 1).length)
 (ck (((leI 0 (gI l 5))&&(ltI (gI l 5) (gN l 2)))&&true)
 (ck (ltN ((Int.toNat (gI l 5))*1) (gL l 3).length)
 (ck (((eqM (gN l 8) (gL l 9).length)&&true)&&true)
 (T77 [iG l 6,iG l 7,vG l 9,.I (List.getD (gL l 1) ((Int.toNat (gI l 5))*1) 0),.I (List.getD (gL l 3) ((Int.toNat (gI l 5))*1) 0)]
 (fun j A=>(sw (ck (((((eqM (gL l 10).length ((gN l 4)*1))&&true)&&(eqM 1 1))&&(leN (((gN l 4)+1)*9) 1099511627776))&&true)
 (nx 0 [nG l 0,vG l 1,nG l 2,vG l 3,.N ((gN l 4)+1),.I (wr .i64 ((gI l 5)+1)),iG l 6,iG l 7,nG l 8,vG l 9,.L ((gL l 10)++(List.take 1 (List.drop 0 [(gI A 0)])))]))
 (fun _=>none)) j)))))))
 (ex 0 [nG l 4,vG l 10])
theorem L30_3.e0:LEq L30_3.O L30_3.H 0 L30_3.s0:=by intro τ next κ l;kernel_rfl
def L30_3:LStep P Cf:=LStep.mk1 (by decide) L30_3.e0
def L30_3.b:Option τ:=runE L30_3 fuel κ t l
def L30_3.E:LEnt P:=LStep.E L30_3
def F30.ps:List PV2:=[(PV2.agg [iI,iI,aI]),pR,pR]
def F30.sh:List PA:=[(PA.mk (PV3.v (rr 0)) [cI])]
def F30.O:Orc P:=⟨[],[L30_3.E],[],40⟩
def F30:Option τ :=
 L30_3.b 0 [.N (gL l 3).length,vG l 3,.N (gL l 4).length,vG l 4,.N 0,.I 0,iG l 0,iG l 1,.N (gL l 2).length,vG l 2,.L []]
 (fun j A=>(sw (k 0 [nG A 0,vG A 1])
 (fun _=>none)) j)
theorem F30.eq:FEq F30.O 48 F30.ps F30.sh F30:=by intro τ l κ;kernel_rfl
def F30.E:Ent P:=mkF F30.eq
end
end Go.Proofs.Yticbdgmcofjkeaa.Ai
