/-
Part 3 of 7 of the texts for one claim: Rw0 Ma1 Tb0 Fd Fr Tb1 Tb2 Fi Tb3 Xa Ma2 Ma3 Ma4 P2 P3.
-/
import Derived.WalkKit
import Derived.ProofKit
import Derived.OpenShut
import Derived.ChangeOld
import Derived.Below
import Derived.Carry
import Derived.SizedLaws
import Derived.ChangeShapes
import Derived.ChangeSlices
import Derived.Deep.Slices
import Derived.Deep.Matrix
import Derived.Test.YticbdgmcofjkeaaGreatFh2
set_option linter.unusedVariables false
set_option linter.unusedSimpArgs false
namespace Go.Proofs.YticbdgmcofjkeaaGreat.Ai
open Go Go.RowKit Go.ChangeShapes Go.WideShapes Go.ChangeAt Go.Deep
noncomputable section
def FB (W:World):Nat→Prop:=fun b=>∃ C t fr,W.heap[b]?=some (Obj.cells C t fr)
def wfI (k:IntKind) (n:Int):Prop:=(Lit.int k n).wf=true
def okLeaf:PV1→Leaf→Prop
 | .bool,.B _=>True
 | .int k,.I n=>wfI k n
 | .arr (.i k),.L l=>l.length≤maxLen∧∀ n∈l,wfI k n
 | .arr (.m k),.LL l=>l.length≤maxLen∧∀ r∈l,r.length≤maxLen∧∀ n∈r,wfI k n
 | _,_=>False
def RdC (W:World) (p:PV1) (v:Value):Prop:=∃ x:Leaf,okLeaf p x∧Rel noMap (FB W) W (f1 [x] p 0) v
def flatF (P:Program) (g:TypeId→Option (List PV1)):List Field→Nat→Option (List PV1)
 | [],_=>some []
 | f::fs,o=>if f.offset=o then (match g f.type,flatF P g fs (o+P.cellsOf f.type) with
  | some ps,some qs=>if P.cellsOf f.type=ps.length then some (ps++qs) else none
  | _,_=>none) else none
def flat (P:Program):Nat→TypeId→Option (List PV1)
 | 0,_=>none
 | n+1,t=>match P.underlying t with
  | some .bool=>some [.bool]
  | some (.int k)=>some [.int k]
  | some (.slice e)=>(match P.underlying e with
   | some (.int k)=>if P.cellsOf e=1 then some [.arr (.i k)] else none
   | some (.slice q)=>(match P.underlying q with
    | some (.int k)=>if P.cellsOf e=1∧P.cellsOf q=1 then some [.arr (.m k)] else none
    | _=>none)
   | _=>none)
  | some (.struct fs)=>flatF P (flat P n) fs.toList 0
  | some (.array m e)=>(match flat P n e with
   | some ps=>if P.cellsOf e=ps.length then some (List.replicate m ps).flatten else none
   | none=>none)
  | _=>none
section
variable {P:Program} {H:Type} {enc:TypeId×Value→H} {W:World}
theorem cell_FB {a:Addr} {v:Value} (h:W.cell? a=some v):FB W a.block∧a.spot=none:=by
 unfold World.cell? at h
 split at h
 ·rename_i c t fr e
  split at h
  ·cases h
  ·rename_i hs
   exact ⟨⟨c,t,fr,e⟩,by cases hq:a.spot <;> simp_all⟩
 ·cases h
theorem addr_add {a:Addr} (h:a.spot=none) (i:Nat):a.add i=⟨a.block,a.off+i,none⟩:=by
 unfold Addr.add
 split
 ·rename_i e;subst e;cases a;simp at h;subst h;rfl
 ·rfl
theorem rd_row {k:IntKind} {a:Addr} {len cap:Nat} {zs:List Int} (hl:len≤cap) (hm:cap≤maxLen) (hz:zs.length=cap) (hc:∀ i,i<zs.length→W.cell? (a.add i)=some (.int k (zs.getD i 0))) (hw:∀ n∈zs,wfI k n) :
  ∃ l:List Int,(l.length=len∧l.length≤maxLen∧∀ n∈l,wfI k n)∧Rel noMap (FB W) W (.sl l.length (.i k l)) (.slice (some a) len cap):=by
 refine ⟨zs.take len,⟨by simp;omega,by simp;omega,fun n hn=>hw n (List.mem_of_mem_take hn)⟩,?_⟩
 have e:(zs.take len).length=len:=by simp;omega
 by_cases h0:len=0
 ·subst h0
  exact .sl0 _ _ _
 ·obtain ⟨b1,b2⟩:=cell_FB (hc 0 (by omega))
  have b1':FB W a.block:=b1
  have b2':a.spot=none:=b2
  have hA:a=⟨a.block,a.off,none⟩:=by cases a;simp at b2';subst b2';rfl
  rw [e,hA]
  refine .sl (fun i=>.int k (zs.getD i 0)) hl b1' (fun j hj=>?_) (fun j hj=>?_)
  ·have hj':j<len:=by simpa [Cells.len,e] using hj
   have:=hc j (by omega)
   rwa [addr_add b2'] at this
  ·have hj':j<len:=by simpa [Cells.len,e] using hj
   have:(Cells.i k (zs.take len)).get j=.int k (zs.getD j 0):=by
    simp [Cells.get,List.getD_eq_getElem?_getD,List.getElem?_take,hj']
   rw [this]
   exact .int _ _
theorem rd_ints {t e:TypeId} {k:IntKind} {fuel:Nat} {cs:List Value} {x:DataW H×List MemPlace} (ht:P.underlying t=some (.slice e)) (he:P.underlying e=some (.int k)) (hc:P.cellsOf e=1)
  (h:DataW.trod enc P W 0 (fun _=>true) true fuel t cs=some x):∃ v,cs=[v]∧RdC W (.arr (.i k)) v:=by
 rcases open_ints ht he hc h with ⟨rfl,_⟩ | ⟨a,len,cap,zs,rfl,_,hl,hm,hz,_,hcell,hw⟩
 ·exact ⟨_,rfl,.L [],⟨by simp,by simp⟩,.sl0 _ _ _⟩
 ·simp only [if_true] at hz
  obtain ⟨l,⟨_,h1,h2⟩,h3⟩:=rd_row hl hm hz hcell hw
  exact ⟨_,rfl,.L l,⟨h1,h2⟩,h3⟩
theorem rd_rows {t e q:TypeId} {k:IntKind} {fuel:Nat} {cs:List Value} {x:DataW H×List MemPlace} (ht:P.underlying t=some (.slice e)) (he:P.underlying e=some (.slice q)) (hq:P.underlying q=some (.int k)) (ce:P.cellsOf e=1) (cq:P.cellsOf q=1)
  (h:DataW.trod enc P W 0 (fun _=>true) true fuel t cs=some x):∃ v,cs=[v]∧RdC W (.arr (.m k)) v:=by
 rcases open_int_rows ht he hq ce cq h with ⟨rfl,_⟩ | ⟨a,len,cap,A,L,C,Z,rfl,_,hl,hm,_,hr⟩
 ·exact ⟨_,rfl,.LL [],⟨by simp,by simp⟩,.sl0 _ _ _⟩
 ·have each:∀ r,r<cap→∃ l:List Int,(l.length=L r∧l.length≤maxLen∧∀ n∈l,wfI k n)∧Rel noMap (FB W) W (.sl l.length (.i k l)) (.slice (A r) (L r) (C r)):=by
   intro r hrc
   obtain ⟨h1,h2,h3,h4,h5,h6,h7⟩:=hr r hrc
   cases hA:A r with
   | none =>
    have:=h6 hA
    have hL:L r=0:=by omega
    refine ⟨[],⟨by simp [hL],by simp,by simp⟩,?_⟩
    rw [hL]
    exact .sl0 _ _ _
   | some a' =>
    exact rd_row h2 h3 h4 (fun i hi=>(h7 a' hA).2 i (by omega)) h5
  obtain ⟨l,hlr⟩:=choose_lt each
  refine ⟨_,rfl,.LL ((List.range len).map l),⟨by simp;omega,fun r hr'=>?_⟩,?_⟩
  ·obtain ⟨i,hi,rfl⟩:=List.mem_map.1 hr'
   exact (hlr i (by have:=List.mem_range.1 hi;omega)).1.2
  ·show Rel noMap (FB W) W (.sl ((List.range len).map l).length (.m k ((List.range len).map l))) _
   rw [List.length_map,List.length_range]
   by_cases h0:len=0
   ·subst h0
    exact .sl0 _ _ _
   ·obtain ⟨b1,b2⟩:=cell_FB (hr 0 (by omega)).1
    have b1':FB W a.block:=b1
    have b2':a.spot=none:=b2
    have hA:a=⟨a.block,a.off,none⟩:=by cases a;simp at b2';subst b2';rfl
    rw [hA]
    refine .sl (fun i=>.slice (A i) (L i) (C i)) hl b1' (fun j hj=>?_) (fun j hj=>?_)
    ·have hj':j<len:=by simpa [Cells.len] using hj
     have:=(hr j (by omega)).1
     rwa [addr_add b2'] at this
    ·have hj':j<len:=by simpa [Cells.len] using hj
     have:(Cells.m k ((List.range len).map l)).get j=row k (l j):=by
      simp [Cells.get,List.getD_eq_getElem?_getD,hj']
     rw [this]
     exact (hlr j (by omega)).2
def RdL (W:World) (ps:List PV1) (cs:List Value):Prop:=cs.length=ps.length∧∀ j,j<ps.length→RdC W (ps.getD j .undef) (cs.getD j Go.undef)
theorem RdL.append {ps qs:List PV1} {cs ds:List Value} (h:RdL W ps cs) (k:RdL W qs ds):RdL W (ps++qs) (cs++ds):=by
 refine ⟨by rw [List.length_append,List.length_append,h.1,k.1],fun j hj=>?_⟩
 by_cases hl:j<ps.length
 ·rw [List.getD_eq_getElem?_getD,List.getD_eq_getElem?_getD,List.getElem?_append_left hl,List.getElem?_append_left (by rw [h.1];exact hl),←List.getD_eq_getElem?_getD,←List.getD_eq_getElem?_getD]
  exact h.2 j hl
 ·rw [List.getD_eq_getElem?_getD,List.getD_eq_getElem?_getD,List.getElem?_append_right (by omega),List.getElem?_append_right (by rw [h.1];omega),←List.getD_eq_getElem?_getD,←List.getD_eq_getElem?_getD,h.1]
  exact k.2 _ (by simp at hj;omega)
theorem RdL.one {p:PV1} {v:Value} (h:RdC W p v):RdL W [p] [v]:=⟨rfl,fun j hj=>by
 have:j=0:=by simp at hj;exact hj
 subst this
 exact h⟩
theorem RdL.nil:RdL W [] []:=⟨rfl,fun j hj=>by simp at hj⟩
theorem flatF_rd {n fuel:Nat} (ih:∀ t ps cs x,flat P n t=some ps→DataW.trod enc P W 0 (fun _=>true) true fuel t cs=some x→P.cellsOf t=ps.length→RdL W ps cs):∀ (fs:List Field) (o:Nat) (ps:List PV1) (cs:List Value),flatF P (flat P n) fs o=some ps→cs.length=o+ps.length →
  (∀ f∈fs,∃ y,DataW.trod enc P W 0 (fun _=>true) true fuel f.type ((cs.drop f.offset).take (P.cellsOf f.type))=some y)→RdL W ps (cs.drop o)
 | [],o,ps,cs,h,hl,_=>by
  unfold flatF at h
  cases h
  have:cs.drop o=[]:=List.drop_eq_nil_of_le (by simp at hl;omega)
  rw [this]
  exact .nil
 | f::fs,o,ps,cs,h,hl,hf=>by
  unfold flatF at h
  split at h
  ·rename_i ho
   split at h
   ·rename_i p1 p2 h1 h2
    split at h
    ·rename_i hc
     cases h
     obtain ⟨y,hy⟩:=hf f (by simp)
     have a1:=ih _ _ _ _ h1 hy hc
     have a2:=flatF_rd ih fs (o+P.cellsOf f.type) p2 cs h2 (by simp at hl;omega) (fun g hg=>hf g (by simp [hg]))
     rw [ho] at a1
     have:=a1.append a2
     rw [←List.drop_drop,List.take_append_drop] at this
     exact this
    ·cases h
   ·cases h
  ·cases h
theorem flatA_rd {n fuel:Nat} {e:TypeId} {ps:List PV1} (ih:∀ t ps cs x,flat P n t=some ps→DataW.trod enc P W 0 (fun _=>true) true fuel t cs=some x→P.cellsOf t=ps.length→RdL W ps cs) (he:flat P n e=some ps) (hc:P.cellsOf e=ps.length):∀ (m o:Nat) (cs:List Value),cs.length=(o+m)*ps.length →
  (∀ i,i<m→∃ y,DataW.trod enc P W 0 (fun _=>true) true fuel e ((cs.drop ((o+i)*P.cellsOf e)).take (P.cellsOf e))=some y)→RdL W (List.replicate m ps).flatten (cs.drop (o*ps.length))
 | 0,o,cs,hl,_=>by
  have:cs.drop (o*ps.length)=[]:=List.drop_eq_nil_of_le (by simp at hl;omega)
  rw [this]
  exact .nil
 | m+1,o,cs,hl,hf=>by
  obtain ⟨y,hy⟩:=hf 0 (by omega)
  have a1:=ih _ _ _ _ he hy hc
  have a2:=flatA_rd ih he hc m (o+1) cs (by rw [hl];congr 1;omega) (fun i hi=>by have:=hf (i+1) (by omega);rwa [show o+(i+1)=o+1+i by omega] at this)
  have:=a1.append a2
  rw [Nat.add_zero,hc,Nat.add_mul,Nat.one_mul,←List.drop_drop,List.take_append_drop] at this
  exact this
theorem flat_rd:∀ (n fuel:Nat) (t:TypeId) (ps:List PV1) (cs:List Value) (x:DataW H×List MemPlace),flat P n t=some ps→DataW.trod enc P W 0 (fun _=>true) true fuel t cs=some x→P.cellsOf t=ps.length→RdL W ps cs
 | 0,_,_,_,_,_,h,_,_=>by unfold flat at h;cases h
 | n+1,fuel,t,ps,cs,x,h,hx,hc=>by
  unfold flat at h
  split at h
  ·rename_i ht
   cases h
   obtain ⟨b,rfl,_⟩:=DataW.trod_bool ht hx
   exact .one ⟨.B b,trivial,.bool b⟩
  ·rename_i k ht
   cases h
   obtain ⟨m,rfl,_,hw⟩:=DataW.trod_int ht hx
   exact .one ⟨.I m,hw,.int k m⟩
  ·rename_i e ht
   split at h
   ·rename_i k he
    split at h
    ·rename_i h1
     cases h
     obtain ⟨v,rfl,hv⟩:=rd_ints ht he h1 hx
     exact .one hv
    ·cases h
   ·rename_i q he
    split at h
    ·rename_i k hq
     split at h
     ·rename_i h1
      cases h
      obtain ⟨v,rfl,hv⟩:=rd_rows ht he hq h1.1 h1.2 hx
      exact .one hv
     ·cases h
    ·cases h
   ·cases h
  ·rename_i fs ht
   obtain ⟨xs,m,rfl,rfl,hl,hlen,hf⟩:=DataW.trod_struct ht hx
   have:=flatF_rd (enc:=enc) (W:=W) (n:=n) (fuel:=m) (fun t ps cs x h1 h2 h3=>flat_rd n m t ps cs x h1 h2 h3) fs.toList 0 ps cs h (by omega) (fun f hf'=>?_)
   ·simpa using this
   ·obtain ⟨i,hi,e⟩:=List.getElem_of_mem hf'
    have hi':i<fs.size:=by simpa using hi
    have:=hf i f (by rw [←e];simp [hi'])
    refine ⟨xs[i]'(by omega),?_⟩
    rw [this]
    simp [show i<xs.length by omega]
  ·rename_i m e ht
   split at h
   ·rename_i ps' he
    split at h
    ·rename_i h1
     cases h
     obtain ⟨xs,m',rfl,rfl,hl,hlen,hf⟩:=DataW.trod_array ht hx
     have:=flatA_rd (enc:=enc) (W:=W) (n:=n) (fuel:=m') (fun t ps cs x h1 h2 h3=>flat_rd n m' t ps cs x h1 h2 h3) he h1 m 0 cs (by rw [hl,hc];simp) (fun i hi=>by
      refine ⟨xs[i]'(by omega),?_⟩
      rw [Nat.zero_add,hf i hi]
      simp [show i<xs.length by omega])
     simpa using this
    ·cases h
   ·cases h
  ·cases h
def okLs (ps:List PV1) (ls:LS_):Prop:=ls.length=ps.length∧∀ j,j<ps.length→okLeaf (ps.getD j .undef) (lget (.I 0) ls j)
theorem f1_mid {p:PV1} {x:Leaf} (h:okLeaf p x) (q r:LS_) {i:Nat} (hi:i=q.length):f1 (q++(x::r)) p i=f1 [x] p 0∧p.n=1:=by
 unfold okLeaf at h
 split at h
 ·exact ⟨by simp [f1,gB,lget_mid _ q _ r i hi];rfl,rfl⟩
 ·exact ⟨by simp [f1,gI,lget_mid _ q _ r i hi];rfl,rfl⟩
 ·exact ⟨by simp only [f1,fC0,gL,lget_mid _ q _ r i hi];rfl,rfl⟩
 ·exact ⟨by simp only [f1,fC0,gLL,lget_mid _ q _ r i hi];rfl,rfl⟩
 ·exact h.elim
def RelV (W:World) (av:List AV) (vs:List Value):Prop:=av.length=vs.length∧∀ j,j<av.length→Rel noMap (FB W) W (av.getD j .undef) (vs.getD j Go.undef)
theorem RelV.cons {a:AV} {v:Value} {av:List AV} {vs:List Value} (h:Rel noMap (FB W) W a v) (k:RelV W av vs):RelV W (a::av) (v::vs) :=
 ⟨by simp [k.1],fun j hj=>by
  cases j with
  | zero=>exact h
  | succ j=>simpa using k.2 j (by simpa using hj)⟩
theorem RelV.nil:RelV W [] []:=⟨rfl,fun j hj=>by simp at hj⟩
theorem RdL.cons {p:PV1} {ps:List PV1} {cs:List Value} (h:RdL W (p::ps) cs):∃ v cs',cs=v::cs'∧RdC W p v∧RdL W ps cs':=by
 cases cs with
 | nil=>have:=h.1;simp at this
 | cons v cs'=>exact ⟨v,cs',rfl,by simpa using h.2 0 (by simp),by simpa using h.1,fun j hj=>by simpa using h.2 (j+1) (by simpa using hj)⟩
theorem okLs.cons {p:PV1} {ps:List PV1} {x:Leaf} {ls:LS_} (h:okLeaf p x) (k:okLs ps ls):okLs (p::ps) (x::ls):=⟨by simp [k.1],fun j hj=>by
 cases j with
 | zero=>exact h
 | succ j =>
  have:=k.2 j (by simpa using hj)
  show okLeaf (ps.getD j .undef) (lget (.I 0) ls j)
  exact this⟩
theorem okLs.tail {p:PV1} {ps:List PV1} {x:Leaf} {ls:LS_} (h:okLs (p::ps) (x::ls)):okLeaf p x∧okLs ps ls :=
 ⟨h.2 0 (by simp),by simpa using h.1,fun j hj=>h.2 (j+1) (by simpa using hj)⟩
theorem okLs.append {ps qs:List PV1} {ls ms:LS_} (h:okLs ps ls) (k:okLs qs ms):okLs (ps++qs) (ls++ms):=by
 induction ps generalizing ls with
 | nil=>have:=h.1;simp at this;subst this;exact k
 | cons p ps ih =>
  cases ls with
  | nil=>have:=h.1;simp at this
  | cons x ls=>exact .cons h.tail.1 (ih h.tail.2)
theorem rd_leaves:∀ {ps:List PV1} {cs:List Value},RdL W ps cs→∃ ls,okLs ps ls∧nL1 ps=ls.length∧∀ (q r:LS_) {i:Nat},i=q.length→RelV W (fL1 (q++(ls++r)) ps i) cs
 | [],cs,h=>by
  have:=h.1
  simp at this
  subst this
  exact ⟨[],⟨rfl,fun j hj=>by simp at hj⟩,rfl,fun q r i hi=>.nil⟩
 | p::ps,cs,h=>by
  obtain ⟨v,cs',rfl,⟨x,h1,h2⟩,h3⟩:=h.cons
  obtain ⟨ls,k1,k2,k3⟩:=rd_leaves h3
  refine ⟨x::ls,.cons h1 k1,?_,fun q r i hi=>?_⟩
  ·have:=(f1_mid h1 [] [] (i:=0) rfl).2
   simp [nL1,this,k2];omega
  ·obtain ⟨e1,e2⟩:=f1_mid h1 q (ls++r) hi
   show RelV W (f1 (q++(x::(ls++r))) p i::fL1 (q++(x::(ls++r))) ps (p.n+i)) _
   rw [e1,e2]
   have:=k3 (q++[x]) r (i:=1+i) (by simp;omega)
   rw [List.append_assoc] at this
   exact .cons h2 this
def isAggT (P:Program) (t:TypeId):Bool:=match P.underlying t with
 | some (.struct _)=>true
 | some (.array _ _)=>true
 | _=>false
inductive PatOk (P:Program):TypeId→PV2→Prop where
 | v {t:TypeId} {p:PV1} (hs:isAggT P t=false) (hf:flat P 20 t=some [p]) (hc:P.cellsOf t=1):PatOk P t (.v p)
 | agg {t:TypeId} {ps:List PV1} (hs:isAggT P t=true) (hf:flat P 20 t=some ps) (hc:P.cellsOf t=ps.length):PatOk P t (.agg ps)
inductive PatsOk (P:Program):List TypeId→List PV2→Prop where
 | nil:PatsOk P [] []
 | cons {t:TypeId} {p:PV2} {ts:List TypeId} {ps:List PV2} (h:PatOk P t p) (k:PatsOk P ts ps):PatsOk P (t::ts) (p::ps)
def cells2:PV2→List PV1
 | .v p=>[p]
 | .agg ps=>ps
 | _=>[]
theorem rd_one {t:TypeId} {p:PV2} (hp:PatOk P t p) {base:Nat} {v:Value} (hv:Value.okWide P W .any base t v) {d:DataW H} {ps:List MemPlace} (h:DataW.Trod enc P W 0 (fun _=>true) true t v d ps) :
  ∃ ls,okLs (cells2 p) ls∧p.n=ls.length∧∀ (q r:LS_) {i:Nat},i=q.length→Rel noMap (FB W) W (f2 (q++(ls++r)) p i) v:=by
 obtain ⟨fuel,h⟩:=h
 cases hp with
 | v hs hf hc =>
  have h1:=flat_rd 20 fuel t _ _ _ hf h hc
  obtain ⟨ls,k1,k2,k3⟩:=rd_leaves h1
  refine ⟨ls,k1,by simpa [nL1,PV2.n] using k2,fun q r i hi=>?_⟩
  have:=(k3 q r hi).2 0 (by simp [fL1])
  have hcell:v.cells.toList.getD 0 Go.undef=v:=by
   unfold Value.okWide at hv
   unfold isAggT at hs
   obtain ⟨w,cs',e,hw,_⟩:=h1.cons
   have hl:=h1.1
   cases v with
   | agg cs =>
    exfalso
    split at hv
    ·rename_i hq;rw [hq] at hs;cases hs
    ·rename_i hq;rw [hq] at hs;cases hs
    ·unfold Cell.okWide at hv
     split at hv <;> first | (simp_all;done) | (unfold Cell.ok at hv;split at hv <;> simp_all)
   | tuple cs =>
    exfalso
    split at hv
    ·rename_i hq;rw [hq] at hs;cases hs
    ·rename_i hq;rw [hq] at hs;cases hs
    ·unfold Cell.okWide at hv
     split at hv <;> first | (simp_all;done) | (unfold Cell.ok at hv;split at hv <;> simp_all)
   | _=>rfl
  rw [hcell] at this
  exact this
 | agg hs hf hc =>
  obtain ⟨ls,k1,k2,k3⟩:=rd_leaves (flat_rd 20 fuel t _ _ _ hf h hc)
  refine ⟨ls,k1,by simpa [PV2.n] using k2,fun q r i hi=>?_⟩
  have hvc:∃ cs,v=.agg cs:=by
   unfold Value.okWide at hv
   unfold isAggT at hs
   split at hv
   ·obtain ⟨cs,e,_⟩:=hv;exact ⟨cs,e⟩
   ·obtain ⟨cs,e,_⟩:=hv;exact ⟨cs,e⟩
   ·rename_i h1 h2
    split at hs
    ·rename_i fs hq;exact absurd hq (h1 fs)
    ·rename_i n e hq;exact absurd hq (h2 n e)
    ·cases hs
  obtain ⟨cs,rfl⟩:=hvc
  have:=k3 q r hi
  refine .agg (by simpa [Value.cells] using this.1) fun j hj=>?_
  have:=this.2 j hj
  simpa [Value.cells,Array.getD_eq_getD_getElem?,List.getD_eq_getElem?_getD] using this
theorem rd_args:∀ {ts:List TypeId} {pats:List PV2} (hp:PatsOk P ts pats) {base:Nat} {vs:List Value} {ds:List (DataW H)} {ps:List MemPlace},DataW.TrodAll enc P W 0 (fun _=>true) true ts vs ds ps →
  (∀ (j:Nat) t v,ts[j]?=some t→vs[j]?=some v→Value.okWide P W .any base t v)→∃ ls,okLs (pats.flatMap cells2) ls∧nL2 pats=ls.length∧∀ (q r:LS_) {i:Nat},i=q.length→RelV W (fL2 (q++(ls++r)) pats i) vs
 | [],_,.nil,base,vs,ds,ps,h,_=>by
  cases vs <;> cases ds <;> simp [DataW.TrodAll] at h
  exact ⟨[],⟨rfl,fun j hj=>by simp at hj⟩,rfl,fun q r i hi=>.nil⟩
 | t::ts,_,.cons (p:=p) (ps:=pats) h0 hp,base,vs,ds,ps,h,hok=>by
  obtain ⟨v,vs',d,ds',p',q',rfl,rfl,rfl,h1,h2⟩:=trodAll_cons h
  obtain ⟨l1,a1,a2,a3⟩:=rd_one h0 (hok 0 t v rfl rfl) h1
  obtain ⟨l2,b1,b2,b3⟩:=rd_args hp h2 (fun j t v e1 e2=>hok (j+1) t v (by simpa using e1) (by simpa using e2))
  refine ⟨l1++l2,by simpa using a1.append b1,by simp [nL2,a2,b2],fun q r i hi=>?_⟩
  rw [List.append_assoc]
  have e1:=a3 q (l2++r) hi
  have e2:=b3 (q++l1) r (i:=p.n+i) (by simp [a2];omega)
  rw [List.append_assoc] at e2
  exact .cons e1 e2
theorem walk_of {f:FuncId} {av:List AV} {args:Array Value} (h:CS P f av ⟨.bool true,[]⟩) (ha:RelV W av args.toList):Calls P f args W fun e W'=>e=.returned (.bool true)∧Below W.heap.size W W':=by
 have ha':RelL noMap (FB W) W av args:=⟨by simpa using ha.1,fun j hj=>by
  have:=ha.2 j hj
  simpa [Array.getD_eq_getD_getElem?,List.getD_eq_getElem?_getD] using this⟩
 refine callsIn_wide.1 ((h 0 W (FB W) args (fun b hb=>hb) ha').mono ?_)
 rintro e W' ⟨_,v,β',F',rfl,hI,hv⟩
 cases hv
 exact ⟨rfl,hI.below.os,hI.below.tape,hI.below.output,hI.below.size,hI.below.block⟩
theorem trodAll_lt {sp:Nat→Bool} {hd:Bool}:∀ {ts:List TypeId} {vs:List Value} {ds:List (DataW H)} {ps:List MemPlace},DataW.TrodAll enc P W 0 sp hd ts vs ds ps→∀ x∈ps,x.block<W.heap.size
 | [],vs,ds,ps,h=>by cases vs <;> cases ds <;> simp [DataW.TrodAll] at h;subst h;simp
 | t::ts,vs,ds,ps,h=>by
  obtain ⟨v,vs',d,ds',p',q',rfl,rfl,rfl,⟨m,h1⟩,h2⟩:=trodAll_cons h
  intro x hx
  rcases List.mem_append.1 hx with hx | hx
  ·exact DataW.trod_lt m _ _ _ h1 x hx
  ·exact trodAll_lt h2 x hx
theorem trodAll_back (hl:laidOutB P=true) {W':World} (hb:Below W.heap.size W W'):∀ {ts:List TypeId} {vs:List Value} {ds:List (DataW H)} {ps:List MemPlace},(∀ t∈ts,P.readableRec t=true∧t<P.types.size)→DataW.TrodAll enc P W 0 (fun _=>true) true ts vs ds ps →
  DataW.TrodAll enc P W' 0 (fun b=>decide (b<W.heap.size)) true ts vs ds ps
 | [],vs,ds,ps,_,h=>by cases vs <;> cases ds <;> simp [DataW.TrodAll] at h ⊢;exact h
 | t::ts,vs,ds,ps,hr,h=>by
  have hlt:=trodAll_lt h
  obtain ⟨v,vs',d,ds',p',q',rfl,rfl,rfl,h1,h2⟩:=trodAll_cons h
  exact ⟨p',q',Below.trod hl (hr t (by simp)).1 (hr t (by simp)).2 h1 hb (fun x hx=>hlt x (List.mem_append.2 (.inl hx))),trodAll_back hl hb (fun t ht=>hr t (by simp [ht])) h2,rfl⟩
end
end
end Go.Proofs.YticbdgmcofjkeaaGreat.Ai
namespace Go.Proofs.YticbdgmcofjkeaaGreat.Ma
def tabAdd4:List (List Int):=[[0,1,2,3],[1,0,3,2],[2,3,0,1],[3,2,1,0]]
def tabMul4:List (List Int):=[[0,0,0,0],[0,1,2,3],[0,2,3,1],[0,3,1,2]]
def tabAdd8:List (List Int):=[[0,1,2,3,4,5,6,7],[1,0,3,2,5,4,7,6],[2,3,0,1,6,7,4,5],[3,2,1,0,7,6,5,4],[4,5,6,7,0,1,2,3],[5,4,7,6,1,0,3,2],[6,7,4,5,2,3,0,1],[7,6,5,4,3,2,1,0]]
def tabMul8:List (List Int):=[[0,0,0,0,0,0,0,0],[0,1,2,3,4,5,6,7],[0,2,4,6,3,1,7,5],[0,3,6,5,7,4,1,2],[0,4,3,7,6,2,5,1],[0,5,1,4,2,7,3,6],[0,6,7,1,5,3,2,4],[0,7,5,2,1,6,4,3]]
def look (t:List (List Int)) (a b:Int):Int:=(t.getD a.toNat []).getD b.toNat 0
def fadd (q:Nat) (a b:Int):Int:=if q=4 then look tabAdd4 a b else if q=8 then look tabAdd8 a b else (a+b) % q
def fmul (q:Nat) (a b:Int):Int:=if q=4 then look tabMul4 a b else if q=8 then look tabMul8 a b else (a*b) % q
def fneg (q:Nat) (a:Int):Int:=if q=4 then a else if q=8 then a else (-a) % q
def finv (q:Nat) (a:Int):Int:=(((List.range q).find? fun (b:Nat)=>fmul q (b:Int) a==1).getD 0:Nat)
def Qs:List Nat:=[2,3,4,5,7,8]
structure Fld (q:Nat) (add mul:Int→Int→Int) (neg inv:Int→Int):Prop where
 one_lt:1<q
 add_in:∀ a b:Int,0≤a→a<q→0≤b→b<q→0≤add a b∧add a b<q
 mul_in:∀ a b:Int,0≤a→a<q→0≤b→b<q→0≤mul a b∧mul a b<q
 neg_in:∀ a:Int,0≤a→a<q→0≤neg a∧neg a<q
 inv_in:∀ a:Int,0≤a→a<q→0≤inv a∧inv a<q
 add_comm:∀ a b:Int,0≤a→a<q→0≤b→b<q→add a b=add b a
 add_assoc:∀ a b c:Int,0≤a→a<q→0≤b→b<q→0≤c→c<q→add (add a b) c=add a (add b c)
 zero_add:∀ a:Int,0≤a→a<q→add 0 a=a
 mul_comm:∀ a b:Int,0≤a→a<q→0≤b→b<q→mul a b=mul b a
 mul_assoc:∀ a b c:Int,0≤a→a<q→0≤b→b<q→0≤c→c<q→mul (mul a b) c=mul a (mul b c)
 one_mul:∀ a:Int,0≤a→a<q→mul 1 a=a
 zero_mul:∀ a:Int,0≤a→a<q→mul 0 a=0
 distrib:∀ a b c:Int,0≤a→a<q→0≤b→b<q→0≤c→c<q→mul a (add b c)=add (mul a b) (mul a c)
 add_neg:∀ a:Int,0≤a→a<q→add a (neg a)=0
 neg_zero:neg 0=0
 mul_inv:∀ a:Int,0≤a→a<q→a≠0→mul (inv a) a=1
 inv_one:inv 1=1
def chk1 (q:Nat) (p:Int→Bool):Bool:=(List.range q).all fun a=>p a
def chk2 (q:Nat) (p:Int→Int→Bool):Bool:=(List.range q).all fun a=>(List.range q).all fun b=>p a b
def chk3 (q:Nat) (p:Int→Int→Int→Bool):Bool:=(List.range q).all fun a=>(List.range q).all fun b=>(List.range q).all fun c=>p a b c
theorem chk1_ok {q:Nat} {p:Int→Bool} (h:chk1 q p=true) (a:Int) (h0:0≤a) (h1:a<q):p a=true:=by
 have:=List.all_eq_true.1 h a.toNat (by simp;omega)
 rwa [Int.toNat_of_nonneg h0] at this
theorem chk2_ok {q:Nat} {p:Int→Int→Bool} (h:chk2 q p=true) (a b:Int) (h0:0≤a) (h1:a<q) (h2:0≤b) (h3:b<q):p a b=true:=by
 have:=List.all_eq_true.1 h a.toNat (by simp;omega)
 rw [Int.toNat_of_nonneg h0] at this
 have:=List.all_eq_true.1 this b.toNat (by simp;omega)
 rwa [Int.toNat_of_nonneg h2] at this
theorem chk3_ok {q:Nat} {p:Int→Int→Int→Bool} (h:chk3 q p=true) (a b c:Int) (h0:0≤a) (h1:a<q) (h2:0≤b) (h3:b<q) (h4:0≤c) (h5:c<q):p a b c=true:=by
 have:=List.all_eq_true.1 h a.toNat (by simp;omega)
 rw [Int.toNat_of_nonneg h0] at this
 have:=List.all_eq_true.1 this b.toNat (by simp;omega)
 rw [Int.toNat_of_nonneg h2] at this
 have:=List.all_eq_true.1 this c.toNat (by simp;omega)
 rwa [Int.toNat_of_nonneg h4] at this
def fldB (q:Nat) (add mul:Int→Int→Int) (neg inv:Int→Int):Bool :=
 decide (1<q)&&(chk2 q (fun a b=>decide (0≤add a b)&&decide (add a b<q))&&(chk2 q (fun a b=>decide (0≤mul a b)&&decide (mul a b<q))&&(chk1 q (fun a=>decide (0≤neg a)&&decide (neg a<q)) &&
 (chk1 q (fun a=>decide (0≤inv a)&&decide (inv a<q))&&(chk2 q (fun a b=>decide (add a b=add b a))&&(chk3 q (fun a b c=>decide (add (add a b) c=add a (add b c)))&&(chk1 q (fun a=>decide (add 0 a=a)) &&
 (chk2 q (fun a b=>decide (mul a b=mul b a))&&(chk3 q (fun a b c=>decide (mul (mul a b) c=mul a (mul b c)))&&(chk1 q (fun a=>decide (mul 1 a=a))&&(chk1 q (fun a=>decide (mul 0 a=0)) &&
 (chk3 q (fun a b c=>decide (mul a (add b c)=add (mul a b) (mul a c)))&&(chk1 q (fun a=>decide (add a (neg a)=0))&&(decide (neg 0=0)&&(chk1 q (fun a=>decide (a=0) || decide (mul (inv a) a=1))&&decide (inv 1=1))))))))))))))))
theorem fldB_ok {q:Nat} {add mul:Int→Int→Int} {neg inv:Int→Int} (h:fldB q add mul neg inv=true):Fld q add mul neg inv:=by
 unfold fldB at h
 simp only [Bool.and_eq_true,decide_eq_true_eq] at h
 obtain ⟨h1,h2,h3,h4,h5,h6,h7,h8,h9,h10,h11,h12,h13,h14,h15,h16,h17⟩:=h
 refine ⟨h1,fun a b p1 p2 p3 p4=>?_,fun a b p1 p2 p3 p4=>?_,fun a p1 p2=>?_,fun a p1 p2=>?_,fun a b p1 p2 p3 p4=>?_,fun a b c p1 p2 p3 p4 p5 p6=>?_,fun a p1 p2=>?_,fun a b p1 p2 p3 p4=>?_,fun a b c p1 p2 p3 p4 p5 p6=>?_,fun a p1 p2=>?_,fun a p1 p2=>?_,fun a b c p1 p2 p3 p4 p5 p6=>?_,fun a p1 p2=>?_,h15,fun a p1 p2 hz=>?_,h17⟩
 ·simpa using chk2_ok h2 a b p1 p2 p3 p4
 ·simpa using chk2_ok h3 a b p1 p2 p3 p4
 ·simpa using chk1_ok h4 a p1 p2
 ·simpa using chk1_ok h5 a p1 p2
 ·simpa using chk2_ok h6 a b p1 p2 p3 p4
 ·simpa using chk3_ok h7 a b c p1 p2 p3 p4 p5 p6
 ·simpa using chk1_ok h8 a p1 p2
 ·simpa using chk2_ok h9 a b p1 p2 p3 p4
 ·simpa using chk3_ok h10 a b c p1 p2 p3 p4 p5 p6
 ·simpa using chk1_ok h11 a p1 p2
 ·simpa using chk1_ok h12 a p1 p2
 ·simpa using chk3_ok h13 a b c p1 p2 p3 p4 p5 p6
 ·simpa using chk1_ok h14 a p1 p2
 ·have:=chk1_ok h16 a p1 p2
  simpa [hz] using this
theorem fld_of {q:Nat} (hq:q∈Qs):Fld q (fadd q) (fmul q) (fneg q) (finv q):=by
 refine fldB_ok ?_
 have:Qs.all (fun q=>fldB q (fadd q) (fmul q) (fneg q) (finv q))=true:=by decide +kernel
 exact List.all_eq_true.1 this q hq
end Go.Proofs.YticbdgmcofjkeaaGreat.Ma
namespace Go.Proofs.YticbdgmcofjkeaaGreat.Ai
open Go Go.RowKit Ma
noncomputable section
def fp (q:Nat):Int:=if q=4 then 2 else if q=8 then 2 else q
def fe (q:Nat):Int:=if q=4 then 2 else if q=8 then 3 else 1
def fm (q:Nat):List Int:=if q=4 then [1,1] else if q=8 then [1,1,0] else [0]
def fq (p e:Int) (mod:List Int):Nat:=((Qs.find? fun q=>decide (p=fp q)&&(decide (e=fe q)&&decide (mod=fm q))).getD 0)
def inq (q:Nat) (a:Int):Bool:=decide (0≤a)&&decide (a<q)
def tab2 (f:Nat→Int→Int→Int) {τ:Type} (l:LS_) (k:Nat→LS_→Option τ):Option τ :=
 ck (decide (fq (gI l 0) (gI l 1) (gL l 2)∈Qs)&&(inq (fq (gI l 0) (gI l 1) (gL l 2)) (gI l 3)&&inq (fq (gI l 0) (gI l 1) (gL l 2)) (gI l 4))) (k 0 [.I (f (fq (gI l 0) (gI l 1) (gL l 2)) (gI l 3) (gI l 4))])
def tab1 (f:Nat→Int→Int) {τ:Type} (l:LS_) (k:Nat→LS_→Option τ):Option τ :=
 ck (decide (fq (gI l 0) (gI l 1) (gL l 2)∈Qs)&&inq (fq (gI l 0) (gI l 1) (gL l 2)) (gI l 3)) (k 0 [.I (f (fq (gI l 0) (gI l 1) (gL l 2)) (gI l 3))])
def tabI {τ:Type} (l:LS_) (k:Nat→LS_→Option τ):Option τ :=
 ck (decide (fq (gI l 0) (gI l 1) (gL l 2)∈Qs)&&(inq (fq (gI l 0) (gI l 1) (gL l 2)) (gI l 3)&&decide (gI l 3≠0))) (k 0 [.I (finv (fq (gI l 0) (gI l 1) (gL l 2)) (gI l 3))])
def tabM {τ:Type} (l:LS_) (k:Nat→LS_→Option τ):Option τ :=
 ck (decide (0≤gI l 0)&&decide ((gI l 0).toNat∈Qs)) (k 0 [.I (fp (gI l 0).toNat),.I (fe (gI l 0).toNat),.N (fm (gI l 0).toNat).length,.L (fm (gI l 0).toNat)])
def T77 {τ:Type} (l:LS_) (k:Nat→LS_→Option τ):Option τ:=tab2 fadd l k
def T103 {τ:Type} (l:LS_) (k:Nat→LS_→Option τ):Option τ:=tab2 fadd l k
def T89 {τ:Type} (l:LS_) (k:Nat→LS_→Option τ):Option τ:=tab2 fmul l k
def T104 {τ:Type} (l:LS_) (k:Nat→LS_→Option τ):Option τ:=tab2 fmul l k
def T79 {τ:Type} (l:LS_) (k:Nat→LS_→Option τ):Option τ:=tab1 fneg l k
def T83 {τ:Type} (l:LS_) (k:Nat→LS_→Option τ):Option τ:=tab1 fneg l k
def T111 {τ:Type} (l:LS_) (k:Nat→LS_→Option τ):Option τ:=tabI l k
def T116 {τ:Type} (l:LS_) (k:Nat→LS_→Option τ):Option τ:=tabI l k
def T76 {τ:Type} (l:LS_) (k:Nat→LS_→Option τ):Option τ:=tabM l k
def T99 {τ:Type} (l:LS_) (k:Nat→LS_→Option τ):Option τ:=tabM l k
theorem fq_of {q:Nat} (hq:q∈Qs):fq (fp q) (fe q) (fm q)=q:=by
 have:Qs.all (fun q=>decide (fq (fp q) (fe q) (fm q)=q))=true:=by decide +kernel
 simpa using List.all_eq_true.1 this q hq
theorem tab2_of {f:Nat→Int→Int→Int} {q:Nat} (hq:q∈Qs) {a b:Int} (h0:0≤a) (h1:a<q) (h2:0≤b) (h3:b<q) {τ:Type} (k:Nat→LS_→Option τ) :
  tab2 f [.I (fp q),.I (fe q),.L (fm q),.I a,.I b] k=k 0 [.I (f q a b)]:=by
 have e:fq (fp q) (fe q) (fm q)=q:=fq_of hq
 unfold tab2
 simp only [g_,e]
 exact ck_of (by simp [hq,inq,h0,h1,h2,h3])
theorem tab1_of {f:Nat→Int→Int} {q:Nat} (hq:q∈Qs) {a:Int} (h0:0≤a) (h1:a<q) {τ:Type} (k:Nat→LS_→Option τ) :
  tab1 f [.I (fp q),.I (fe q),.L (fm q),.I a] k=k 0 [.I (f q a)]:=by
 have e:fq (fp q) (fe q) (fm q)=q:=fq_of hq
 unfold tab1
 simp only [g_,e]
 exact ck_of (by simp [hq,inq,h0,h1])
theorem tabI_of {q:Nat} (hq:q∈Qs) {a:Int} (h0:0≤a) (h1:a<q) (hz:a≠0) {τ:Type} (k:Nat→LS_→Option τ) :
  tabI [.I (fp q),.I (fe q),.L (fm q),.I a] k=k 0 [.I (finv q a)]:=by
 have e:fq (fp q) (fe q) (fm q)=q:=fq_of hq
 unfold tabI
 simp only [g_,e]
 exact ck_of (by simp [hq,inq,h0,h1,hz])
theorem tabM_of {q:Nat} (hq:q∈Qs) {τ:Type} (k:Nat→LS_→Option τ):tabM [.I (q:Int)] k=k 0 [.I (fp q),.I (fe q),.N (fm q).length,.L (fm q)]:=by
 unfold tabM
 simp only [gI_zero,Int.toNat_natCast]
 exact ck_of (by simp [hq])
end
end Go.Proofs.YticbdgmcofjkeaaGreat.Ai
namespace Go.Proofs.YticbdgmcofjkeaaGreat.Ai
open Go Go.RowKit
noncomputable section
variable {τ:Type} (t:Nat) (nx ex:Nat→LS_→Option τ) (l:LS_) (k κ:Nat→LS_→Option τ)
def fo0:List PO:=[(oG [(pC 0),(pC 0),(pC 0),(pC 0),(pC 0),(pC 0),(pC 0),(pC 0),(pC 0),(pC 0),(pC 0),(pC 0)]),(oG [pI,pI,pI,pI,pI,pI,pI,pI,pI,pI,pI,pI])]
def fo1:List PO:=[(oG [pI,(pC 1),qR]),(oG [pI,pI,pI,pI,pI,pI,pI,pI,pI,pI,pI,pI]),(oG [pI,pI,pI,pI,pI,pI,pI,pI,pI,pI,pI,pI])]
def fo2:List PO:=[(oG [pI,(pC 1),qR]),(oG [pI,pI,pI,pI,pI,pI,pI,pI,pI,pI,pI,pI])]
def fo3:List PO:=[(oG [pI,(pC 1),qR]),(oG [pI,pI,pI,pI,pI,pI,pI,pI,pI,pI,pI,pI]),(oG [pI,(pC 0),(pC 0),(pC 0),(pC 0),(pC 0),(pC 0),(pC 0),(pC 0),(pC 0),(pC 0),(pC 0)]),(oG [pI,(pC 1),qR]),(oG [pI]),(PO.loop false [(PV2.agg [iI,(PV1.intC .i64 1),(PV1.sl (PC0.i .i64))]),pI,pI,(pp 0),n_,n_,(pC 0),(pp 1),(pp 2),n_,n_,n_,n_,(PV2.agg [iI,(PV1.intC .i64 1),(PV1.sl (PC0.i .i64))]),pB,(PV2.v (PV1.boolC false)),(pp 0),pI,pI,(PV2.agg [iI,iI,iI,iI,iI,iI,iI,iI,iI,iI,iI,iI]),(PV2.agg [iI,(PV1.intC .i64 1),(PV1.sl (PC0.i .i64))]),pI,(PV2.fn 181 [(p1 3),(p1 4)]),n_,n_,n_,n_,n_,n_,n_,n_,n_,n_,n_,n_,n_,n_,n_,n_,n_,n_,n_,n_,n_,n_,n_,n_,n_,n_,n_,n_,n_,n_,n_,n_,n_,n_,n_,n_,n_,n_,n_,n_,n_,n_,n_,n_,n_,n_,n_,n_,n_,n_,n_] [23] (rfA 143 0) (rfB 143 0) 16528282690043758248264 false Out.normal),(oG [pI,pI,pI,pI,pI,pI,pI,pI,pI,pI,pI,pI])]
def fo4:List PO:=[(oG [pI,(pC 1),qR]),(oG [pI,pI,pI,pI,pI,pI,pI,pI,pI,pI,pI,pI]),(oG [pI,(pC 0),(pC 0),(pC 0),(pC 0),(pC 0),(pC 0),(pC 0),(pC 0),(pC 0),(pC 0),(pC 0)]),(oG [pI,(pC 1),qR]),(oG [pI]),(PO.loop false [(PV2.agg [iI,(PV1.intC .i64 1),(PV1.sl (PC0.i .i64))]),pI,pI,(pp 0),n_,n_,(pC 0),(pp 1),(pp 2),n_,n_,n_,n_,(PV2.agg [iI,(PV1.intC .i64 1),(PV1.sl (PC0.i .i64))]),pB,(PV2.v (PV1.boolC false)),(pp 0),pI,pI,(PV2.agg [iI,iI,iI,iI,iI,iI,iI,iI,iI,iI,iI,iI]),(PV2.agg [iI,(PV1.intC .i64 1),(PV1.sl (PC0.i .i64))]),pI,(PV2.fn 181 [(p1 3),(p1 4)]),n_,n_,n_,n_,n_,n_,n_,n_,n_,n_,n_,n_,n_,n_,n_,n_,n_,n_,n_,n_,n_,n_,n_,n_,n_,n_,n_,n_,n_,n_,n_,n_,n_,n_,n_,n_,n_,n_,n_,n_,n_,n_,n_,n_,n_,n_,n_,n_,n_,n_,n_] [23] (rfA 143 0) (rfB 143 0) 16528282690043758248264 true Out.normal),(oG [pI,pI,pI,pI,pI,pI,pI,pI,pI,pI,pI,pI])]
def fo5:List PO:=[(oG [pI,(pC 2),qR]),(oG [pI,pI,pI,pI,pI,pI,pI,pI,pI,pI,pI,pI]),(oG [pI,pI,pI,pI,pI,pI,pI,pI,pI,pI,pI,pI])]
def fo6:List PO:=[(oG [pI,(pC 2),qR]),(oG [pI,pI,pI,pI,pI,pI,pI,pI,pI,pI,pI,pI])]
def fo7:List PO:=[(oG [pI,(pC 2),qR]),(oG [pI,pI,pI,pI,pI,pI,pI,pI,pI,pI,pI,pI]),(oG [pI,pI,(pC 0),(pC 0),(pC 0),(pC 0),(pC 0),(pC 0),(pC 0),(pC 0),(pC 0),(pC 0)]),(oG [pI,(pC 2),qR]),(oG [pI]),(PO.loop false [(PV2.agg [iI,(PV1.intC .i64 2),(PV1.sl (PC0.i .i64))]),pI,pI,(pp 0),n_,n_,(pC 0),(pp 1),(pp 2),n_,n_,n_,n_,(PV2.agg [iI,(PV1.intC .i64 2),(PV1.sl (PC0.i .i64))]),pB,(PV2.v (PV1.boolC false)),(pp 0),pI,pI,(PV2.agg [iI,iI,iI,iI,iI,iI,iI,iI,iI,iI,iI,iI]),(PV2.agg [iI,(PV1.intC .i64 2),(PV1.sl (PC0.i .i64))]),pI,(PV2.fn 181 [(p1 3),(p1 4)]),n_,n_,n_,n_,n_,n_,n_,n_,n_,n_,n_,n_,n_,n_,n_,n_,n_,n_,n_,n_,n_,n_,n_,n_,n_,n_,n_,n_,n_,n_,n_,n_,n_,n_,n_,n_,n_,n_,n_,n_,n_,n_,n_,n_,n_,n_,n_,n_,n_,n_,n_] [23] (rfA 143 0) (rfB 143 0) 16528282690043758248264 false Out.normal),(oG [pI,pI,pI,pI,pI,pI,pI,pI,pI,pI,pI,pI])]
def fo8:List PO:=[(oG [pI,(pC 2),qR]),(oG [pI,pI,pI,pI,pI,pI,pI,pI,pI,pI,pI,pI]),(oG [pI,pI,(pC 0),(pC 0),(pC 0),(pC 0),(pC 0),(pC 0),(pC 0),(pC 0),(pC 0),(pC 0)]),(oG [pI,(pC 2),qR]),(oG [pI]),(PO.loop false [(PV2.agg [iI,(PV1.intC .i64 2),(PV1.sl (PC0.i .i64))]),pI,pI,(pp 0),n_,n_,(pC 0),(pp 1),(pp 2),n_,n_,n_,n_,(PV2.agg [iI,(PV1.intC .i64 2),(PV1.sl (PC0.i .i64))]),pB,(PV2.v (PV1.boolC false)),(pp 0),pI,pI,(PV2.agg [iI,iI,iI,iI,iI,iI,iI,iI,iI,iI,iI,iI]),(PV2.agg [iI,(PV1.intC .i64 2),(PV1.sl (PC0.i .i64))]),pI,(PV2.fn 181 [(p1 3),(p1 4)]),n_,n_,n_,n_,n_,n_,n_,n_,n_,n_,n_,n_,n_,n_,n_,n_,n_,n_,n_,n_,n_,n_,n_,n_,n_,n_,n_,n_,n_,n_,n_,n_,n_,n_,n_,n_,n_,n_,n_,n_,n_,n_,n_,n_,n_,n_,n_,n_,n_,n_,n_] [23] (rfA 143 0) (rfB 143 0) 16528282690043758248264 true Out.normal),(oG [pI,pI,pI,pI,pI,pI,pI,pI,pI,pI,pI,pI])]
def fo9:List PO:=[(oG [pI,(pC 3),qR]),(oG [pI,pI,pI,pI,pI,pI,pI,pI,pI,pI,pI,pI]),(oG [pI,pI,pI,pI,pI,pI,pI,pI,pI,pI,pI,pI])]
def fo10:List PO:=[(oG [pI,(pC 3),qR]),(oG [pI,pI,pI,pI,pI,pI,pI,pI,pI,pI,pI,pI])]
def fo11:List PO:=[(oG [pI,(pC 3),qR]),(oG [pI,pI,pI,pI,pI,pI,pI,pI,pI,pI,pI,pI]),(oG [pI,pI,pI,(pC 0),(pC 0),(pC 0),(pC 0),(pC 0),(pC 0),(pC 0),(pC 0),(pC 0)]),(oG [pI,(pC 3),qR]),(oG [pI]),(PO.loop false [(PV2.agg [iI,(PV1.intC .i64 3),(PV1.sl (PC0.i .i64))]),pI,pI,(pp 0),n_,n_,(pC 0),(pp 1),(pp 2),n_,n_,n_,n_,(PV2.agg [iI,(PV1.intC .i64 3),(PV1.sl (PC0.i .i64))]),pB,(PV2.v (PV1.boolC false)),(pp 0),pI,pI,(PV2.agg [iI,iI,iI,iI,iI,iI,iI,iI,iI,iI,iI,iI]),(PV2.agg [iI,(PV1.intC .i64 3),(PV1.sl (PC0.i .i64))]),pI,(PV2.fn 181 [(p1 3),(p1 4)]),n_,n_,n_,n_,n_,n_,n_,n_,n_,n_,n_,n_,n_,n_,n_,n_,n_,n_,n_,n_,n_,n_,n_,n_,n_,n_,n_,n_,n_,n_,n_,n_,n_,n_,n_,n_,n_,n_,n_,n_,n_,n_,n_,n_,n_,n_,n_,n_,n_,n_,n_] [23] (rfA 143 0) (rfB 143 0) 16528282690043758248264 false Out.normal),(oG [pI,pI,pI,pI,pI,pI,pI,pI,pI,pI,pI,pI])]
def fo12:List PO:=[(oG [pI,(pC 3),qR]),(oG [pI,pI,pI,pI,pI,pI,pI,pI,pI,pI,pI,pI]),(oG [pI,pI,pI,(pC 0),(pC 0),(pC 0),(pC 0),(pC 0),(pC 0),(pC 0),(pC 0),(pC 0)]),(oG [pI,(pC 3),qR]),(oG [pI]),(PO.loop false [(PV2.agg [iI,(PV1.intC .i64 3),(PV1.sl (PC0.i .i64))]),pI,pI,(pp 0),n_,n_,(pC 0),(pp 1),(pp 2),n_,n_,n_,n_,(PV2.agg [iI,(PV1.intC .i64 3),(PV1.sl (PC0.i .i64))]),pB,(PV2.v (PV1.boolC false)),(pp 0),pI,pI,(PV2.agg [iI,iI,iI,iI,iI,iI,iI,iI,iI,iI,iI,iI]),(PV2.agg [iI,(PV1.intC .i64 3),(PV1.sl (PC0.i .i64))]),pI,(PV2.fn 181 [(p1 3),(p1 4)]),n_,n_,n_,n_,n_,n_,n_,n_,n_,n_,n_,n_,n_,n_,n_,n_,n_,n_,n_,n_,n_,n_,n_,n_,n_,n_,n_,n_,n_,n_,n_,n_,n_,n_,n_,n_,n_,n_,n_,n_,n_,n_,n_,n_,n_,n_,n_,n_,n_,n_,n_] [23] (rfA 143 0) (rfB 143 0) 16528282690043758248264 true Out.normal),(oG [pI,pI,pI,pI,pI,pI,pI,pI,pI,pI,pI,pI])]
def L128_5.H:LHead:=⟨false,true,0,667653,667653,201326606,4,0,[(PS.mk (us 1 ((pp 0)::(PV2.v (PV1.boolC false))::pI::us 22 ((pC 1)::(pC 0)::us 11 []))) [(oG [pI,(pC 1),qR])]),(PS.mk (us 1 ((pp 0)::(PV2.v (PV1.boolC false))::pI::us 22 ((pC 1)::(pC 1)::us 11 []))) [(oG [pI,(pC 1),qR])])],[(Out.ret,(PS.mk (us 2 ((PV2.v (PV1.boolC false))::us 36 [])) [])),((Out.exit 0),(PS.mk (us 2 ((PV2.v (PV1.boolC false))::us 36 [])) []))]⟩
def L128_5.O (fu:Nat):Orc P:=⟨[],[],[],40⟩
def L128_5.s0 (fu:Nat) {τ:Type} (next ex:Nat→LS_→Option τ) (l:LS_):Option τ :=
 ck (!((gI l 1)==0))
 (br (gtI (gI l 0) (wr .i64 (Int.tdiv 64 (gI l 1))))
 (ex 0 [])
 (next 1 [.I (wr .i64 ((gI l 0)*(gI l 1))),.I (gI l 1),.N (gN l 2),.L (gL l 3)]))
theorem L128_5.e0 (fu:Nat):LEq (L128_5.O fu) L128_5.H 0 (L128_5.s0 fu):=by intro τ next κ l;kernel_rfl
def L128_5.s1 (fu:Nat) {τ:Type} (next ex:Nat→LS_→Option τ) (l:LS_):Option τ :=
 ex 1 []
theorem L128_5.e1 (fu:Nat):LEq (L128_5.O fu) L128_5.H 1 (L128_5.s1 fu):=by intro τ next κ l;kernel_rfl
def L128_5 (fu:Nat):LStep P Cf:=LStep.mk2 (by decide) (L128_5.e0 fu) (L128_5.e1 fu)
def L128_5.b (fu:Nat) {τ:Type} (t:Nat) (l:LS_) (κ:Nat→LS_→Option τ):Option τ:=runE (L128_5 fu) fu κ t l
def L128_5.E (fu:Nat):LEnt P:=LStep.EN fu (L128_5 fu)
def F128.ps:List PV2:=[(PV2.agg [iI,(PV1.intC .i64 1),aI])]
def F128.sh:List PA:=[(PA.mk (PV3.v pB) [])]
def F128.O (fu:Nat):Orc P:=⟨[],[(L128_5.E fu)],[],40⟩
def F128 (fu:Nat) {τ:Type} (l:LS_) (k:Nat→LS_→Option τ):Option τ :=
 br (ltI (gI l 0) 2)
 (k 0 [.B false])
 (br ((((List.length (gL l 1)):Nat):Int) != 1)
 (k 0 [.B false])
 ((L128_5.b fu) 0 [.I 1,.I (gI l 0),.N (List.length (gL l 1)),.L (gL l 1)]
 (fun j A=>(sw (k 0 [.B false])
 (sw (k 0 [.B true])
 (fun _=>none))) j)))
theorem F128.eq (fu:Nat):FEq (F128.O fu) 163 F128.ps F128.sh (F128 fu):=by intro τ l κ;kernel_rfl
def F128.E (fu:Nat):Ent P:=mkF (F128.eq fu)
def L127_3.H:LHead:=⟨false,true,0,671747,671747,179,48,0,[(PS.mk (pI::pI::us 2 ((pp 0)::(pp 1)::us 1 ((pC 0)::us 12 []))) fo0),(PS.mk (pI::pI::us 2 ((pp 0)::(pp 1)::us 1 ((pC 1)::us 12 []))) fo0),(PS.mk (pI::pI::us 2 ((pp 0)::(pp 1)::us 1 ((pC 2)::us 12 []))) fo0),(PS.mk (pI::pI::us 2 ((pp 0)::(pp 1)::us 1 ((pC 3)::us 12 []))) fo0),(PS.mk (pI::pI::us 2 ((pp 0)::(pp 1)::us 1 ((pC 4)::us 12 []))) fo0),(PS.mk (pI::pI::us 2 ((pp 0)::(pp 1)::us 1 ((pC 5)::us 12 []))) fo0),(PS.mk (pI::pI::us 2 ((pp 0)::(pp 1)::us 1 ((pC 6)::us 12 []))) fo0),(PS.mk (pI::pI::us 2 ((pp 0)::(pp 1)::us 1 ((pC 7)::us 12 []))) fo0),(PS.mk (pI::pI::us 2 ((pp 0)::(pp 1)::us 1 ((pC 8)::us 12 []))) fo0),(PS.mk (pI::pI::us 2 ((pp 0)::(pp 1)::us 1 ((pC 9)::us 12 []))) fo0),(PS.mk (pI::pI::us 2 ((pp 0)::(pp 1)::us 1 ((pC 10)::us 12 []))) fo0),(PS.mk (pI::pI::us 2 ((pp 0)::(pp 1)::us 1 ((pC 11)::us 12 []))) fo0),(PS.mk (pI::pI::us 2 ((pp 0)::(pp 1)::us 1 ((pC 12)::us 12 []))) fo0)],[((Out.exit 0),(PS.mk (us 4 ((pp 0)::(pp 1)::us 14 [])) fo0))]⟩
def L127_3.O (fu:Nat):Orc P:=⟨[],[],[],40⟩
def L127_3.s0 (fu:Nat) {τ:Type} (next ex:Nat→LS_→Option τ) (l:LS_):Option τ :=
 ck (!((gI l 0)==0))
 (ck (!((gI l 0)==0))
 (next 1 [.I (gI l 0),.I (wr .i64 (Int.tdiv (gI l 1) (gI l 0))),.I (Int.tmod (gI l 1) (gI l 0)),.I (gI l 3),.I (gI l 4),.I (gI l 5),.I (gI l 6),.I (gI l 7),.I (gI l 8),.I (gI l 9),.I (gI l 10),.I (gI l 11),.I (gI l 12),.I (gI l 13)]))
theorem L127_3.e0 (fu:Nat):LEq (L127_3.O fu) L127_3.H 0 (L127_3.s0 fu):=by intro τ next κ l;kernel_rfl
def L127_3.s1 (fu:Nat) {τ:Type} (next ex:Nat→LS_→Option τ) (l:LS_):Option τ :=
 ck (!((gI l 0)==0))
 (ck (!((gI l 0)==0))
 (next 2 [.I (gI l 0),.I (wr .i64 (Int.tdiv (gI l 1) (gI l 0))),.I (gI l 2),.I (Int.tmod (gI l 1) (gI l 0)),.I (gI l 4),.I (gI l 5),.I (gI l 6),.I (gI l 7),.I (gI l 8),.I (gI l 9),.I (gI l 10),.I (gI l 11),.I (gI l 12),.I (gI l 13)]))
theorem L127_3.e1 (fu:Nat):LEq (L127_3.O fu) L127_3.H 1 (L127_3.s1 fu):=by intro τ next κ l;kernel_rfl
def L127_3.s2 (fu:Nat) {τ:Type} (next ex:Nat→LS_→Option τ) (l:LS_):Option τ :=
 ck (!((gI l 0)==0))
 (ck (!((gI l 0)==0))
 (next 3 [.I (gI l 0),.I (wr .i64 (Int.tdiv (gI l 1) (gI l 0))),.I (gI l 2),.I (gI l 3),.I (Int.tmod (gI l 1) (gI l 0)),.I (gI l 5),.I (gI l 6),.I (gI l 7),.I (gI l 8),.I (gI l 9),.I (gI l 10),.I (gI l 11),.I (gI l 12),.I (gI l 13)]))
theorem L127_3.e2 (fu:Nat):LEq (L127_3.O fu) L127_3.H 2 (L127_3.s2 fu):=by intro τ next κ l;kernel_rfl
def L127_3.s3 (fu:Nat) {τ:Type} (next ex:Nat→LS_→Option τ) (l:LS_):Option τ :=
 ck (!((gI l 0)==0))
 (ck (!((gI l 0)==0))
 (next 4 [.I (gI l 0),.I (wr .i64 (Int.tdiv (gI l 1) (gI l 0))),.I (gI l 2),.I (gI l 3),.I (gI l 4),.I (Int.tmod (gI l 1) (gI l 0)),.I (gI l 6),.I (gI l 7),.I (gI l 8),.I (gI l 9),.I (gI l 10),.I (gI l 11),.I (gI l 12),.I (gI l 13)]))
theorem L127_3.e3 (fu:Nat):LEq (L127_3.O fu) L127_3.H 3 (L127_3.s3 fu):=by intro τ next κ l;kernel_rfl
def L127_3.s4 (fu:Nat) {τ:Type} (next ex:Nat→LS_→Option τ) (l:LS_):Option τ :=
 ck (!((gI l 0)==0))
 (ck (!((gI l 0)==0))
 (next 5 [.I (gI l 0),.I (wr .i64 (Int.tdiv (gI l 1) (gI l 0))),.I (gI l 2),.I (gI l 3),.I (gI l 4),.I (gI l 5),.I (Int.tmod (gI l 1) (gI l 0)),.I (gI l 7),.I (gI l 8),.I (gI l 9),.I (gI l 10),.I (gI l 11),.I (gI l 12),.I (gI l 13)]))
theorem L127_3.e4 (fu:Nat):LEq (L127_3.O fu) L127_3.H 4 (L127_3.s4 fu):=by intro τ next κ l;kernel_rfl
def L127_3.s5 (fu:Nat) {τ:Type} (next ex:Nat→LS_→Option τ) (l:LS_):Option τ :=
 ck (!((gI l 0)==0))
 (ck (!((gI l 0)==0))
 (next 6 [.I (gI l 0),.I (wr .i64 (Int.tdiv (gI l 1) (gI l 0))),.I (gI l 2),.I (gI l 3),.I (gI l 4),.I (gI l 5),.I (gI l 6),.I (Int.tmod (gI l 1) (gI l 0)),.I (gI l 8),.I (gI l 9),.I (gI l 10),.I (gI l 11),.I (gI l 12),.I (gI l 13)]))
theorem L127_3.e5 (fu:Nat):LEq (L127_3.O fu) L127_3.H 5 (L127_3.s5 fu):=by intro τ next κ l;kernel_rfl
def L127_3.s6 (fu:Nat) {τ:Type} (next ex:Nat→LS_→Option τ) (l:LS_):Option τ :=
 ck (!((gI l 0)==0))
 (ck (!((gI l 0)==0))
 (next 7 [.I (gI l 0),.I (wr .i64 (Int.tdiv (gI l 1) (gI l 0))),.I (gI l 2),.I (gI l 3),.I (gI l 4),.I (gI l 5),.I (gI l 6),.I (gI l 7),.I (Int.tmod (gI l 1) (gI l 0)),.I (gI l 9),.I (gI l 10),.I (gI l 11),.I (gI l 12),.I (gI l 13)]))
theorem L127_3.e6 (fu:Nat):LEq (L127_3.O fu) L127_3.H 6 (L127_3.s6 fu):=by intro τ next κ l;kernel_rfl
def L127_3.s7 (fu:Nat) {τ:Type} (next ex:Nat→LS_→Option τ) (l:LS_):Option τ :=
 ck (!((gI l 0)==0))
 (ck (!((gI l 0)==0))
 (next 8 [.I (gI l 0),.I (wr .i64 (Int.tdiv (gI l 1) (gI l 0))),.I (gI l 2),.I (gI l 3),.I (gI l 4),.I (gI l 5),.I (gI l 6),.I (gI l 7),.I (gI l 8),.I (Int.tmod (gI l 1) (gI l 0)),.I (gI l 10),.I (gI l 11),.I (gI l 12),.I (gI l 13)]))
theorem L127_3.e7 (fu:Nat):LEq (L127_3.O fu) L127_3.H 7 (L127_3.s7 fu):=by intro τ next κ l;kernel_rfl
def L127_3.s8 (fu:Nat) {τ:Type} (next ex:Nat→LS_→Option τ) (l:LS_):Option τ :=
 ck (!((gI l 0)==0))
 (ck (!((gI l 0)==0))
 (next 9 [.I (gI l 0),.I (wr .i64 (Int.tdiv (gI l 1) (gI l 0))),.I (gI l 2),.I (gI l 3),.I (gI l 4),.I (gI l 5),.I (gI l 6),.I (gI l 7),.I (gI l 8),.I (gI l 9),.I (Int.tmod (gI l 1) (gI l 0)),.I (gI l 11),.I (gI l 12),.I (gI l 13)]))
theorem L127_3.e8 (fu:Nat):LEq (L127_3.O fu) L127_3.H 8 (L127_3.s8 fu):=by intro τ next κ l;kernel_rfl
def L127_3.s9 (fu:Nat) {τ:Type} (next ex:Nat→LS_→Option τ) (l:LS_):Option τ :=
 ck (!((gI l 0)==0))
 (ck (!((gI l 0)==0))
 (next 10 [.I (gI l 0),.I (wr .i64 (Int.tdiv (gI l 1) (gI l 0))),.I (gI l 2),.I (gI l 3),.I (gI l 4),.I (gI l 5),.I (gI l 6),.I (gI l 7),.I (gI l 8),.I (gI l 9),.I (gI l 10),.I (Int.tmod (gI l 1) (gI l 0)),.I (gI l 12),.I (gI l 13)]))
theorem L127_3.e9 (fu:Nat):LEq (L127_3.O fu) L127_3.H 9 (L127_3.s9 fu):=by intro τ next κ l;kernel_rfl
def L127_3.s10 (fu:Nat) {τ:Type} (next ex:Nat→LS_→Option τ) (l:LS_):Option τ :=
 ck (!((gI l 0)==0))
 (ck (!((gI l 0)==0))
 (next 11 [.I (gI l 0),.I (wr .i64 (Int.tdiv (gI l 1) (gI l 0))),.I (gI l 2),.I (gI l 3),.I (gI l 4),.I (gI l 5),.I (gI l 6),.I (gI l 7),.I (gI l 8),.I (gI l 9),.I (gI l 10),.I (gI l 11),.I (Int.tmod (gI l 1) (gI l 0)),.I (gI l 13)]))
theorem L127_3.e10 (fu:Nat):LEq (L127_3.O fu) L127_3.H 10 (L127_3.s10 fu):=by intro τ next κ l;kernel_rfl
def L127_3.s11 (fu:Nat) {τ:Type} (next ex:Nat→LS_→Option τ) (l:LS_):Option τ :=
 ck (!((gI l 0)==0))
 (ck (!((gI l 0)==0))
 (next 12 [.I (gI l 0),.I (wr .i64 (Int.tdiv (gI l 1) (gI l 0))),.I (gI l 2),.I (gI l 3),.I (gI l 4),.I (gI l 5),.I (gI l 6),.I (gI l 7),.I (gI l 8),.I (gI l 9),.I (gI l 10),.I (gI l 11),.I (gI l 12),.I (Int.tmod (gI l 1) (gI l 0))]))
theorem L127_3.e11 (fu:Nat):LEq (L127_3.O fu) L127_3.H 11 (L127_3.s11 fu):=by intro τ next κ l;kernel_rfl
def L127_3.s12 (fu:Nat) {τ:Type} (next ex:Nat→LS_→Option τ) (l:LS_):Option τ :=
 ex 0 [.I (gI l 2),.I (gI l 3),.I (gI l 4),.I (gI l 5),.I (gI l 6),.I (gI l 7),.I (gI l 8),.I (gI l 9),.I (gI l 10),.I (gI l 11),.I (gI l 12),.I (gI l 13)]
theorem L127_3.e12 (fu:Nat):LEq (L127_3.O fu) L127_3.H 12 (L127_3.s12 fu):=by intro τ next κ l;kernel_rfl
def L127_3 (fu:Nat):LStep P Cf:=LStep.mk13 (by decide) (L127_3.e0 fu) (L127_3.e1 fu) (L127_3.e2 fu) (L127_3.e3 fu) (L127_3.e4 fu) (L127_3.e5 fu) (L127_3.e6 fu) (L127_3.e7 fu) (L127_3.e8 fu) (L127_3.e9 fu) (L127_3.e10 fu) (L127_3.e11 fu) (L127_3.e12 fu)
def L127_3.b (fu:Nat) {τ:Type} (t:Nat) (l:LS_) (κ:Nat→LS_→Option τ):Option τ:=runE (L127_3 fu) fu κ t l
def L127_3.E (fu:Nat):LEnt P:=LStep.EN fu (L127_3 fu)
def F127.ps:List PV2:=[pI,pI]
def F127.sh:List PA:=[(PA.mk (PV3.v (PV2.agg [iI,iI,iI,iI,iI,iI,iI,iI,iI,iI,iI,iI])) [])]
def F127.O (fu:Nat):Orc P:=⟨[],[(L127_3.E fu)],[],40⟩
def F127 (fu:Nat) {τ:Type} (l:LS_) (k:Nat→LS_→Option τ):Option τ :=
 (L127_3.b fu) 0 [.I (gI l 0),.I (gI l 1),.I 0,.I 0,.I 0,.I 0,.I 0,.I 0,.I 0,.I 0,.I 0,.I 0,.I 0,.I 0]
 (fun j A=>(sw (k 0 [.I (gI A 0),.I (gI A 1),.I (gI A 2),.I (gI A 3),.I (gI A 4),.I (gI A 5),.I (gI A 6),.I (gI A 7),.I (gI A 8),.I (gI A 9),.I (gI A 10),.I (gI A 11)])
 (fun _=>none)) j)
theorem F127.eq (fu:Nat):FEq (F127.O fu) 164 F127.ps F127.sh (F127 fu):=by intro τ l κ;kernel_rfl
def F127.E (fu:Nat):Ent P:=mkF (F127.eq fu)
def F129.ps:List PV2:=[pI,pI]
def F129.sh:List PA:=[(PA.mk (PV3.v pI) [])]
def F129.O (fu:Nat):Orc P:=⟨[],[],[],40⟩
def F129 (fu:Nat) {τ:Type} (l:LS_) (k:Nat→LS_→Option τ):Option τ :=
 ck (!((gI l 1)==0))
 (ck (!((gI l 1)==0))
 (k 0 [.I (Int.tmod (wr .i64 ((Int.tmod (gI l 0) (gI l 1))+(gI l 1))) (gI l 1))]))
theorem F129.eq (fu:Nat):FEq (F129.O fu) 166 F129.ps F129.sh (F129 fu):=by intro τ l κ;kernel_rfl
def F129.E (fu:Nat):Ent P:=mkF (F129.eq fu)
def L103_5.H:LHead:=⟨false,true,0,598021,598021,12583304,136,0,[(PS.mk (us 3 ((pp 0)::us 3 ((pp 1)::(pp 2)::us 13 ((pC 1)::(pC 0)::us 18 [])))) fo1),(PS.mk (us 3 ((pp 0)::us 3 ((pp 1)::(pp 2)::us 13 ((pC 1)::(pC 1)::us 18 [])))) fo1)],[((Out.exit 0),(PS.mk (us 3 ((pp 0)::us 3 ((pp 1)::us 34 []))) fo2))]⟩
def L103_5.O (fu:Nat):Orc P:=⟨[(F129.E fu)],[],[],40⟩
def L103_5.s0 (fu:Nat) {τ:Type} (next ex:Nat→LS_→Option τ) (l:LS_):Option τ :=
 (F129 fu) [.I (wr .i64 ((gI l 3)+(gI l 15))),.I (gI l 0)]
 (fun j A=>(sw (next 1 [.I (gI l 0),.N (gN l 1),.L (gL l 2),.I (gI A 0),.I (gI l 4),.I (gI l 5),.I (gI l 6),.I (gI l 7),.I (gI l 8),.I (gI l 9),.I (gI l 10),.I (gI l 11),.I (gI l 12),.I (gI l 13),.I (gI l 14),.I (gI l 15),.I (gI l 16),.I (gI l 17),.I (gI l 18),.I (gI l 19),.I (gI l 20),.I (gI l 21),.I (gI l 22),.I (gI l 23),.I (gI l 24),.I (gI l 25),.I (gI l 26)])
 (fun _=>none)) j)
theorem L103_5.e0 (fu:Nat):LEq (L103_5.O fu) L103_5.H 0 (L103_5.s0 fu):=by intro τ next κ l;kernel_rfl
def L103_5.s1 (fu:Nat) {τ:Type} (next ex:Nat→LS_→Option τ) (l:LS_):Option τ :=
 ex 0 [.I (gI l 0),.N (gN l 1),.L (gL l 2),.I (gI l 3),.I (gI l 4),.I (gI l 5),.I (gI l 6),.I (gI l 7),.I (gI l 8),.I (gI l 9),.I (gI l 10),.I (gI l 11),.I (gI l 12),.I (gI l 13),.I (gI l 14)]
theorem L103_5.e1 (fu:Nat):LEq (L103_5.O fu) L103_5.H 1 (L103_5.s1 fu):=by intro τ next κ l;kernel_rfl
def L103_5 (fu:Nat):LStep P Cf:=LStep.mk2 (by decide) (L103_5.e0 fu) (L103_5.e1 fu)
def L103_5.b (fu:Nat) {τ:Type} (t:Nat) (l:LS_) (κ:Nat→LS_→Option τ):Option τ:=runE (L103_5 fu) fu κ t l
def L103_5.E (fu:Nat):LEnt P:=LStep.EN fu (L103_5 fu)
def L130_3.H:LHead:=⟨false,true,0,684035,684035,108,32,0,[(PS.mk (us 2 ((pp 0)::(pp 1)::us 1 (pI::(pC 0)::us 16 []))) fo2),(PS.mk (us 2 ((pp 0)::(pp 1)::us 1 (pI::(pC (-1))::us 16 []))) fo2)],[((Out.exit 0),(PS.mk (us 5 (pI::us 17 [])) []))]⟩
def L130_3.O (fu:Nat):Orc P:=⟨[],[],[],40⟩
def L130_3.s0 (fu:Nat) {τ:Type} (next ex:Nat→LS_→Option τ) (l:LS_):Option τ :=
 next 1 [.I (wr .i64 ((wr .i64 ((gI l 0)*(gI l 1)))+(gI l 4))),.I (gI l 1),.N (gN l 2),.L (gL l 3),.I (gI l 4),.I (gI l 5),.I (gI l 6),.I (gI l 7),.I (gI l 8),.I (gI l 9),.I (gI l 10),.I (gI l 11),.I (gI l 12),.I (gI l 13),.I (gI l 14),.I (gI l 15)]
theorem L130_3.e0 (fu:Nat):LEq (L130_3.O fu) L130_3.H 0 (L130_3.s0 fu):=by intro τ next κ l;kernel_rfl
def L130_3.s1 (fu:Nat) {τ:Type} (next ex:Nat→LS_→Option τ) (l:LS_):Option τ :=
 ex 0 [.I (gI l 0)]
theorem L130_3.e1 (fu:Nat):LEq (L130_3.O fu) L130_3.H 1 (L130_3.s1 fu):=by intro τ next κ l;kernel_rfl
def L130_3 (fu:Nat):LStep P Cf:=LStep.mk2 (by decide) (L130_3.e0 fu) (L130_3.e1 fu)
def L130_3.b (fu:Nat) {τ:Type} (t:Nat) (l:LS_) (κ:Nat→LS_→Option τ):Option τ:=runE (L130_3 fu) fu κ t l
def L130_3.E (fu:Nat):LEnt P:=LStep.EN fu (L130_3 fu)
def F130.ps:List PV2:=[(PV2.agg [iI,(PV1.intC .i64 1),aI]),(PV2.agg [iI,iI,iI,iI,iI,iI,iI,iI,iI,iI,iI,iI])]
def F130.sh:List PA:=[(PA.mk (PV3.v pI) [])]
def F130.O (fu:Nat):Orc P:=⟨[],[(L130_3.E fu)],[],40⟩
def F130 (fu:Nat) {τ:Type} (l:LS_) (k:Nat→LS_→Option τ):Option τ :=
 (L130_3.b fu) 0 [.I 0,.I (gI l 0),.N (List.length (gL l 1)),.L (gL l 1),.I (gI l 2),.I (gI l 3),.I (gI l 4),.I (gI l 5),.I (gI l 6),.I (gI l 7),.I (gI l 8),.I (gI l 9),.I (gI l 10),.I (gI l 11),.I (gI l 12),.I (gI l 13)]
 (fun j A=>(sw (k 0 [.I (gI A 0)])
 (fun _=>none)) j)
theorem F130.eq (fu:Nat):FEq (F130.O fu) 167 F130.ps F130.sh (F130 fu):=by intro τ l κ;kernel_rfl
def F130.E (fu:Nat):Ent P:=mkF (F130.eq fu)
def F103.ps:List PV2:=[(pFieldE 1),pI,pI]
def F103.sh:List PA:=[(PA.mk (PV3.v pI) [])]
def F103.O (fu:Nat):Orc P:=⟨[(F128.E fu),(F127.E fu),(F130.E fu)],[(L103_5.E fu)],[],40⟩
def F103 (fu:Nat) {τ:Type} (l:LS_) (k:Nat→LS_→Option τ):Option τ :=
 ck (((eqM (List.length (gL l 1)) (List.length (gL l 1)))&&true)&&true)
 ((F128 fu) [.I (gI l 0),.L (gL l 1)]
 (fun j A=>(sw (br (!(gB A 0))
 (k 0 [.I 0])
 ((F127 fu) [.I (gI l 0),.I (gI l 2)]
 (fun j B=>(sw ((F127 fu) [.I (gI l 0),.I (gI l 3)]
 (fun j C=>(sw ((L103_5.b fu) 0 [.I (gI l 0),.N (List.length (gL l 1)),.L (gL l 1),.I (gI B 0),.I (gI B 1),.I (gI B 2),.I (gI B 3),.I (gI B 4),.I (gI B 5),.I (gI B 6),.I (gI B 7),.I (gI B 8),.I (gI B 9),.I (gI B 10),.I (gI B 11),.I (gI C 0),.I (gI C 1),.I (gI C 2),.I (gI C 3),.I (gI C 4),.I (gI C 5),.I (gI C 6),.I (gI C 7),.I (gI C 8),.I (gI C 9),.I (gI C 10),.I (gI C 11)]
 (fun j D=>(sw (ck (((eqM (gN D 1) (List.length (gL D 2)))&&true)&&true)
 ((F130 fu) [.I (gI D 0),.L (gL D 2),.I (gI D 3),.I (gI D 4),.I (gI D 5),.I (gI D 6),.I (gI D 7),.I (gI D 8),.I (gI D 9),.I (gI D 10),.I (gI D 11),.I (gI D 12),.I (gI D 13),.I (gI D 14)]
 (fun j E=>(sw (k 0 [.I (gI E 0)])
 (fun _=>none)) j)))
 (fun _=>none)) j))
 (fun _=>none)) j))
 (fun _=>none)) j)))
 (fun _=>none)) j))
theorem F103.eq (fu:Nat):FEq (F103.O fu) 146 F103.ps F103.sh (F103 fu):=by intro τ l κ;kernel_rfl
def F103.E (fu:Nat):Ent P:=mkF (F103.eq fu)
def L113_5.H:LHead:=⟨false,true,0,688133,688133,12583304,136,0,[(PS.mk (us 3 ((pp 0)::us 3 ((pp 1)::(pp 2)::us 13 ((pC 1)::(pC 0)::us 18 [])))) fo1),(PS.mk (us 3 ((pp 0)::us 3 ((pp 1)::(pp 2)::us 13 ((pC 1)::(pC 1)::us 18 [])))) fo1)],[((Out.exit 0),(PS.mk (us 3 ((pp 0)::us 3 ((pp 1)::us 34 []))) fo2))]⟩
def L113_5.O (fu:Nat):Orc P:=⟨[(F129.E fu)],[],[],40⟩
def L113_5.s0 (fu:Nat) {τ:Type} (next ex:Nat→LS_→Option τ) (l:LS_):Option τ :=
 (F129 fu) [.I (wr .i64 ((gI l 3)-(gI l 15))),.I (gI l 0)]
 (fun j A=>(sw (next 1 [.I (gI l 0),.N (gN l 1),.L (gL l 2),.I (gI A 0),.I (gI l 4),.I (gI l 5),.I (gI l 6),.I (gI l 7),.I (gI l 8),.I (gI l 9),.I (gI l 10),.I (gI l 11),.I (gI l 12),.I (gI l 13),.I (gI l 14),.I (gI l 15),.I (gI l 16),.I (gI l 17),.I (gI l 18),.I (gI l 19),.I (gI l 20),.I (gI l 21),.I (gI l 22),.I (gI l 23),.I (gI l 24),.I (gI l 25),.I (gI l 26)])
 (fun _=>none)) j)
theorem L113_5.e0 (fu:Nat):LEq (L113_5.O fu) L113_5.H 0 (L113_5.s0 fu):=by intro τ next κ l;kernel_rfl
def L113_5.s1 (fu:Nat) {τ:Type} (next ex:Nat→LS_→Option τ) (l:LS_):Option τ :=
 ex 0 [.I (gI l 0),.N (gN l 1),.L (gL l 2),.I (gI l 3),.I (gI l 4),.I (gI l 5),.I (gI l 6),.I (gI l 7),.I (gI l 8),.I (gI l 9),.I (gI l 10),.I (gI l 11),.I (gI l 12),.I (gI l 13),.I (gI l 14)]
theorem L113_5.e1 (fu:Nat):LEq (L113_5.O fu) L113_5.H 1 (L113_5.s1 fu):=by intro τ next κ l;kernel_rfl
def L113_5 (fu:Nat):LStep P Cf:=LStep.mk2 (by decide) (L113_5.e0 fu) (L113_5.e1 fu)
def L113_5.b (fu:Nat) {τ:Type} (t:Nat) (l:LS_) (κ:Nat→LS_→Option τ):Option τ:=runE (L113_5 fu) fu κ t l
def L113_5.E (fu:Nat):LEnt P:=LStep.EN fu (L113_5 fu)
def F113.ps:List PV2:=[(PV2.agg [iI,(PV1.intC .i64 1),aI]),(pC 0),pI]
def F113.sh:List PA:=[(PA.mk (PV3.v pI) [])]
def F113.O (fu:Nat):Orc P:=⟨[(F128.E fu),(F127.E fu),(F130.E fu)],[(L113_5.E fu)],[],40⟩
def F113 (fu:Nat) {τ:Type} (l:LS_) (k:Nat→LS_→Option τ):Option τ :=
 ck (((eqM (List.length (gL l 1)) (List.length (gL l 1)))&&true)&&true)
 ((F128 fu) [.I (gI l 0),.L (gL l 1)]
 (fun j A=>(sw (br (!(gB A 0))
 (k 0 [.I 0])
 ((F127 fu) [.I (gI l 0),.I 0]
 (fun j B=>(sw ((F127 fu) [.I (gI l 0),.I (gI l 2)]
 (fun j C=>(sw ((L113_5.b fu) 0 [.I (gI l 0),.N (List.length (gL l 1)),.L (gL l 1),.I (gI B 0),.I (gI B 1),.I (gI B 2),.I (gI B 3),.I (gI B 4),.I (gI B 5),.I (gI B 6),.I (gI B 7),.I (gI B 8),.I (gI B 9),.I (gI B 10),.I (gI B 11),.I (gI C 0),.I (gI C 1),.I (gI C 2),.I (gI C 3),.I (gI C 4),.I (gI C 5),.I (gI C 6),.I (gI C 7),.I (gI C 8),.I (gI C 9),.I (gI C 10),.I (gI C 11)]
 (fun j D=>(sw (ck (((eqM (gN D 1) (List.length (gL D 2)))&&true)&&true)
 ((F130 fu) [.I (gI D 0),.L (gL D 2),.I (gI D 3),.I (gI D 4),.I (gI D 5),.I (gI D 6),.I (gI D 7),.I (gI D 8),.I (gI D 9),.I (gI D 10),.I (gI D 11),.I (gI D 12),.I (gI D 13),.I (gI D 14)]
 (fun j E=>(sw (k 0 [.I (gI E 0)])
 (fun _=>none)) j)))
 (fun _=>none)) j))
 (fun _=>none)) j))
 (fun _=>none)) j)))
 (fun _=>none)) j))
theorem F113.eq (fu:Nat):FEq (F113.O fu) 168 F113.ps F113.sh (F113 fu):=by intro τ l κ;kernel_rfl
def F113.E (fu:Nat):Ent P:=mkF (F113.eq fu)
def F83.ps:List PV2:=[(pFieldE 1),pI]
def F83.sh:List PA:=[(PA.mk (PV3.v pI) [])]
def F83.O (fu:Nat):Orc P:=⟨[(F113.E fu)],[],[],40⟩
def F83 (fu:Nat) {τ:Type} (l:LS_) (k:Nat→LS_→Option τ):Option τ :=
 ck (((eqM (List.length (gL l 1)) (List.length (gL l 1)))&&true)&&true)
 ((F113 fu) [.I (gI l 0),.L (gL l 1),.I (gI l 2)]
 (fun j A=>(sw (k 0 [.I (gI A 0)])
 (fun _=>none)) j))
theorem F83.eq (fu:Nat):FEq (F83.O fu) 144 F83.ps F83.sh (F83 fu):=by intro τ l κ;kernel_rfl
def F83.E (fu:Nat):Ent P:=mkF (F83.eq fu)
def L104_9_1.H:LHead:=⟨false,false,7,0,585737,3976,1928,0,[(PS.mk (us 3 ((pp 0)::us 3 ((pp 1)::(pp 2)::pI::pI::(pC 0)::us 62 []))) fo3)],[((Out.exit 2),(PS.mk (us 3 ((pp 0)::us 3 ((pp 1)::(pp 2)::pI::pI::us 63 []))) fo3))]⟩
def L104_9_1.O (fu:Nat):Orc P:=⟨[],[],[],40⟩
def L104_9_1.s0 (fu:Nat) {τ:Type} (next ex:Nat→LS_→Option τ) (l:LS_):Option τ :=
 ex 0 [.I (gI l 0),.I (gI l 1),.I (gI l 2),.N (gN l 3),.L (gL l 4),.I (gI l 5),.I (gI l 6),.I (gI l 7),.I (gI l 8),.I (gI l 9),.I (gI l 10),.I (gI l 11),.I (gI l 12),.I (gI l 13),.I (gI l 14),.I (gI l 15),.I (gI l 16),.I (gI l 17),.I (gI l 18),.N (gN l 19),.L (gL l 20),.I (gI l 21),.I (gI l 22),.N (gN l 23),.L (gL l 24),.I (gI l 25),.I (gI l 26),.I (gI l 27),.N (gN l 28),.L (gL l 29),.B (gB l 30),.I (gI l 31),.I (gI l 32),.I (gI l 33),.I (gI l 34),.I (gI l 35),.I (gI l 36),.I (gI l 37),.I (gI l 38),.I (gI l 39),.I (gI l 40),.I (gI l 41),.I (gI l 42),.I (gI l 43),.I (gI l 44),.I (gI l 45),.N (gN l 46),.L (gL l 47),.I (gI l 48),.I (gI l 49),.I (gI l 50),.I (gI l 51),.I (gI l 52),.I (gI l 53),.I (gI l 54),.I (gI l 55),.I (gI l 56),.I (gI l 57),.I (gI l 58),.I (gI l 59),.I (gI l 60)]
theorem L104_9_1.e0 (fu:Nat):LEq (L104_9_1.O fu) L104_9_1.H 0 (L104_9_1.s0 fu):=by intro τ next κ l;kernel_rfl
def L104_9_1 (fu:Nat):LStep P Cf:=LStep.mk1 (by decide) (L104_9_1.e0 fu)
def L104_9_1.b (fu:Nat) {τ:Type} (t:Nat) (l:LS_) (κ:Nat→LS_→Option τ):Option τ:=runE (L104_9_1 fu) fu κ t l
def L104_9_1.E (fu:Nat):LEnt P:=LStep.EN fu (L104_9_1 fu)
def L104_14_1.H:LHead:=⟨false,false,7,0,585742,52776558135176,0,0,[(PS.mk (us 3 ((pp 0)::us 3 ((pp 1)::(pp 2)::pI::pI::us 33 ((pC 1)::(pC 0)::us 28 [])))) fo3),(PS.mk (us 3 ((pp 0)::us 3 ((pp 1)::(pp 2)::pI::pI::us 33 ((pC 1)::(pC 1)::us 28 [])))) fo3)],[((Out.exit 4),(PS.mk (us 74 []) fo3))]⟩
def L104_14_1.O (fu:Nat):Orc P:=⟨[(F129.E fu)],[],[],40⟩
def L104_14_1.s0 (fu:Nat) {τ:Type} (next ex:Nat→LS_→Option τ) (l:LS_):Option τ :=
 ck ((ltI 0 (gN l 3))&&true)
 (ck (ltN 0 (List.length (gL l 4)))
 ((F129 fu) [.I (wr .i64 ((wr .i64 ((gI l 17)-(wr .i64 ((gI l 1)*(List.getD (gL l 4) 0 0)))))+(wr .i64 ((gI l 0)*(gI l 5))))),.I (gI l 2)]
 (fun j A=>(sw (next 1 [.I (gI l 0),.I (gI l 1),.I (gI l 2),.N (gN l 3),.L (gL l 4),.I (gI l 5),.I (gI l 6),.I (gI l 7),.I (gI l 8),.I (gI l 9),.I (gI l 10),.I (gI l 11),.I (gI l 12),.I (gI l 13),.I (gI l 14),.I (gI l 15),.I (gI l 16),.I (gI A 0),.I (gI l 18),.N (gN l 19),.L (gL l 20),.I (gI l 21),.I (gI l 22),.N (gN l 23),.L (gL l 24),.I (gI l 25),.I (gI l 26),.I (gI l 27),.N (gN l 28),.L (gL l 29),.B (gB l 30),.I (gI l 31),.I (gI l 32),.I (gI l 33),.I (gI l 34),.I (gI l 35),.I (gI l 36),.I (gI l 37),.I (gI l 38),.I (gI l 39),.I (gI l 40),.I (gI l 41),.I (gI l 42),.I (gI l 43),.I (gI l 44),.I (gI l 45),.N (gN l 46),.L (gL l 47),.I (gI l 48),.I (gI l 49),.I (gI l 50),.I (gI l 51),.I (gI l 52),.I (gI l 53),.I (gI l 54),.I (gI l 55),.I (gI l 56),.I (gI l 57),.I (gI l 58),.I (gI l 59),.I (gI l 60)])
 (fun _=>none)) j)))
theorem L104_14_1.e0 (fu:Nat):LEq (L104_14_1.O fu) L104_14_1.H 0 (L104_14_1.s0 fu):=by intro τ next κ l;kernel_rfl
def L104_14_1.s1 (fu:Nat) {τ:Type} (next ex:Nat→LS_→Option τ) (l:LS_):Option τ :=
 ex 0 [.I (gI l 2),.N (gN l 3),.L (gL l 4),.I (gI l 5),.I (gI l 6),.I (gI l 7),.I (gI l 8),.I (gI l 9),.I (gI l 10),.I (gI l 11),.I (gI l 12),.I (gI l 13),.I (gI l 14),.I (gI l 15),.I (gI l 16),.I (gI l 17),.I (gI l 18),.N (gN l 19),.L (gL l 20),.I (gI l 21),.I (gI l 22),.N (gN l 23),.L (gL l 24),.I (gI l 25),.I (gI l 26),.I (gI l 27),.N (gN l 28),.L (gL l 29),.B (gB l 30),.I (gI l 31),.I (gI l 32),.I (gI l 33),.I (gI l 34),.I (gI l 35),.I (gI l 36),.I (gI l 37),.I (gI l 38),.I (gI l 39),.I (gI l 40),.I (gI l 41),.I (gI l 42),.I (gI l 43),.I (gI l 44),.I (gI l 45),.N (gN l 46),.L (gL l 47),.I (gI l 48),.I (gI l 49),.I (gI l 50),.I (gI l 51),.I (gI l 52),.I (gI l 53),.I (gI l 54),.I (gI l 55),.I (gI l 56),.I (gI l 57),.I (gI l 58),.I (gI l 59),.I (gI l 60)]
theorem L104_14_1.e1 (fu:Nat):LEq (L104_14_1.O fu) L104_14_1.H 1 (L104_14_1.s1 fu):=by intro τ next κ l;kernel_rfl
def L104_14_1 (fu:Nat):LStep P Cf:=LStep.mk2 (by decide) (L104_14_1.e0 fu) (L104_14_1.e1 fu)
def L104_14_1.b (fu:Nat) {τ:Type} (t:Nat) (l:LS_) (κ:Nat→LS_→Option τ):Option τ:=runE (L104_14_1 fu) fu κ t l
def L104_14_1.E (fu:Nat):LEnt P:=LStep.EN fu (L104_14_1 fu)
def L138_2.H:LHead:=⟨false,false,7,741378,741378,49,0,0,[(PS.mk ((PV2.v (PV1.yld 5))::us 3 ((pp 6)::(pC 0)::us 17 [])) fo4),(PS.mk ((PV2.v (PV1.yld 5))::us 3 ((pp 6)::(pC (-1))::us 17 [])) fo4)],[((Out.exit 0),(PS.mk (us 23 []) fo4))]⟩
def L138_2.O (fu:Nat):Orc P:=⟨[],[(L104_9_1.E fu),(L104_14_1.E fu)],[],40⟩
def L138_2.s0 (fu:Nat) {τ:Type} (next ex:Nat→LS_→Option τ) (l:LS_):Option τ :=
 (L104_9_1.b fu) 0 [.I (gI l 47),.I (gI l 15),.I (gI l 0),.N (gN l 1),.L (gL l 2),.I (gI l 3),.I (gI l 4),.I (gI l 5),.I (gI l 6),.I (gI l 7),.I (gI l 8),.I (gI l 9),.I (gI l 10),.I (gI l 11),.I (gI l 12),.I (gI l 13),.I (gI l 14),.I (gI l 15),.I (gI l 16),.N (gN l 17),.L (gL l 18),.I (gI l 19),.I (gI l 20),.N (gN l 21),.L (gL l 22),.I (gI l 23),.I (gI l 24),.I (gI l 25),.N (gN l 26),.L (gL l 27),.B (gB l 28),.I (gI l 29),.I (gI l 30),.I (gI l 31),.I (gI l 32),.I (gI l 33),.I (gI l 34),.I (gI l 35),.I (gI l 36),.I (gI l 37),.I (gI l 38),.I (gI l 39),.I (gI l 40),.I (gI l 41),.I (gI l 42),.I (gI l 43),.N (gN l 44),.L (gL l 45),.I (gI l 46),.I (gI l 47),.I (gI l 48),.I (gI l 49),.I (gI l 50),.I (gI l 51),.I (gI l 52),.I (gI l 53),.I (gI l 54),.I (gI l 55),.I (gI l 56),.I (gI l 57),.I (gI l 58)]
 (fun j A=>(sw ((L104_14_1.b fu) 0 [.I (gI A 0),.I (gI A 1),.I (gI A 2),.N (gN A 3),.L (gL A 4),.I (gI A 5),.I (gI A 6),.I (gI A 7),.I (gI A 8),.I (gI A 9),.I (gI A 10),.I (gI A 11),.I (gI A 12),.I (gI A 13),.I (gI A 14),.I (gI A 15),.I (gI A 16),.I 0,.I (gI A 18),.N (gN A 19),.L (gL A 20),.I (gI A 21),.I (gI A 22),.N (gN A 23),.L (gL A 24),.I (gI A 25),.I (gI A 26),.I (gI A 27),.N (gN A 28),.L (gL A 29),.B (gB A 30),.I (gI A 31),.I (gI A 32),.I (gI A 33),.I (gI A 34),.I (gI A 35),.I (gI A 36),.I (gI A 37),.I (gI A 38),.I (gI A 39),.I (gI A 40),.I (gI A 41),.I (gI A 42),.I (gI A 43),.I (gI A 44),.I (gI A 45),.N (gN A 46),.L (gL A 47),.I (gI A 48),.I (gI A 49),.I (gI A 50),.I (gI A 51),.I (gI A 52),.I (gI A 53),.I (gI A 54),.I (gI A 55),.I (gI A 56),.I (gI A 57),.I (gI A 58),.I (gI A 59),.I (gI A 60)]
 (fun j B=>(sw (next 1 [.I (gI B 0),.N (gN B 1),.L (gL B 2),.I (gI B 3),.I (gI B 4),.I (gI B 5),.I (gI B 6),.I (gI B 7),.I (gI B 8),.I (gI B 9),.I (gI B 10),.I (gI B 11),.I (gI B 12),.I (gI B 13),.I (gI B 14),.I (gI B 15),.I (gI B 16),.N (gN B 17),.L (gL B 18),.I (gI B 19),.I (gI B 20),.N (gN B 21),.L (gL B 22),.I (gI B 23),.I (gI B 24),.I (gI B 25),.N (gN B 26),.L (gL B 27),.B (gB B 28),.I (gI B 29),.I (gI B 30),.I (gI B 31),.I (gI B 32),.I (gI B 33),.I (gI B 34),.I (gI B 35),.I (gI B 36),.I (gI B 37),.I (gI B 38),.I (gI B 39),.I (gI B 40),.I (gI B 41),.I (gI B 42),.I (gI B 43),.N (gN B 44),.L (gL B 45),.I (gI B 46),.I (gI B 47),.I (gI B 48),.I (gI B 49),.I (gI B 50),.I (gI B 51),.I (gI B 52),.I (gI B 53),.I (gI B 54),.I (gI B 55),.I (gI B 56),.I (gI B 57),.I (gI B 58)])
 (fun _=>none)) j))
 (fun _=>none)) j)
theorem L138_2.e0 (fu:Nat):LEq (L138_2.O fu) L138_2.H 0 (L138_2.s0 fu):=by intro τ next κ l;kernel_rfl
def L138_2.s1 (fu:Nat) {τ:Type} (next ex:Nat→LS_→Option τ) (l:LS_):Option τ :=
 ex 0 [.I (gI l 0),.N (gN l 1),.L (gL l 2),.I (gI l 3),.I (gI l 4),.I (gI l 5),.I (gI l 6),.I (gI l 7),.I (gI l 8),.I (gI l 9),.I (gI l 10),.I (gI l 11),.I (gI l 12),.I (gI l 13),.I (gI l 14),.I (gI l 15),.I (gI l 16),.N (gN l 17),.L (gL l 18),.I (gI l 19),.I (gI l 20),.N (gN l 21),.L (gL l 22),.I (gI l 23),.I (gI l 24),.I (gI l 25),.N (gN l 26),.L (gL l 27),.B (gB l 28),.I (gI l 29),.I (gI l 30),.I (gI l 31),.I (gI l 32),.I (gI l 33),.I (gI l 34),.I (gI l 35),.I (gI l 36),.I (gI l 37),.I (gI l 38),.I (gI l 39),.I (gI l 40),.I (gI l 41),.I (gI l 42),.I (gI l 43),.N (gN l 44),.L (gL l 45),.I (gI l 46),.I (gI l 47),.I (gI l 48),.I (gI l 49),.I (gI l 50),.I (gI l 51),.I (gI l 52),.I (gI l 53),.I (gI l 54),.I (gI l 55),.I (gI l 56),.I (gI l 57),.I (gI l 58)]
theorem L138_2.e1 (fu:Nat):LEq (L138_2.O fu) L138_2.H 1 (L138_2.s1 fu):=by intro τ next κ l;kernel_rfl
def L138_2 (fu:Nat):LStep P Cf:=LStep.mk2 (by decide) (L138_2.e0 fu) (L138_2.e1 fu)
def L138_2.b (fu:Nat) {τ:Type} (t:Nat) (l:LS_) (κ:Nat→LS_→Option τ):Option τ:=runE (L138_2 fu) fu κ t l
def L138_2.E (fu:Nat):LEnt P:=LStep.EN fu (L138_2 fu)
def F104.ps:List PV2:=[(pFieldE 1),pI,pI]
def F104.sh:List PA:=[(PA.mk (PV3.v pI) [])]
def F104.O (fu:Nat):Orc P:=⟨[(F128.E fu),(F127.E fu),(F130.E fu)],[(L138_2.E fu)],[],40⟩
def F104 (fu:Nat) {τ:Type} (l:LS_) (k:Nat→LS_→Option τ):Option τ :=
 ck (((eqM (List.length (gL l 1)) (List.length (gL l 1)))&&true)&&true)
 ((F128 fu) [.I (gI l 0),.L (gL l 1)]
 (fun j A=>(sw (br (!(gB A 0))
 (k 0 [.I 0])
 ((F127 fu) [.I (gI l 0),.I (gI l 2)]
 (fun j B=>(sw ((F127 fu) [.I (gI l 0),.I (gI l 3)]
 (fun j C=>(sw ((L138_2.b fu) 0 [.I (gI l 0),.N (List.length (gL l 1)),.L (gL l 1),.I (gI B 0),.I (gI B 1),.I (gI B 2),.I (gI B 3),.I (gI B 4),.I (gI B 5),.I (gI B 6),.I (gI B 7),.I (gI B 8),.I (gI B 9),.I (gI B 10),.I (gI B 11),.I 0,.I (gI l 0),.N (List.length (gL l 1)),.L (gL l 1),.I (gI l 3),.I (gI l 0),.N (List.length (gL l 1)),.L (gL l 1),.I (gI l 2),.I (gI l 3),.I (gI l 0),.N (List.length (gL l 1)),.L (gL l 1),.B (gB A 0),.I (gI l 0),.I (gI l 2),.I (gI B 0),.I (gI B 1),.I (gI B 2),.I (gI B 3),.I (gI B 4),.I (gI B 5),.I (gI B 6),.I (gI B 7),.I (gI B 8),.I (gI B 9),.I (gI B 10),.I (gI B 11),.I (gI l 0),.N (List.length (gL l 1)),.L (gL l 1),.I (gI l 3),.I (gI C 0),.I (gI C 1),.I (gI C 2),.I (gI C 3),.I (gI C 4),.I (gI C 5),.I (gI C 6),.I (gI C 7),.I (gI C 8),.I (gI C 9),.I (gI C 10),.I (gI C 11)]
 (fun j D=>(sw (ck (((eqM (gN D 1) (List.length (gL D 2)))&&true)&&true)
 ((F130 fu) [.I (gI D 0),.L (gL D 2),.I (gI D 15),.I 0,.I 0,.I 0,.I 0,.I 0,.I 0,.I 0,.I 0,.I 0,.I 0,.I 0]
 (fun j E=>(sw (k 0 [.I (gI E 0)])
 (fun _=>none)) j)))
 (fun _=>none)) j))
 (fun _=>none)) j))
 (fun _=>none)) j)))
 (fun _=>none)) j))
theorem F104.eq (fu:Nat):FEq (F104.O fu) 143 F104.ps F104.sh (F104 fu):=by intro τ l κ;kernel_rfl
def F104.E (fu:Nat):Ent P:=mkF (F104.eq fu)
def L128_5_1.H:LHead:=⟨false,true,0,667653,667653,201326606,4,0,[(PS.mk (us 1 ((pp 0)::(PV2.v (PV1.boolC false))::pI::us 22 ((pC 2)::(pC 0)::us 11 []))) [(oG [pI,(pC 2),qR])]),(PS.mk (us 1 ((pp 0)::(PV2.v (PV1.boolC false))::pI::us 22 ((pC 2)::(pC 1)::us 11 []))) [(oG [pI,(pC 2),qR])]),(PS.mk (us 1 ((pp 0)::(PV2.v (PV1.boolC false))::pI::us 22 ((pC 2)::(pC 2)::us 11 []))) [(oG [pI,(pC 2),qR])])],[(Out.ret,(PS.mk (us 2 ((PV2.v (PV1.boolC false))::us 36 [])) [])),((Out.exit 0),(PS.mk (us 2 ((PV2.v (PV1.boolC false))::us 36 [])) []))]⟩
def L128_5_1.O (fu:Nat):Orc P:=⟨[],[],[],40⟩
def L128_5_1.s0 (fu:Nat) {τ:Type} (next ex:Nat→LS_→Option τ) (l:LS_):Option τ :=
 ck (!((gI l 1)==0))
 (br (gtI (gI l 0) (wr .i64 (Int.tdiv 64 (gI l 1))))
 (ex 0 [])
 (next 1 [.I (wr .i64 ((gI l 0)*(gI l 1))),.I (gI l 1),.N (gN l 2),.L (gL l 3)]))
theorem L128_5_1.e0 (fu:Nat):LEq (L128_5_1.O fu) L128_5_1.H 0 (L128_5_1.s0 fu):=by intro τ next κ l;kernel_rfl
def L128_5_1.s1 (fu:Nat) {τ:Type} (next ex:Nat→LS_→Option τ) (l:LS_):Option τ :=
 ck (!((gI l 1)==0))
 (br (gtI (gI l 0) (wr .i64 (Int.tdiv 64 (gI l 1))))
 (ex 0 [])
 (next 2 [.I (wr .i64 ((gI l 0)*(gI l 1))),.I (gI l 1),.N (gN l 2),.L (gL l 3)]))
theorem L128_5_1.e1 (fu:Nat):LEq (L128_5_1.O fu) L128_5_1.H 1 (L128_5_1.s1 fu):=by intro τ next κ l;kernel_rfl
def L128_5_1.s2 (fu:Nat) {τ:Type} (next ex:Nat→LS_→Option τ) (l:LS_):Option τ :=
 ex 1 []
theorem L128_5_1.e2 (fu:Nat):LEq (L128_5_1.O fu) L128_5_1.H 2 (L128_5_1.s2 fu):=by intro τ next κ l;kernel_rfl
def L128_5_1 (fu:Nat):LStep P Cf:=LStep.mk3 (by decide) (L128_5_1.e0 fu) (L128_5_1.e1 fu) (L128_5_1.e2 fu)
def L128_5_1.b (fu:Nat) {τ:Type} (t:Nat) (l:LS_) (κ:Nat→LS_→Option τ):Option τ:=runE (L128_5_1 fu) fu κ t l
def L128_5_1.E (fu:Nat):LEnt P:=LStep.EN fu (L128_5_1 fu)
def F128_1.ps:List PV2:=[(PV2.agg [iI,(PV1.intC .i64 2),aI])]
def F128_1.sh:List PA:=[(PA.mk (PV3.v pB) [])]
def F128_1.O (fu:Nat):Orc P:=⟨[],[(L128_5_1.E fu)],[],40⟩
def F128_1 (fu:Nat) {τ:Type} (l:LS_) (k:Nat→LS_→Option τ):Option τ :=
 br (ltI (gI l 0) 2)
 (k 0 [.B false])
 (br ((((List.length (gL l 1)):Nat):Int) != 2)
 (k 0 [.B false])
 ((L128_5_1.b fu) 0 [.I 1,.I (gI l 0),.N (List.length (gL l 1)),.L (gL l 1)]
 (fun j A=>(sw (k 0 [.B false])
 (sw (k 0 [.B true])
 (fun _=>none))) j)))
theorem F128_1.eq (fu:Nat):FEq (F128_1.O fu) 163 F128_1.ps F128_1.sh (F128_1 fu):=by intro τ l κ;kernel_rfl
def F128_1.E (fu:Nat):Ent P:=mkF (F128_1.eq fu)
def L103_5_1.H:LHead:=⟨false,true,0,598021,598021,12583304,136,0,[(PS.mk (us 3 ((pp 0)::us 3 ((pp 1)::(pp 2)::us 13 ((pC 2)::(pC 0)::us 18 [])))) fo5),(PS.mk (us 3 ((pp 0)::us 3 ((pp 1)::(pp 2)::us 13 ((pC 2)::(pC 1)::us 18 [])))) fo5),(PS.mk (us 3 ((pp 0)::us 3 ((pp 1)::(pp 2)::us 13 ((pC 2)::(pC 2)::us 18 [])))) fo5)],[((Out.exit 0),(PS.mk (us 3 ((pp 0)::us 3 ((pp 1)::us 34 []))) fo6))]⟩
def L103_5_1.O (fu:Nat):Orc P:=⟨[(F129.E fu)],[],[],40⟩
def L103_5_1.s0 (fu:Nat) {τ:Type} (next ex:Nat→LS_→Option τ) (l:LS_):Option τ :=
 (F129 fu) [.I (wr .i64 ((gI l 3)+(gI l 15))),.I (gI l 0)]
 (fun j A=>(sw (next 1 [.I (gI l 0),.N (gN l 1),.L (gL l 2),.I (gI A 0),.I (gI l 4),.I (gI l 5),.I (gI l 6),.I (gI l 7),.I (gI l 8),.I (gI l 9),.I (gI l 10),.I (gI l 11),.I (gI l 12),.I (gI l 13),.I (gI l 14),.I (gI l 15),.I (gI l 16),.I (gI l 17),.I (gI l 18),.I (gI l 19),.I (gI l 20),.I (gI l 21),.I (gI l 22),.I (gI l 23),.I (gI l 24),.I (gI l 25),.I (gI l 26)])
 (fun _=>none)) j)
theorem L103_5_1.e0 (fu:Nat):LEq (L103_5_1.O fu) L103_5_1.H 0 (L103_5_1.s0 fu):=by intro τ next κ l;kernel_rfl
def L103_5_1.s1 (fu:Nat) {τ:Type} (next ex:Nat→LS_→Option τ) (l:LS_):Option τ :=
 (F129 fu) [.I (wr .i64 ((gI l 4)+(gI l 16))),.I (gI l 0)]
 (fun j A=>(sw (next 2 [.I (gI l 0),.N (gN l 1),.L (gL l 2),.I (gI l 3),.I (gI A 0),.I (gI l 5),.I (gI l 6),.I (gI l 7),.I (gI l 8),.I (gI l 9),.I (gI l 10),.I (gI l 11),.I (gI l 12),.I (gI l 13),.I (gI l 14),.I (gI l 15),.I (gI l 16),.I (gI l 17),.I (gI l 18),.I (gI l 19),.I (gI l 20),.I (gI l 21),.I (gI l 22),.I (gI l 23),.I (gI l 24),.I (gI l 25),.I (gI l 26)])
 (fun _=>none)) j)
theorem L103_5_1.e1 (fu:Nat):LEq (L103_5_1.O fu) L103_5_1.H 1 (L103_5_1.s1 fu):=by intro τ next κ l;kernel_rfl
def L103_5_1.s2 (fu:Nat) {τ:Type} (next ex:Nat→LS_→Option τ) (l:LS_):Option τ :=
 ex 0 [.I (gI l 0),.N (gN l 1),.L (gL l 2),.I (gI l 3),.I (gI l 4),.I (gI l 5),.I (gI l 6),.I (gI l 7),.I (gI l 8),.I (gI l 9),.I (gI l 10),.I (gI l 11),.I (gI l 12),.I (gI l 13),.I (gI l 14)]
theorem L103_5_1.e2 (fu:Nat):LEq (L103_5_1.O fu) L103_5_1.H 2 (L103_5_1.s2 fu):=by intro τ next κ l;kernel_rfl
def L103_5_1 (fu:Nat):LStep P Cf:=LStep.mk3 (by decide) (L103_5_1.e0 fu) (L103_5_1.e1 fu) (L103_5_1.e2 fu)
def L103_5_1.b (fu:Nat) {τ:Type} (t:Nat) (l:LS_) (κ:Nat→LS_→Option τ):Option τ:=runE (L103_5_1 fu) fu κ t l
def L103_5_1.E (fu:Nat):LEnt P:=LStep.EN fu (L103_5_1 fu)
def L130_3_1.H:LHead:=⟨false,true,0,684035,684035,108,32,0,[(PS.mk (us 2 ((pp 0)::(pp 1)::us 1 (pI::(pC 1)::us 16 []))) fo6),(PS.mk (us 2 ((pp 0)::(pp 1)::us 1 (pI::(pC 0)::us 16 []))) fo6),(PS.mk (us 2 ((pp 0)::(pp 1)::us 1 (pI::(pC (-1))::us 16 []))) fo6)],[((Out.exit 0),(PS.mk (us 5 (pI::us 17 [])) []))]⟩
def L130_3_1.O (fu:Nat):Orc P:=⟨[],[],[],40⟩
def L130_3_1.s0 (fu:Nat) {τ:Type} (next ex:Nat→LS_→Option τ) (l:LS_):Option τ :=
 next 1 [.I (wr .i64 ((wr .i64 ((gI l 0)*(gI l 1)))+(gI l 5))),.I (gI l 1),.N (gN l 2),.L (gL l 3),.I (gI l 4),.I (gI l 5),.I (gI l 6),.I (gI l 7),.I (gI l 8),.I (gI l 9),.I (gI l 10),.I (gI l 11),.I (gI l 12),.I (gI l 13),.I (gI l 14),.I (gI l 15)]
theorem L130_3_1.e0 (fu:Nat):LEq (L130_3_1.O fu) L130_3_1.H 0 (L130_3_1.s0 fu):=by intro τ next κ l;kernel_rfl
def L130_3_1.s1 (fu:Nat) {τ:Type} (next ex:Nat→LS_→Option τ) (l:LS_):Option τ :=
 next 2 [.I (wr .i64 ((wr .i64 ((gI l 0)*(gI l 1)))+(gI l 4))),.I (gI l 1),.N (gN l 2),.L (gL l 3),.I (gI l 4),.I (gI l 5),.I (gI l 6),.I (gI l 7),.I (gI l 8),.I (gI l 9),.I (gI l 10),.I (gI l 11),.I (gI l 12),.I (gI l 13),.I (gI l 14),.I (gI l 15)]
theorem L130_3_1.e1 (fu:Nat):LEq (L130_3_1.O fu) L130_3_1.H 1 (L130_3_1.s1 fu):=by intro τ next κ l;kernel_rfl
def L130_3_1.s2 (fu:Nat) {τ:Type} (next ex:Nat→LS_→Option τ) (l:LS_):Option τ :=
 ex 0 [.I (gI l 0)]
theorem L130_3_1.e2 (fu:Nat):LEq (L130_3_1.O fu) L130_3_1.H 2 (L130_3_1.s2 fu):=by intro τ next κ l;kernel_rfl
def L130_3_1 (fu:Nat):LStep P Cf:=LStep.mk3 (by decide) (L130_3_1.e0 fu) (L130_3_1.e1 fu) (L130_3_1.e2 fu)
def L130_3_1.b (fu:Nat) {τ:Type} (t:Nat) (l:LS_) (κ:Nat→LS_→Option τ):Option τ:=runE (L130_3_1 fu) fu κ t l
def L130_3_1.E (fu:Nat):LEnt P:=LStep.EN fu (L130_3_1 fu)
def F130_1.ps:List PV2:=[(PV2.agg [iI,(PV1.intC .i64 2),aI]),(PV2.agg [iI,iI,iI,iI,iI,iI,iI,iI,iI,iI,iI,iI])]
def F130_1.sh:List PA:=[(PA.mk (PV3.v pI) [])]
def F130_1.O (fu:Nat):Orc P:=⟨[],[(L130_3_1.E fu)],[],40⟩
def F130_1 (fu:Nat) {τ:Type} (l:LS_) (k:Nat→LS_→Option τ):Option τ :=
 (L130_3_1.b fu) 0 [.I 0,.I (gI l 0),.N (List.length (gL l 1)),.L (gL l 1),.I (gI l 2),.I (gI l 3),.I (gI l 4),.I (gI l 5),.I (gI l 6),.I (gI l 7),.I (gI l 8),.I (gI l 9),.I (gI l 10),.I (gI l 11),.I (gI l 12),.I (gI l 13)]
 (fun j A=>(sw (k 0 [.I (gI A 0)])
 (fun _=>none)) j)
theorem F130_1.eq (fu:Nat):FEq (F130_1.O fu) 167 F130_1.ps F130_1.sh (F130_1 fu):=by intro τ l κ;kernel_rfl
def F130_1.E (fu:Nat):Ent P:=mkF (F130_1.eq fu)
def F103_1.ps:List PV2:=[(pFieldE 2),pI,pI]
def F103_1.sh:List PA:=[(PA.mk (PV3.v pI) [])]
def F103_1.O (fu:Nat):Orc P:=⟨[(F128_1.E fu),(F127.E fu),(F130_1.E fu)],[(L103_5_1.E fu)],[],40⟩
def F103_1 (fu:Nat) {τ:Type} (l:LS_) (k:Nat→LS_→Option τ):Option τ :=
 ck (((eqM (List.length (gL l 1)) (List.length (gL l 1)))&&true)&&true)
 ((F128_1 fu) [.I (gI l 0),.L (gL l 1)]
 (fun j A=>(sw (br (!(gB A 0))
 (k 0 [.I 0])
 ((F127 fu) [.I (gI l 0),.I (gI l 2)]
 (fun j B=>(sw ((F127 fu) [.I (gI l 0),.I (gI l 3)]
 (fun j C=>(sw ((L103_5_1.b fu) 0 [.I (gI l 0),.N (List.length (gL l 1)),.L (gL l 1),.I (gI B 0),.I (gI B 1),.I (gI B 2),.I (gI B 3),.I (gI B 4),.I (gI B 5),.I (gI B 6),.I (gI B 7),.I (gI B 8),.I (gI B 9),.I (gI B 10),.I (gI B 11),.I (gI C 0),.I (gI C 1),.I (gI C 2),.I (gI C 3),.I (gI C 4),.I (gI C 5),.I (gI C 6),.I (gI C 7),.I (gI C 8),.I (gI C 9),.I (gI C 10),.I (gI C 11)]
 (fun j D=>(sw (ck (((eqM (gN D 1) (List.length (gL D 2)))&&true)&&true)
 ((F130_1 fu) [.I (gI D 0),.L (gL D 2),.I (gI D 3),.I (gI D 4),.I (gI D 5),.I (gI D 6),.I (gI D 7),.I (gI D 8),.I (gI D 9),.I (gI D 10),.I (gI D 11),.I (gI D 12),.I (gI D 13),.I (gI D 14)]
 (fun j E=>(sw (k 0 [.I (gI E 0)])
 (fun _=>none)) j)))
 (fun _=>none)) j))
 (fun _=>none)) j))
 (fun _=>none)) j)))
 (fun _=>none)) j))
theorem F103_1.eq (fu:Nat):FEq (F103_1.O fu) 146 F103_1.ps F103_1.sh (F103_1 fu):=by intro τ l κ;kernel_rfl
def F103_1.E (fu:Nat):Ent P:=mkF (F103_1.eq fu)
def L113_5_1.H:LHead:=⟨false,true,0,688133,688133,12583304,136,0,[(PS.mk (us 3 ((pp 0)::us 3 ((pp 1)::(pp 2)::us 13 ((pC 2)::(pC 0)::us 18 [])))) fo5),(PS.mk (us 3 ((pp 0)::us 3 ((pp 1)::(pp 2)::us 13 ((pC 2)::(pC 1)::us 18 [])))) fo5),(PS.mk (us 3 ((pp 0)::us 3 ((pp 1)::(pp 2)::us 13 ((pC 2)::(pC 2)::us 18 [])))) fo5)],[((Out.exit 0),(PS.mk (us 3 ((pp 0)::us 3 ((pp 1)::us 34 []))) fo6))]⟩
def L113_5_1.O (fu:Nat):Orc P:=⟨[(F129.E fu)],[],[],40⟩
def L113_5_1.s0 (fu:Nat) {τ:Type} (next ex:Nat→LS_→Option τ) (l:LS_):Option τ :=
 (F129 fu) [.I (wr .i64 ((gI l 3)-(gI l 15))),.I (gI l 0)]
 (fun j A=>(sw (next 1 [.I (gI l 0),.N (gN l 1),.L (gL l 2),.I (gI A 0),.I (gI l 4),.I (gI l 5),.I (gI l 6),.I (gI l 7),.I (gI l 8),.I (gI l 9),.I (gI l 10),.I (gI l 11),.I (gI l 12),.I (gI l 13),.I (gI l 14),.I (gI l 15),.I (gI l 16),.I (gI l 17),.I (gI l 18),.I (gI l 19),.I (gI l 20),.I (gI l 21),.I (gI l 22),.I (gI l 23),.I (gI l 24),.I (gI l 25),.I (gI l 26)])
 (fun _=>none)) j)
theorem L113_5_1.e0 (fu:Nat):LEq (L113_5_1.O fu) L113_5_1.H 0 (L113_5_1.s0 fu):=by intro τ next κ l;kernel_rfl
def L113_5_1.s1 (fu:Nat) {τ:Type} (next ex:Nat→LS_→Option τ) (l:LS_):Option τ :=
 (F129 fu) [.I (wr .i64 ((gI l 4)-(gI l 16))),.I (gI l 0)]
 (fun j A=>(sw (next 2 [.I (gI l 0),.N (gN l 1),.L (gL l 2),.I (gI l 3),.I (gI A 0),.I (gI l 5),.I (gI l 6),.I (gI l 7),.I (gI l 8),.I (gI l 9),.I (gI l 10),.I (gI l 11),.I (gI l 12),.I (gI l 13),.I (gI l 14),.I (gI l 15),.I (gI l 16),.I (gI l 17),.I (gI l 18),.I (gI l 19),.I (gI l 20),.I (gI l 21),.I (gI l 22),.I (gI l 23),.I (gI l 24),.I (gI l 25),.I (gI l 26)])
 (fun _=>none)) j)
theorem L113_5_1.e1 (fu:Nat):LEq (L113_5_1.O fu) L113_5_1.H 1 (L113_5_1.s1 fu):=by intro τ next κ l;kernel_rfl
def L113_5_1.s2 (fu:Nat) {τ:Type} (next ex:Nat→LS_→Option τ) (l:LS_):Option τ :=
 ex 0 [.I (gI l 0),.N (gN l 1),.L (gL l 2),.I (gI l 3),.I (gI l 4),.I (gI l 5),.I (gI l 6),.I (gI l 7),.I (gI l 8),.I (gI l 9),.I (gI l 10),.I (gI l 11),.I (gI l 12),.I (gI l 13),.I (gI l 14)]
theorem L113_5_1.e2 (fu:Nat):LEq (L113_5_1.O fu) L113_5_1.H 2 (L113_5_1.s2 fu):=by intro τ next κ l;kernel_rfl
def L113_5_1 (fu:Nat):LStep P Cf:=LStep.mk3 (by decide) (L113_5_1.e0 fu) (L113_5_1.e1 fu) (L113_5_1.e2 fu)
def L113_5_1.b (fu:Nat) {τ:Type} (t:Nat) (l:LS_) (κ:Nat→LS_→Option τ):Option τ:=runE (L113_5_1 fu) fu κ t l
def L113_5_1.E (fu:Nat):LEnt P:=LStep.EN fu (L113_5_1 fu)
def F113_1.ps:List PV2:=[(PV2.agg [iI,(PV1.intC .i64 2),aI]),(pC 0),pI]
def F113_1.sh:List PA:=[(PA.mk (PV3.v pI) [])]
def F113_1.O (fu:Nat):Orc P:=⟨[(F128_1.E fu),(F127.E fu),(F130_1.E fu)],[(L113_5_1.E fu)],[],40⟩
def F113_1 (fu:Nat) {τ:Type} (l:LS_) (k:Nat→LS_→Option τ):Option τ :=
 ck (((eqM (List.length (gL l 1)) (List.length (gL l 1)))&&true)&&true)
 ((F128_1 fu) [.I (gI l 0),.L (gL l 1)]
 (fun j A=>(sw (br (!(gB A 0))
 (k 0 [.I 0])
 ((F127 fu) [.I (gI l 0),.I 0]
 (fun j B=>(sw ((F127 fu) [.I (gI l 0),.I (gI l 2)]
 (fun j C=>(sw ((L113_5_1.b fu) 0 [.I (gI l 0),.N (List.length (gL l 1)),.L (gL l 1),.I (gI B 0),.I (gI B 1),.I (gI B 2),.I (gI B 3),.I (gI B 4),.I (gI B 5),.I (gI B 6),.I (gI B 7),.I (gI B 8),.I (gI B 9),.I (gI B 10),.I (gI B 11),.I (gI C 0),.I (gI C 1),.I (gI C 2),.I (gI C 3),.I (gI C 4),.I (gI C 5),.I (gI C 6),.I (gI C 7),.I (gI C 8),.I (gI C 9),.I (gI C 10),.I (gI C 11)]
 (fun j D=>(sw (ck (((eqM (gN D 1) (List.length (gL D 2)))&&true)&&true)
 ((F130_1 fu) [.I (gI D 0),.L (gL D 2),.I (gI D 3),.I (gI D 4),.I (gI D 5),.I (gI D 6),.I (gI D 7),.I (gI D 8),.I (gI D 9),.I (gI D 10),.I (gI D 11),.I (gI D 12),.I (gI D 13),.I (gI D 14)]
 (fun j E=>(sw (k 0 [.I (gI E 0)])
 (fun _=>none)) j)))
 (fun _=>none)) j))
 (fun _=>none)) j))
 (fun _=>none)) j)))
 (fun _=>none)) j))
theorem F113_1.eq (fu:Nat):FEq (F113_1.O fu) 168 F113_1.ps F113_1.sh (F113_1 fu):=by intro τ l κ;kernel_rfl
def F113_1.E (fu:Nat):Ent P:=mkF (F113_1.eq fu)
def F83_1.ps:List PV2:=[(pFieldE 2),pI]
def F83_1.sh:List PA:=[(PA.mk (PV3.v pI) [])]
def F83_1.O (fu:Nat):Orc P:=⟨[(F113_1.E fu)],[],[],40⟩
def F83_1 (fu:Nat) {τ:Type} (l:LS_) (k:Nat→LS_→Option τ):Option τ :=
 ck (((eqM (List.length (gL l 1)) (List.length (gL l 1)))&&true)&&true)
 ((F113_1 fu) [.I (gI l 0),.L (gL l 1),.I (gI l 2)]
 (fun j A=>(sw (k 0 [.I (gI A 0)])
 (fun _=>none)) j))
theorem F83_1.eq (fu:Nat):FEq (F83_1.O fu) 144 F83_1.ps F83_1.sh (F83_1 fu):=by intro τ l κ;kernel_rfl
def F83_1.E (fu:Nat):Ent P:=mkF (F83_1.eq fu)
def L104_9_3.H:LHead:=⟨false,false,7,0,585737,3976,1928,0,[(PS.mk (us 3 ((pp 0)::us 3 ((pp 1)::(pp 2)::pI::pI::(pC 1)::us 62 []))) fo7),(PS.mk (us 3 ((pp 0)::us 3 ((pp 1)::(pp 2)::pI::pI::(pC 0)::us 62 []))) fo7)],[((Out.exit 2),(PS.mk (us 3 ((pp 0)::us 3 ((pp 1)::(pp 2)::pI::pI::us 63 []))) fo7))]⟩
def L104_9_3.O (fu:Nat):Orc P:=⟨[],[],[],40⟩
def L104_9_3.s0 (fu:Nat) {τ:Type} (next ex:Nat→LS_→Option τ) (l:LS_):Option τ :=
 next 1 [.I (gI l 0),.I (gI l 1),.I (gI l 2),.N (gN l 3),.L (gL l 4),.I (gI l 5),.I (gI l 6),.I (gI l 7),.I (gI l 8),.I (gI l 9),.I (gI l 10),.I (gI l 11),.I (gI l 12),.I (gI l 13),.I (gI l 14),.I (gI l 15),.I (gI l 16),.I (gI l 17),.I (gI l 17),.I (gI l 19),.N (gN l 20),.L (gL l 21),.I (gI l 22),.I (gI l 23),.N (gN l 24),.L (gL l 25),.I (gI l 26),.I (gI l 27),.I (gI l 28),.N (gN l 29),.L (gL l 30),.B (gB l 31),.I (gI l 32),.I (gI l 33),.I (gI l 34),.I (gI l 35),.I (gI l 36),.I (gI l 37),.I (gI l 38),.I (gI l 39),.I (gI l 40),.I (gI l 41),.I (gI l 42),.I (gI l 43),.I (gI l 44),.I (gI l 45),.I (gI l 46),.N (gN l 47),.L (gL l 48),.I (gI l 49),.I (gI l 50),.I (gI l 51),.I (gI l 52),.I (gI l 53),.I (gI l 54),.I (gI l 55),.I (gI l 56),.I (gI l 57),.I (gI l 58),.I (gI l 59),.I (gI l 60),.I (gI l 61)]
theorem L104_9_3.e0 (fu:Nat):LEq (L104_9_3.O fu) L104_9_3.H 0 (L104_9_3.s0 fu):=by intro τ next κ l;kernel_rfl
def L104_9_3.s1 (fu:Nat) {τ:Type} (next ex:Nat→LS_→Option τ) (l:LS_):Option τ :=
 ex 0 [.I (gI l 0),.I (gI l 1),.I (gI l 2),.N (gN l 3),.L (gL l 4),.I (gI l 5),.I (gI l 6),.I (gI l 7),.I (gI l 8),.I (gI l 9),.I (gI l 10),.I (gI l 11),.I (gI l 12),.I (gI l 13),.I (gI l 14),.I (gI l 15),.I (gI l 16),.I (gI l 17),.I (gI l 18),.I (gI l 19),.N (gN l 20),.L (gL l 21),.I (gI l 22),.I (gI l 23),.N (gN l 24),.L (gL l 25),.I (gI l 26),.I (gI l 27),.I (gI l 28),.N (gN l 29),.L (gL l 30),.B (gB l 31),.I (gI l 32),.I (gI l 33),.I (gI l 34),.I (gI l 35),.I (gI l 36),.I (gI l 37),.I (gI l 38),.I (gI l 39),.I (gI l 40),.I (gI l 41),.I (gI l 42),.I (gI l 43),.I (gI l 44),.I (gI l 45),.I (gI l 46),.N (gN l 47),.L (gL l 48),.I (gI l 49),.I (gI l 50),.I (gI l 51),.I (gI l 52),.I (gI l 53),.I (gI l 54),.I (gI l 55),.I (gI l 56),.I (gI l 57),.I (gI l 58),.I (gI l 59),.I (gI l 60),.I (gI l 61)]
theorem L104_9_3.e1 (fu:Nat):LEq (L104_9_3.O fu) L104_9_3.H 1 (L104_9_3.s1 fu):=by intro τ next κ l;kernel_rfl
def L104_9_3 (fu:Nat):LStep P Cf:=LStep.mk2 (by decide) (L104_9_3.e0 fu) (L104_9_3.e1 fu)
def L104_9_3.b (fu:Nat) {τ:Type} (t:Nat) (l:LS_) (κ:Nat→LS_→Option τ):Option τ:=runE (L104_9_3 fu) fu κ t l
def L104_9_3.E (fu:Nat):LEnt P:=LStep.EN fu (L104_9_3 fu)
def L104_14_3.H:LHead:=⟨false,false,7,0,585742,52776558135176,0,0,[(PS.mk (us 3 ((pp 0)::us 3 ((pp 1)::(pp 2)::pI::pI::us 33 ((pC 2)::(pC 0)::us 28 [])))) fo7),(PS.mk (us 3 ((pp 0)::us 3 ((pp 1)::(pp 2)::pI::pI::us 33 ((pC 2)::(pC 1)::us 28 [])))) fo7),(PS.mk (us 3 ((pp 0)::us 3 ((pp 1)::(pp 2)::pI::pI::us 33 ((pC 2)::(pC 2)::us 28 [])))) fo7)],[((Out.exit 4),(PS.mk (us 74 []) fo7))]⟩
def L104_14_3.O (fu:Nat):Orc P:=⟨[(F129.E fu)],[],[],40⟩
def L104_14_3.s0 (fu:Nat) {τ:Type} (next ex:Nat→LS_→Option τ) (l:LS_):Option τ :=
 ck ((ltI 0 (gN l 3))&&true)
 (ck (ltN 0 (List.length (gL l 4)))
 ((F129 fu) [.I (wr .i64 ((wr .i64 ((gI l 17)-(wr .i64 ((gI l 1)*(List.getD (gL l 4) 0 0)))))+(wr .i64 ((gI l 0)*(gI l 5))))),.I (gI l 2)]
 (fun j A=>(sw (next 1 [.I (gI l 0),.I (gI l 1),.I (gI l 2),.N (gN l 3),.L (gL l 4),.I (gI l 5),.I (gI l 6),.I (gI l 7),.I (gI l 8),.I (gI l 9),.I (gI l 10),.I (gI l 11),.I (gI l 12),.I (gI l 13),.I (gI l 14),.I (gI l 15),.I (gI l 16),.I (gI A 0),.I (gI l 18),.I (gI l 19),.N (gN l 20),.L (gL l 21),.I (gI l 22),.I (gI l 23),.N (gN l 24),.L (gL l 25),.I (gI l 26),.I (gI l 27),.I (gI l 28),.N (gN l 29),.L (gL l 30),.B (gB l 31),.I (gI l 32),.I (gI l 33),.I (gI l 34),.I (gI l 35),.I (gI l 36),.I (gI l 37),.I (gI l 38),.I (gI l 39),.I (gI l 40),.I (gI l 41),.I (gI l 42),.I (gI l 43),.I (gI l 44),.I (gI l 45),.I (gI l 46),.N (gN l 47),.L (gL l 48),.I (gI l 49),.I (gI l 50),.I (gI l 51),.I (gI l 52),.I (gI l 53),.I (gI l 54),.I (gI l 55),.I (gI l 56),.I (gI l 57),.I (gI l 58),.I (gI l 59),.I (gI l 60),.I (gI l 61)])
 (fun _=>none)) j)))
theorem L104_14_3.e0 (fu:Nat):LEq (L104_14_3.O fu) L104_14_3.H 0 (L104_14_3.s0 fu):=by intro τ next κ l;kernel_rfl
def L104_14_3.s1 (fu:Nat) {τ:Type} (next ex:Nat→LS_→Option τ) (l:LS_):Option τ :=
 ck ((ltI 1 (gN l 3))&&true)
 (ck (ltN 1 (List.length (gL l 4)))
 ((F129 fu) [.I (wr .i64 ((wr .i64 ((gI l 18)-(wr .i64 ((gI l 1)*(List.getD (gL l 4) 1 0)))))+(wr .i64 ((gI l 0)*(gI l 6))))),.I (gI l 2)]
 (fun j A=>(sw (next 2 [.I (gI l 0),.I (gI l 1),.I (gI l 2),.N (gN l 3),.L (gL l 4),.I (gI l 5),.I (gI l 6),.I (gI l 7),.I (gI l 8),.I (gI l 9),.I (gI l 10),.I (gI l 11),.I (gI l 12),.I (gI l 13),.I (gI l 14),.I (gI l 15),.I (gI l 16),.I (gI l 17),.I (gI A 0),.I (gI l 19),.N (gN l 20),.L (gL l 21),.I (gI l 22),.I (gI l 23),.N (gN l 24),.L (gL l 25),.I (gI l 26),.I (gI l 27),.I (gI l 28),.N (gN l 29),.L (gL l 30),.B (gB l 31),.I (gI l 32),.I (gI l 33),.I (gI l 34),.I (gI l 35),.I (gI l 36),.I (gI l 37),.I (gI l 38),.I (gI l 39),.I (gI l 40),.I (gI l 41),.I (gI l 42),.I (gI l 43),.I (gI l 44),.I (gI l 45),.I (gI l 46),.N (gN l 47),.L (gL l 48),.I (gI l 49),.I (gI l 50),.I (gI l 51),.I (gI l 52),.I (gI l 53),.I (gI l 54),.I (gI l 55),.I (gI l 56),.I (gI l 57),.I (gI l 58),.I (gI l 59),.I (gI l 60),.I (gI l 61)])
 (fun _=>none)) j)))
theorem L104_14_3.e1 (fu:Nat):LEq (L104_14_3.O fu) L104_14_3.H 1 (L104_14_3.s1 fu):=by intro τ next κ l;kernel_rfl
def L104_14_3.s2 (fu:Nat) {τ:Type} (next ex:Nat→LS_→Option τ) (l:LS_):Option τ :=
 ex 0 [.I (gI l 2),.N (gN l 3),.L (gL l 4),.I (gI l 5),.I (gI l 6),.I (gI l 7),.I (gI l 8),.I (gI l 9),.I (gI l 10),.I (gI l 11),.I (gI l 12),.I (gI l 13),.I (gI l 14),.I (gI l 15),.I (gI l 16),.I (gI l 17),.I (gI l 18),.I (gI l 19),.N (gN l 20),.L (gL l 21),.I (gI l 22),.I (gI l 23),.N (gN l 24),.L (gL l 25),.I (gI l 26),.I (gI l 27),.I (gI l 28),.N (gN l 29),.L (gL l 30),.B (gB l 31),.I (gI l 32),.I (gI l 33),.I (gI l 34),.I (gI l 35),.I (gI l 36),.I (gI l 37),.I (gI l 38),.I (gI l 39),.I (gI l 40),.I (gI l 41),.I (gI l 42),.I (gI l 43),.I (gI l 44),.I (gI l 45),.I (gI l 46),.N (gN l 47),.L (gL l 48),.I (gI l 49),.I (gI l 50),.I (gI l 51),.I (gI l 52),.I (gI l 53),.I (gI l 54),.I (gI l 55),.I (gI l 56),.I (gI l 57),.I (gI l 58),.I (gI l 59),.I (gI l 60),.I (gI l 61)]
theorem L104_14_3.e2 (fu:Nat):LEq (L104_14_3.O fu) L104_14_3.H 2 (L104_14_3.s2 fu):=by intro τ next κ l;kernel_rfl
def L104_14_3 (fu:Nat):LStep P Cf:=LStep.mk3 (by decide) (L104_14_3.e0 fu) (L104_14_3.e1 fu) (L104_14_3.e2 fu)
def L104_14_3.b (fu:Nat) {τ:Type} (t:Nat) (l:LS_) (κ:Nat→LS_→Option τ):Option τ:=runE (L104_14_3 fu) fu κ t l
def L104_14_3.E (fu:Nat):LEnt P:=LStep.EN fu (L104_14_3 fu)
def L138_2_1.H:LHead:=⟨false,false,7,741378,741378,49,0,0,[(PS.mk ((PV2.v (PV1.yld 5))::us 3 ((pp 6)::(pC 1)::us 17 [])) fo8),(PS.mk ((PV2.v (PV1.yld 5))::us 3 ((pp 6)::(pC 0)::us 17 [])) fo8),(PS.mk ((PV2.v (PV1.yld 5))::us 3 ((pp 6)::(pC (-1))::us 17 [])) fo8)],[((Out.exit 0),(PS.mk (us 23 []) fo8))]⟩
def L138_2_1.O (fu:Nat):Orc P:=⟨[],[(L104_9_3.E fu),(L104_14_3.E fu)],[],40⟩
def L138_2_1.s0 (fu:Nat) {τ:Type} (next ex:Nat→LS_→Option τ) (l:LS_):Option τ :=
 (L104_9_3.b fu) 0 [.I (gI l 49),.I (gI l 16),.I (gI l 0),.N (gN l 1),.L (gL l 2),.I (gI l 3),.I (gI l 4),.I (gI l 5),.I (gI l 6),.I (gI l 7),.I (gI l 8),.I (gI l 9),.I (gI l 10),.I (gI l 11),.I (gI l 12),.I (gI l 13),.I (gI l 14),.I (gI l 15),.I (gI l 16),.I (gI l 17),.N (gN l 18),.L (gL l 19),.I (gI l 20),.I (gI l 21),.N (gN l 22),.L (gL l 23),.I (gI l 24),.I (gI l 25),.I (gI l 26),.N (gN l 27),.L (gL l 28),.B (gB l 29),.I (gI l 30),.I (gI l 31),.I (gI l 32),.I (gI l 33),.I (gI l 34),.I (gI l 35),.I (gI l 36),.I (gI l 37),.I (gI l 38),.I (gI l 39),.I (gI l 40),.I (gI l 41),.I (gI l 42),.I (gI l 43),.I (gI l 44),.N (gN l 45),.L (gL l 46),.I (gI l 47),.I (gI l 48),.I (gI l 49),.I (gI l 50),.I (gI l 51),.I (gI l 52),.I (gI l 53),.I (gI l 54),.I (gI l 55),.I (gI l 56),.I (gI l 57),.I (gI l 58),.I (gI l 59)]
 (fun j A=>(sw ((L104_14_3.b fu) 0 [.I (gI A 0),.I (gI A 1),.I (gI A 2),.N (gN A 3),.L (gL A 4),.I (gI A 5),.I (gI A 6),.I (gI A 7),.I (gI A 8),.I (gI A 9),.I (gI A 10),.I (gI A 11),.I (gI A 12),.I (gI A 13),.I (gI A 14),.I (gI A 15),.I (gI A 16),.I 0,.I (gI A 18),.I (gI A 19),.N (gN A 20),.L (gL A 21),.I (gI A 22),.I (gI A 23),.N (gN A 24),.L (gL A 25),.I (gI A 26),.I (gI A 27),.I (gI A 28),.N (gN A 29),.L (gL A 30),.B (gB A 31),.I (gI A 32),.I (gI A 33),.I (gI A 34),.I (gI A 35),.I (gI A 36),.I (gI A 37),.I (gI A 38),.I (gI A 39),.I (gI A 40),.I (gI A 41),.I (gI A 42),.I (gI A 43),.I (gI A 44),.I (gI A 45),.I (gI A 46),.N (gN A 47),.L (gL A 48),.I (gI A 49),.I (gI A 50),.I (gI A 51),.I (gI A 52),.I (gI A 53),.I (gI A 54),.I (gI A 55),.I (gI A 56),.I (gI A 57),.I (gI A 58),.I (gI A 59),.I (gI A 60),.I (gI A 61)]
 (fun j B=>(sw (next 1 [.I (gI B 0),.N (gN B 1),.L (gL B 2),.I (gI B 3),.I (gI B 4),.I (gI B 5),.I (gI B 6),.I (gI B 7),.I (gI B 8),.I (gI B 9),.I (gI B 10),.I (gI B 11),.I (gI B 12),.I (gI B 13),.I (gI B 14),.I (gI B 15),.I (gI B 16),.I (gI B 17),.N (gN B 18),.L (gL B 19),.I (gI B 20),.I (gI B 21),.N (gN B 22),.L (gL B 23),.I (gI B 24),.I (gI B 25),.I (gI B 26),.N (gN B 27),.L (gL B 28),.B (gB B 29),.I (gI B 30),.I (gI B 31),.I (gI B 32),.I (gI B 33),.I (gI B 34),.I (gI B 35),.I (gI B 36),.I (gI B 37),.I (gI B 38),.I (gI B 39),.I (gI B 40),.I (gI B 41),.I (gI B 42),.I (gI B 43),.I (gI B 44),.N (gN B 45),.L (gL B 46),.I (gI B 47),.I (gI B 48),.I (gI B 49),.I (gI B 50),.I (gI B 51),.I (gI B 52),.I (gI B 53),.I (gI B 54),.I (gI B 55),.I (gI B 56),.I (gI B 57),.I (gI B 58),.I (gI B 59)])
 (fun _=>none)) j))
 (fun _=>none)) j)
theorem L138_2_1.e0 (fu:Nat):LEq (L138_2_1.O fu) L138_2_1.H 0 (L138_2_1.s0 fu):=by intro τ next κ l;kernel_rfl
def L138_2_1.s1 (fu:Nat) {τ:Type} (next ex:Nat→LS_→Option τ) (l:LS_):Option τ :=
 (L104_9_3.b fu) 0 [.I (gI l 48),.I (gI l 16),.I (gI l 0),.N (gN l 1),.L (gL l 2),.I (gI l 3),.I (gI l 4),.I (gI l 5),.I (gI l 6),.I (gI l 7),.I (gI l 8),.I (gI l 9),.I (gI l 10),.I (gI l 11),.I (gI l 12),.I (gI l 13),.I (gI l 14),.I (gI l 15),.I (gI l 16),.I (gI l 17),.N (gN l 18),.L (gL l 19),.I (gI l 20),.I (gI l 21),.N (gN l 22),.L (gL l 23),.I (gI l 24),.I (gI l 25),.I (gI l 26),.N (gN l 27),.L (gL l 28),.B (gB l 29),.I (gI l 30),.I (gI l 31),.I (gI l 32),.I (gI l 33),.I (gI l 34),.I (gI l 35),.I (gI l 36),.I (gI l 37),.I (gI l 38),.I (gI l 39),.I (gI l 40),.I (gI l 41),.I (gI l 42),.I (gI l 43),.I (gI l 44),.N (gN l 45),.L (gL l 46),.I (gI l 47),.I (gI l 48),.I (gI l 49),.I (gI l 50),.I (gI l 51),.I (gI l 52),.I (gI l 53),.I (gI l 54),.I (gI l 55),.I (gI l 56),.I (gI l 57),.I (gI l 58),.I (gI l 59)]
 (fun j A=>(sw ((L104_14_3.b fu) 0 [.I (gI A 0),.I (gI A 1),.I (gI A 2),.N (gN A 3),.L (gL A 4),.I (gI A 5),.I (gI A 6),.I (gI A 7),.I (gI A 8),.I (gI A 9),.I (gI A 10),.I (gI A 11),.I (gI A 12),.I (gI A 13),.I (gI A 14),.I (gI A 15),.I (gI A 16),.I 0,.I (gI A 18),.I (gI A 19),.N (gN A 20),.L (gL A 21),.I (gI A 22),.I (gI A 23),.N (gN A 24),.L (gL A 25),.I (gI A 26),.I (gI A 27),.I (gI A 28),.N (gN A 29),.L (gL A 30),.B (gB A 31),.I (gI A 32),.I (gI A 33),.I (gI A 34),.I (gI A 35),.I (gI A 36),.I (gI A 37),.I (gI A 38),.I (gI A 39),.I (gI A 40),.I (gI A 41),.I (gI A 42),.I (gI A 43),.I (gI A 44),.I (gI A 45),.I (gI A 46),.N (gN A 47),.L (gL A 48),.I (gI A 49),.I (gI A 50),.I (gI A 51),.I (gI A 52),.I (gI A 53),.I (gI A 54),.I (gI A 55),.I (gI A 56),.I (gI A 57),.I (gI A 58),.I (gI A 59),.I (gI A 60),.I (gI A 61)]
 (fun j B=>(sw (next 2 [.I (gI B 0),.N (gN B 1),.L (gL B 2),.I (gI B 3),.I (gI B 4),.I (gI B 5),.I (gI B 6),.I (gI B 7),.I (gI B 8),.I (gI B 9),.I (gI B 10),.I (gI B 11),.I (gI B 12),.I (gI B 13),.I (gI B 14),.I (gI B 15),.I (gI B 16),.I (gI B 17),.N (gN B 18),.L (gL B 19),.I (gI B 20),.I (gI B 21),.N (gN B 22),.L (gL B 23),.I (gI B 24),.I (gI B 25),.I (gI B 26),.N (gN B 27),.L (gL B 28),.B (gB B 29),.I (gI B 30),.I (gI B 31),.I (gI B 32),.I (gI B 33),.I (gI B 34),.I (gI B 35),.I (gI B 36),.I (gI B 37),.I (gI B 38),.I (gI B 39),.I (gI B 40),.I (gI B 41),.I (gI B 42),.I (gI B 43),.I (gI B 44),.N (gN B 45),.L (gL B 46),.I (gI B 47),.I (gI B 48),.I (gI B 49),.I (gI B 50),.I (gI B 51),.I (gI B 52),.I (gI B 53),.I (gI B 54),.I (gI B 55),.I (gI B 56),.I (gI B 57),.I (gI B 58),.I (gI B 59)])
 (fun _=>none)) j))
 (fun _=>none)) j)
theorem L138_2_1.e1 (fu:Nat):LEq (L138_2_1.O fu) L138_2_1.H 1 (L138_2_1.s1 fu):=by intro τ next κ l;kernel_rfl
def L138_2_1.s2 (fu:Nat) {τ:Type} (next ex:Nat→LS_→Option τ) (l:LS_):Option τ :=
 ex 0 [.I (gI l 0),.N (gN l 1),.L (gL l 2),.I (gI l 3),.I (gI l 4),.I (gI l 5),.I (gI l 6),.I (gI l 7),.I (gI l 8),.I (gI l 9),.I (gI l 10),.I (gI l 11),.I (gI l 12),.I (gI l 13),.I (gI l 14),.I (gI l 15),.I (gI l 16),.I (gI l 17),.N (gN l 18),.L (gL l 19),.I (gI l 20),.I (gI l 21),.N (gN l 22),.L (gL l 23),.I (gI l 24),.I (gI l 25),.I (gI l 26),.N (gN l 27),.L (gL l 28),.B (gB l 29),.I (gI l 30),.I (gI l 31),.I (gI l 32),.I (gI l 33),.I (gI l 34),.I (gI l 35),.I (gI l 36),.I (gI l 37),.I (gI l 38),.I (gI l 39),.I (gI l 40),.I (gI l 41),.I (gI l 42),.I (gI l 43),.I (gI l 44),.N (gN l 45),.L (gL l 46),.I (gI l 47),.I (gI l 48),.I (gI l 49),.I (gI l 50),.I (gI l 51),.I (gI l 52),.I (gI l 53),.I (gI l 54),.I (gI l 55),.I (gI l 56),.I (gI l 57),.I (gI l 58),.I (gI l 59)]
theorem L138_2_1.e2 (fu:Nat):LEq (L138_2_1.O fu) L138_2_1.H 2 (L138_2_1.s2 fu):=by intro τ next κ l;kernel_rfl
def L138_2_1 (fu:Nat):LStep P Cf:=LStep.mk3 (by decide) (L138_2_1.e0 fu) (L138_2_1.e1 fu) (L138_2_1.e2 fu)
def L138_2_1.b (fu:Nat) {τ:Type} (t:Nat) (l:LS_) (κ:Nat→LS_→Option τ):Option τ:=runE (L138_2_1 fu) fu κ t l
def L138_2_1.E (fu:Nat):LEnt P:=LStep.EN fu (L138_2_1 fu)
def F104_1.ps:List PV2:=[(pFieldE 2),pI,pI]
def F104_1.sh:List PA:=[(PA.mk (PV3.v pI) [])]
def F104_1.O (fu:Nat):Orc P:=⟨[(F128_1.E fu),(F127.E fu),(F130_1.E fu)],[(L138_2_1.E fu)],[],40⟩
def F104_1 (fu:Nat) {τ:Type} (l:LS_) (k:Nat→LS_→Option τ):Option τ :=
 ck (((eqM (List.length (gL l 1)) (List.length (gL l 1)))&&true)&&true)
 ((F128_1 fu) [.I (gI l 0),.L (gL l 1)]
 (fun j A=>(sw (br (!(gB A 0))
 (k 0 [.I 0])
 ((F127 fu) [.I (gI l 0),.I (gI l 2)]
 (fun j B=>(sw ((F127 fu) [.I (gI l 0),.I (gI l 3)]
 (fun j C=>(sw ((L138_2_1.b fu) 0 [.I (gI l 0),.N (List.length (gL l 1)),.L (gL l 1),.I (gI B 0),.I (gI B 1),.I (gI B 2),.I (gI B 3),.I (gI B 4),.I (gI B 5),.I (gI B 6),.I (gI B 7),.I (gI B 8),.I (gI B 9),.I (gI B 10),.I (gI B 11),.I 0,.I 0,.I (gI l 0),.N (List.length (gL l 1)),.L (gL l 1),.I (gI l 3),.I (gI l 0),.N (List.length (gL l 1)),.L (gL l 1),.I (gI l 2),.I (gI l 3),.I (gI l 0),.N (List.length (gL l 1)),.L (gL l 1),.B (gB A 0),.I (gI l 0),.I (gI l 2),.I (gI B 0),.I (gI B 1),.I (gI B 2),.I (gI B 3),.I (gI B 4),.I (gI B 5),.I (gI B 6),.I (gI B 7),.I (gI B 8),.I (gI B 9),.I (gI B 10),.I (gI B 11),.I (gI l 0),.N (List.length (gL l 1)),.L (gL l 1),.I (gI l 3),.I (gI C 0),.I (gI C 1),.I (gI C 2),.I (gI C 3),.I (gI C 4),.I (gI C 5),.I (gI C 6),.I (gI C 7),.I (gI C 8),.I (gI C 9),.I (gI C 10),.I (gI C 11)]
 (fun j D=>(sw (ck (((eqM (gN D 1) (List.length (gL D 2)))&&true)&&true)
 ((F130_1 fu) [.I (gI D 0),.L (gL D 2),.I (gI D 15),.I (gI D 16),.I 0,.I 0,.I 0,.I 0,.I 0,.I 0,.I 0,.I 0,.I 0,.I 0]
 (fun j E=>(sw (k 0 [.I (gI E 0)])
 (fun _=>none)) j)))
 (fun _=>none)) j))
 (fun _=>none)) j))
 (fun _=>none)) j)))
 (fun _=>none)) j))
theorem F104_1.eq (fu:Nat):FEq (F104_1.O fu) 143 F104_1.ps F104_1.sh (F104_1 fu):=by intro τ l κ;kernel_rfl
def F104_1.E (fu:Nat):Ent P:=mkF (F104_1.eq fu)
def L128_5_2.H:LHead:=⟨false,true,0,667653,667653,201326606,4,0,[(PS.mk (us 1 ((pp 0)::(PV2.v (PV1.boolC false))::pI::us 22 ((pC 3)::(pC 0)::us 11 []))) [(oG [pI,(pC 3),qR])]),(PS.mk (us 1 ((pp 0)::(PV2.v (PV1.boolC false))::pI::us 22 ((pC 3)::(pC 1)::us 11 []))) [(oG [pI,(pC 3),qR])]),(PS.mk (us 1 ((pp 0)::(PV2.v (PV1.boolC false))::pI::us 22 ((pC 3)::(pC 2)::us 11 []))) [(oG [pI,(pC 3),qR])]),(PS.mk (us 1 ((pp 0)::(PV2.v (PV1.boolC false))::pI::us 22 ((pC 3)::(pC 3)::us 11 []))) [(oG [pI,(pC 3),qR])])],[(Out.ret,(PS.mk (us 2 ((PV2.v (PV1.boolC false))::us 36 [])) [])),((Out.exit 0),(PS.mk (us 2 ((PV2.v (PV1.boolC false))::us 36 [])) []))]⟩
def L128_5_2.O (fu:Nat):Orc P:=⟨[],[],[],40⟩
def L128_5_2.s0 (fu:Nat) {τ:Type} (next ex:Nat→LS_→Option τ) (l:LS_):Option τ :=
 ck (!((gI l 1)==0))
 (br (gtI (gI l 0) (wr .i64 (Int.tdiv 64 (gI l 1))))
 (ex 0 [])
 (next 1 [.I (wr .i64 ((gI l 0)*(gI l 1))),.I (gI l 1),.N (gN l 2),.L (gL l 3)]))
theorem L128_5_2.e0 (fu:Nat):LEq (L128_5_2.O fu) L128_5_2.H 0 (L128_5_2.s0 fu):=by intro τ next κ l;kernel_rfl
def L128_5_2.s1 (fu:Nat) {τ:Type} (next ex:Nat→LS_→Option τ) (l:LS_):Option τ :=
 ck (!((gI l 1)==0))
 (br (gtI (gI l 0) (wr .i64 (Int.tdiv 64 (gI l 1))))
 (ex 0 [])
 (next 2 [.I (wr .i64 ((gI l 0)*(gI l 1))),.I (gI l 1),.N (gN l 2),.L (gL l 3)]))
theorem L128_5_2.e1 (fu:Nat):LEq (L128_5_2.O fu) L128_5_2.H 1 (L128_5_2.s1 fu):=by intro τ next κ l;kernel_rfl
def L128_5_2.s2 (fu:Nat) {τ:Type} (next ex:Nat→LS_→Option τ) (l:LS_):Option τ :=
 ck (!((gI l 1)==0))
 (br (gtI (gI l 0) (wr .i64 (Int.tdiv 64 (gI l 1))))
 (ex 0 [])
 (next 3 [.I (wr .i64 ((gI l 0)*(gI l 1))),.I (gI l 1),.N (gN l 2),.L (gL l 3)]))
theorem L128_5_2.e2 (fu:Nat):LEq (L128_5_2.O fu) L128_5_2.H 2 (L128_5_2.s2 fu):=by intro τ next κ l;kernel_rfl
def L128_5_2.s3 (fu:Nat) {τ:Type} (next ex:Nat→LS_→Option τ) (l:LS_):Option τ :=
 ex 1 []
theorem L128_5_2.e3 (fu:Nat):LEq (L128_5_2.O fu) L128_5_2.H 3 (L128_5_2.s3 fu):=by intro τ next κ l;kernel_rfl
def L128_5_2 (fu:Nat):LStep P Cf:=LStep.mk4 (by decide) (L128_5_2.e0 fu) (L128_5_2.e1 fu) (L128_5_2.e2 fu) (L128_5_2.e3 fu)
def L128_5_2.b (fu:Nat) {τ:Type} (t:Nat) (l:LS_) (κ:Nat→LS_→Option τ):Option τ:=runE (L128_5_2 fu) fu κ t l
def L128_5_2.E (fu:Nat):LEnt P:=LStep.EN fu (L128_5_2 fu)
def F128_2.ps:List PV2:=[(PV2.agg [iI,(PV1.intC .i64 3),aI])]
def F128_2.sh:List PA:=[(PA.mk (PV3.v pB) [])]
def F128_2.O (fu:Nat):Orc P:=⟨[],[(L128_5_2.E fu)],[],40⟩
def F128_2 (fu:Nat) {τ:Type} (l:LS_) (k:Nat→LS_→Option τ):Option τ :=
 br (ltI (gI l 0) 2)
 (k 0 [.B false])
 (br ((((List.length (gL l 1)):Nat):Int) != 3)
 (k 0 [.B false])
 ((L128_5_2.b fu) 0 [.I 1,.I (gI l 0),.N (List.length (gL l 1)),.L (gL l 1)]
 (fun j A=>(sw (k 0 [.B false])
 (sw (k 0 [.B true])
 (fun _=>none))) j)))
theorem F128_2.eq (fu:Nat):FEq (F128_2.O fu) 163 F128_2.ps F128_2.sh (F128_2 fu):=by intro τ l κ;kernel_rfl
def F128_2.E (fu:Nat):Ent P:=mkF (F128_2.eq fu)
def L103_5_2.H:LHead:=⟨false,true,0,598021,598021,12583304,136,0,[(PS.mk (us 3 ((pp 0)::us 3 ((pp 1)::(pp 2)::us 13 ((pC 3)::(pC 0)::us 18 [])))) fo9),(PS.mk (us 3 ((pp 0)::us 3 ((pp 1)::(pp 2)::us 13 ((pC 3)::(pC 1)::us 18 [])))) fo9),(PS.mk (us 3 ((pp 0)::us 3 ((pp 1)::(pp 2)::us 13 ((pC 3)::(pC 2)::us 18 [])))) fo9),(PS.mk (us 3 ((pp 0)::us 3 ((pp 1)::(pp 2)::us 13 ((pC 3)::(pC 3)::us 18 [])))) fo9)],[((Out.exit 0),(PS.mk (us 3 ((pp 0)::us 3 ((pp 1)::us 34 []))) fo10))]⟩
def L103_5_2.O (fu:Nat):Orc P:=⟨[(F129.E fu)],[],[],40⟩
def L103_5_2.s0 (fu:Nat) {τ:Type} (next ex:Nat→LS_→Option τ) (l:LS_):Option τ :=
 (F129 fu) [.I (wr .i64 ((gI l 3)+(gI l 15))),.I (gI l 0)]
 (fun j A=>(sw (next 1 [.I (gI l 0),.N (gN l 1),.L (gL l 2),.I (gI A 0),.I (gI l 4),.I (gI l 5),.I (gI l 6),.I (gI l 7),.I (gI l 8),.I (gI l 9),.I (gI l 10),.I (gI l 11),.I (gI l 12),.I (gI l 13),.I (gI l 14),.I (gI l 15),.I (gI l 16),.I (gI l 17),.I (gI l 18),.I (gI l 19),.I (gI l 20),.I (gI l 21),.I (gI l 22),.I (gI l 23),.I (gI l 24),.I (gI l 25),.I (gI l 26)])
 (fun _=>none)) j)
theorem L103_5_2.e0 (fu:Nat):LEq (L103_5_2.O fu) L103_5_2.H 0 (L103_5_2.s0 fu):=by intro τ next κ l;kernel_rfl
def L103_5_2.s1 (fu:Nat) {τ:Type} (next ex:Nat→LS_→Option τ) (l:LS_):Option τ :=
 (F129 fu) [.I (wr .i64 ((gI l 4)+(gI l 16))),.I (gI l 0)]
 (fun j A=>(sw (next 2 [.I (gI l 0),.N (gN l 1),.L (gL l 2),.I (gI l 3),.I (gI A 0),.I (gI l 5),.I (gI l 6),.I (gI l 7),.I (gI l 8),.I (gI l 9),.I (gI l 10),.I (gI l 11),.I (gI l 12),.I (gI l 13),.I (gI l 14),.I (gI l 15),.I (gI l 16),.I (gI l 17),.I (gI l 18),.I (gI l 19),.I (gI l 20),.I (gI l 21),.I (gI l 22),.I (gI l 23),.I (gI l 24),.I (gI l 25),.I (gI l 26)])
 (fun _=>none)) j)
theorem L103_5_2.e1 (fu:Nat):LEq (L103_5_2.O fu) L103_5_2.H 1 (L103_5_2.s1 fu):=by intro τ next κ l;kernel_rfl
def L103_5_2.s2 (fu:Nat) {τ:Type} (next ex:Nat→LS_→Option τ) (l:LS_):Option τ :=
 (F129 fu) [.I (wr .i64 ((gI l 5)+(gI l 17))),.I (gI l 0)]
 (fun j A=>(sw (next 3 [.I (gI l 0),.N (gN l 1),.L (gL l 2),.I (gI l 3),.I (gI l 4),.I (gI A 0),.I (gI l 6),.I (gI l 7),.I (gI l 8),.I (gI l 9),.I (gI l 10),.I (gI l 11),.I (gI l 12),.I (gI l 13),.I (gI l 14),.I (gI l 15),.I (gI l 16),.I (gI l 17),.I (gI l 18),.I (gI l 19),.I (gI l 20),.I (gI l 21),.I (gI l 22),.I (gI l 23),.I (gI l 24),.I (gI l 25),.I (gI l 26)])
 (fun _=>none)) j)
theorem L103_5_2.e2 (fu:Nat):LEq (L103_5_2.O fu) L103_5_2.H 2 (L103_5_2.s2 fu):=by intro τ next κ l;kernel_rfl
def L103_5_2.s3 (fu:Nat) {τ:Type} (next ex:Nat→LS_→Option τ) (l:LS_):Option τ :=
 ex 0 [.I (gI l 0),.N (gN l 1),.L (gL l 2),.I (gI l 3),.I (gI l 4),.I (gI l 5),.I (gI l 6),.I (gI l 7),.I (gI l 8),.I (gI l 9),.I (gI l 10),.I (gI l 11),.I (gI l 12),.I (gI l 13),.I (gI l 14)]
theorem L103_5_2.e3 (fu:Nat):LEq (L103_5_2.O fu) L103_5_2.H 3 (L103_5_2.s3 fu):=by intro τ next κ l;kernel_rfl
def L103_5_2 (fu:Nat):LStep P Cf:=LStep.mk4 (by decide) (L103_5_2.e0 fu) (L103_5_2.e1 fu) (L103_5_2.e2 fu) (L103_5_2.e3 fu)
def L103_5_2.b (fu:Nat) {τ:Type} (t:Nat) (l:LS_) (κ:Nat→LS_→Option τ):Option τ:=runE (L103_5_2 fu) fu κ t l
def L103_5_2.E (fu:Nat):LEnt P:=LStep.EN fu (L103_5_2 fu)
def L130_3_2.H:LHead:=⟨false,true,0,684035,684035,108,32,0,[(PS.mk (us 2 ((pp 0)::(pp 1)::us 1 (pI::(pC 2)::us 16 []))) fo10),(PS.mk (us 2 ((pp 0)::(pp 1)::us 1 (pI::(pC 1)::us 16 []))) fo10),(PS.mk (us 2 ((pp 0)::(pp 1)::us 1 (pI::(pC 0)::us 16 []))) fo10),(PS.mk (us 2 ((pp 0)::(pp 1)::us 1 (pI::(pC (-1))::us 16 []))) fo10)],[((Out.exit 0),(PS.mk (us 5 (pI::us 17 [])) []))]⟩
def L130_3_2.O (fu:Nat):Orc P:=⟨[],[],[],40⟩
def L130_3_2.s0 (fu:Nat) {τ:Type} (next ex:Nat→LS_→Option τ) (l:LS_):Option τ :=
 next 1 [.I (wr .i64 ((wr .i64 ((gI l 0)*(gI l 1)))+(gI l 6))),.I (gI l 1),.N (gN l 2),.L (gL l 3),.I (gI l 4),.I (gI l 5),.I (gI l 6),.I (gI l 7),.I (gI l 8),.I (gI l 9),.I (gI l 10),.I (gI l 11),.I (gI l 12),.I (gI l 13),.I (gI l 14),.I (gI l 15)]
theorem L130_3_2.e0 (fu:Nat):LEq (L130_3_2.O fu) L130_3_2.H 0 (L130_3_2.s0 fu):=by intro τ next κ l;kernel_rfl
def L130_3_2.s1 (fu:Nat) {τ:Type} (next ex:Nat→LS_→Option τ) (l:LS_):Option τ :=
 next 2 [.I (wr .i64 ((wr .i64 ((gI l 0)*(gI l 1)))+(gI l 5))),.I (gI l 1),.N (gN l 2),.L (gL l 3),.I (gI l 4),.I (gI l 5),.I (gI l 6),.I (gI l 7),.I (gI l 8),.I (gI l 9),.I (gI l 10),.I (gI l 11),.I (gI l 12),.I (gI l 13),.I (gI l 14),.I (gI l 15)]
theorem L130_3_2.e1 (fu:Nat):LEq (L130_3_2.O fu) L130_3_2.H 1 (L130_3_2.s1 fu):=by intro τ next κ l;kernel_rfl
def L130_3_2.s2 (fu:Nat) {τ:Type} (next ex:Nat→LS_→Option τ) (l:LS_):Option τ :=
 next 3 [.I (wr .i64 ((wr .i64 ((gI l 0)*(gI l 1)))+(gI l 4))),.I (gI l 1),.N (gN l 2),.L (gL l 3),.I (gI l 4),.I (gI l 5),.I (gI l 6),.I (gI l 7),.I (gI l 8),.I (gI l 9),.I (gI l 10),.I (gI l 11),.I (gI l 12),.I (gI l 13),.I (gI l 14),.I (gI l 15)]
theorem L130_3_2.e2 (fu:Nat):LEq (L130_3_2.O fu) L130_3_2.H 2 (L130_3_2.s2 fu):=by intro τ next κ l;kernel_rfl
def L130_3_2.s3 (fu:Nat) {τ:Type} (next ex:Nat→LS_→Option τ) (l:LS_):Option τ :=
 ex 0 [.I (gI l 0)]
theorem L130_3_2.e3 (fu:Nat):LEq (L130_3_2.O fu) L130_3_2.H 3 (L130_3_2.s3 fu):=by intro τ next κ l;kernel_rfl
def L130_3_2 (fu:Nat):LStep P Cf:=LStep.mk4 (by decide) (L130_3_2.e0 fu) (L130_3_2.e1 fu) (L130_3_2.e2 fu) (L130_3_2.e3 fu)
def L130_3_2.b (fu:Nat) {τ:Type} (t:Nat) (l:LS_) (κ:Nat→LS_→Option τ):Option τ:=runE (L130_3_2 fu) fu κ t l
def L130_3_2.E (fu:Nat):LEnt P:=LStep.EN fu (L130_3_2 fu)
def F130_2.ps:List PV2:=[(PV2.agg [iI,(PV1.intC .i64 3),aI]),(PV2.agg [iI,iI,iI,iI,iI,iI,iI,iI,iI,iI,iI,iI])]
def F130_2.sh:List PA:=[(PA.mk (PV3.v pI) [])]
def F130_2.O (fu:Nat):Orc P:=⟨[],[(L130_3_2.E fu)],[],40⟩
def F130_2 (fu:Nat) {τ:Type} (l:LS_) (k:Nat→LS_→Option τ):Option τ :=
 (L130_3_2.b fu) 0 [.I 0,.I (gI l 0),.N (List.length (gL l 1)),.L (gL l 1),.I (gI l 2),.I (gI l 3),.I (gI l 4),.I (gI l 5),.I (gI l 6),.I (gI l 7),.I (gI l 8),.I (gI l 9),.I (gI l 10),.I (gI l 11),.I (gI l 12),.I (gI l 13)]
 (fun j A=>(sw (k 0 [.I (gI A 0)])
 (fun _=>none)) j)
theorem F130_2.eq (fu:Nat):FEq (F130_2.O fu) 167 F130_2.ps F130_2.sh (F130_2 fu):=by intro τ l κ;kernel_rfl
def F130_2.E (fu:Nat):Ent P:=mkF (F130_2.eq fu)
def F103_2.ps:List PV2:=[(pFieldE 3),pI,pI]
def F103_2.sh:List PA:=[(PA.mk (PV3.v pI) [])]
def F103_2.O (fu:Nat):Orc P:=⟨[(F128_2.E fu),(F127.E fu),(F130_2.E fu)],[(L103_5_2.E fu)],[],40⟩
def F103_2 (fu:Nat) {τ:Type} (l:LS_) (k:Nat→LS_→Option τ):Option τ :=
 ck (((eqM (List.length (gL l 1)) (List.length (gL l 1)))&&true)&&true)
 ((F128_2 fu) [.I (gI l 0),.L (gL l 1)]
 (fun j A=>(sw (br (!(gB A 0))
 (k 0 [.I 0])
 ((F127 fu) [.I (gI l 0),.I (gI l 2)]
 (fun j B=>(sw ((F127 fu) [.I (gI l 0),.I (gI l 3)]
 (fun j C=>(sw ((L103_5_2.b fu) 0 [.I (gI l 0),.N (List.length (gL l 1)),.L (gL l 1),.I (gI B 0),.I (gI B 1),.I (gI B 2),.I (gI B 3),.I (gI B 4),.I (gI B 5),.I (gI B 6),.I (gI B 7),.I (gI B 8),.I (gI B 9),.I (gI B 10),.I (gI B 11),.I (gI C 0),.I (gI C 1),.I (gI C 2),.I (gI C 3),.I (gI C 4),.I (gI C 5),.I (gI C 6),.I (gI C 7),.I (gI C 8),.I (gI C 9),.I (gI C 10),.I (gI C 11)]
 (fun j D=>(sw (ck (((eqM (gN D 1) (List.length (gL D 2)))&&true)&&true)
 ((F130_2 fu) [.I (gI D 0),.L (gL D 2),.I (gI D 3),.I (gI D 4),.I (gI D 5),.I (gI D 6),.I (gI D 7),.I (gI D 8),.I (gI D 9),.I (gI D 10),.I (gI D 11),.I (gI D 12),.I (gI D 13),.I (gI D 14)]
 (fun j E=>(sw (k 0 [.I (gI E 0)])
 (fun _=>none)) j)))
 (fun _=>none)) j))
 (fun _=>none)) j))
 (fun _=>none)) j)))
 (fun _=>none)) j))
theorem F103_2.eq (fu:Nat):FEq (F103_2.O fu) 146 F103_2.ps F103_2.sh (F103_2 fu):=by intro τ l κ;kernel_rfl
def F103_2.E (fu:Nat):Ent P:=mkF (F103_2.eq fu)
def L113_5_2.H:LHead:=⟨false,true,0,688133,688133,12583304,136,0,[(PS.mk (us 3 ((pp 0)::us 3 ((pp 1)::(pp 2)::us 13 ((pC 3)::(pC 0)::us 18 [])))) fo9),(PS.mk (us 3 ((pp 0)::us 3 ((pp 1)::(pp 2)::us 13 ((pC 3)::(pC 1)::us 18 [])))) fo9),(PS.mk (us 3 ((pp 0)::us 3 ((pp 1)::(pp 2)::us 13 ((pC 3)::(pC 2)::us 18 [])))) fo9),(PS.mk (us 3 ((pp 0)::us 3 ((pp 1)::(pp 2)::us 13 ((pC 3)::(pC 3)::us 18 [])))) fo9)],[((Out.exit 0),(PS.mk (us 3 ((pp 0)::us 3 ((pp 1)::us 34 []))) fo10))]⟩
def L113_5_2.O (fu:Nat):Orc P:=⟨[(F129.E fu)],[],[],40⟩
def L113_5_2.s0 (fu:Nat) {τ:Type} (next ex:Nat→LS_→Option τ) (l:LS_):Option τ :=
 (F129 fu) [.I (wr .i64 ((gI l 3)-(gI l 15))),.I (gI l 0)]
 (fun j A=>(sw (next 1 [.I (gI l 0),.N (gN l 1),.L (gL l 2),.I (gI A 0),.I (gI l 4),.I (gI l 5),.I (gI l 6),.I (gI l 7),.I (gI l 8),.I (gI l 9),.I (gI l 10),.I (gI l 11),.I (gI l 12),.I (gI l 13),.I (gI l 14),.I (gI l 15),.I (gI l 16),.I (gI l 17),.I (gI l 18),.I (gI l 19),.I (gI l 20),.I (gI l 21),.I (gI l 22),.I (gI l 23),.I (gI l 24),.I (gI l 25),.I (gI l 26)])
 (fun _=>none)) j)
theorem L113_5_2.e0 (fu:Nat):LEq (L113_5_2.O fu) L113_5_2.H 0 (L113_5_2.s0 fu):=by intro τ next κ l;kernel_rfl
def L113_5_2.s1 (fu:Nat) {τ:Type} (next ex:Nat→LS_→Option τ) (l:LS_):Option τ :=
 (F129 fu) [.I (wr .i64 ((gI l 4)-(gI l 16))),.I (gI l 0)]
 (fun j A=>(sw (next 2 [.I (gI l 0),.N (gN l 1),.L (gL l 2),.I (gI l 3),.I (gI A 0),.I (gI l 5),.I (gI l 6),.I (gI l 7),.I (gI l 8),.I (gI l 9),.I (gI l 10),.I (gI l 11),.I (gI l 12),.I (gI l 13),.I (gI l 14),.I (gI l 15),.I (gI l 16),.I (gI l 17),.I (gI l 18),.I (gI l 19),.I (gI l 20),.I (gI l 21),.I (gI l 22),.I (gI l 23),.I (gI l 24),.I (gI l 25),.I (gI l 26)])
 (fun _=>none)) j)
theorem L113_5_2.e1 (fu:Nat):LEq (L113_5_2.O fu) L113_5_2.H 1 (L113_5_2.s1 fu):=by intro τ next κ l;kernel_rfl
def L113_5_2.s2 (fu:Nat) {τ:Type} (next ex:Nat→LS_→Option τ) (l:LS_):Option τ :=
 (F129 fu) [.I (wr .i64 ((gI l 5)-(gI l 17))),.I (gI l 0)]
 (fun j A=>(sw (next 3 [.I (gI l 0),.N (gN l 1),.L (gL l 2),.I (gI l 3),.I (gI l 4),.I (gI A 0),.I (gI l 6),.I (gI l 7),.I (gI l 8),.I (gI l 9),.I (gI l 10),.I (gI l 11),.I (gI l 12),.I (gI l 13),.I (gI l 14),.I (gI l 15),.I (gI l 16),.I (gI l 17),.I (gI l 18),.I (gI l 19),.I (gI l 20),.I (gI l 21),.I (gI l 22),.I (gI l 23),.I (gI l 24),.I (gI l 25),.I (gI l 26)])
 (fun _=>none)) j)
theorem L113_5_2.e2 (fu:Nat):LEq (L113_5_2.O fu) L113_5_2.H 2 (L113_5_2.s2 fu):=by intro τ next κ l;kernel_rfl
def L113_5_2.s3 (fu:Nat) {τ:Type} (next ex:Nat→LS_→Option τ) (l:LS_):Option τ :=
 ex 0 [.I (gI l 0),.N (gN l 1),.L (gL l 2),.I (gI l 3),.I (gI l 4),.I (gI l 5),.I (gI l 6),.I (gI l 7),.I (gI l 8),.I (gI l 9),.I (gI l 10),.I (gI l 11),.I (gI l 12),.I (gI l 13),.I (gI l 14)]
theorem L113_5_2.e3 (fu:Nat):LEq (L113_5_2.O fu) L113_5_2.H 3 (L113_5_2.s3 fu):=by intro τ next κ l;kernel_rfl
def L113_5_2 (fu:Nat):LStep P Cf:=LStep.mk4 (by decide) (L113_5_2.e0 fu) (L113_5_2.e1 fu) (L113_5_2.e2 fu) (L113_5_2.e3 fu)
def L113_5_2.b (fu:Nat) {τ:Type} (t:Nat) (l:LS_) (κ:Nat→LS_→Option τ):Option τ:=runE (L113_5_2 fu) fu κ t l
def L113_5_2.E (fu:Nat):LEnt P:=LStep.EN fu (L113_5_2 fu)
def F113_2.ps:List PV2:=[(PV2.agg [iI,(PV1.intC .i64 3),aI]),(pC 0),pI]
def F113_2.sh:List PA:=[(PA.mk (PV3.v pI) [])]
def F113_2.O (fu:Nat):Orc P:=⟨[(F128_2.E fu),(F127.E fu),(F130_2.E fu)],[(L113_5_2.E fu)],[],40⟩
def F113_2 (fu:Nat) {τ:Type} (l:LS_) (k:Nat→LS_→Option τ):Option τ :=
 ck (((eqM (List.length (gL l 1)) (List.length (gL l 1)))&&true)&&true)
 ((F128_2 fu) [.I (gI l 0),.L (gL l 1)]
 (fun j A=>(sw (br (!(gB A 0))
 (k 0 [.I 0])
 ((F127 fu) [.I (gI l 0),.I 0]
 (fun j B=>(sw ((F127 fu) [.I (gI l 0),.I (gI l 2)]
 (fun j C=>(sw ((L113_5_2.b fu) 0 [.I (gI l 0),.N (List.length (gL l 1)),.L (gL l 1),.I (gI B 0),.I (gI B 1),.I (gI B 2),.I (gI B 3),.I (gI B 4),.I (gI B 5),.I (gI B 6),.I (gI B 7),.I (gI B 8),.I (gI B 9),.I (gI B 10),.I (gI B 11),.I (gI C 0),.I (gI C 1),.I (gI C 2),.I (gI C 3),.I (gI C 4),.I (gI C 5),.I (gI C 6),.I (gI C 7),.I (gI C 8),.I (gI C 9),.I (gI C 10),.I (gI C 11)]
 (fun j D=>(sw (ck (((eqM (gN D 1) (List.length (gL D 2)))&&true)&&true)
 ((F130_2 fu) [.I (gI D 0),.L (gL D 2),.I (gI D 3),.I (gI D 4),.I (gI D 5),.I (gI D 6),.I (gI D 7),.I (gI D 8),.I (gI D 9),.I (gI D 10),.I (gI D 11),.I (gI D 12),.I (gI D 13),.I (gI D 14)]
 (fun j E=>(sw (k 0 [.I (gI E 0)])
 (fun _=>none)) j)))
 (fun _=>none)) j))
 (fun _=>none)) j))
 (fun _=>none)) j)))
 (fun _=>none)) j))
theorem F113_2.eq (fu:Nat):FEq (F113_2.O fu) 168 F113_2.ps F113_2.sh (F113_2 fu):=by intro τ l κ;kernel_rfl
def F113_2.E (fu:Nat):Ent P:=mkF (F113_2.eq fu)
def F83_2.ps:List PV2:=[(pFieldE 3),pI]
def F83_2.sh:List PA:=[(PA.mk (PV3.v pI) [])]
def F83_2.O (fu:Nat):Orc P:=⟨[(F113_2.E fu)],[],[],40⟩
def F83_2 (fu:Nat) {τ:Type} (l:LS_) (k:Nat→LS_→Option τ):Option τ :=
 ck (((eqM (List.length (gL l 1)) (List.length (gL l 1)))&&true)&&true)
 ((F113_2 fu) [.I (gI l 0),.L (gL l 1),.I (gI l 2)]
 (fun j A=>(sw (k 0 [.I (gI A 0)])
 (fun _=>none)) j))
theorem F83_2.eq (fu:Nat):FEq (F83_2.O fu) 144 F83_2.ps F83_2.sh (F83_2 fu):=by intro τ l κ;kernel_rfl
def F83_2.E (fu:Nat):Ent P:=mkF (F83_2.eq fu)
def L104_9_5.H:LHead:=⟨false,false,7,0,585737,3976,1928,0,[(PS.mk (us 3 ((pp 0)::us 3 ((pp 1)::(pp 2)::pI::pI::(pC 2)::us 62 []))) fo11),(PS.mk (us 3 ((pp 0)::us 3 ((pp 1)::(pp 2)::pI::pI::(pC 1)::us 62 []))) fo11),(PS.mk (us 3 ((pp 0)::us 3 ((pp 1)::(pp 2)::pI::pI::(pC 0)::us 62 []))) fo11)],[((Out.exit 2),(PS.mk (us 3 ((pp 0)::us 3 ((pp 1)::(pp 2)::pI::pI::us 63 []))) fo11))]⟩
def L104_9_5.O (fu:Nat):Orc P:=⟨[],[],[],40⟩
def L104_9_5.s0 (fu:Nat) {τ:Type} (next ex:Nat→LS_→Option τ) (l:LS_):Option τ :=
 next 1 [.I (gI l 0),.I (gI l 1),.I (gI l 2),.N (gN l 3),.L (gL l 4),.I (gI l 5),.I (gI l 6),.I (gI l 7),.I (gI l 8),.I (gI l 9),.I (gI l 10),.I (gI l 11),.I (gI l 12),.I (gI l 13),.I (gI l 14),.I (gI l 15),.I (gI l 16),.I (gI l 17),.I (gI l 18),.I (gI l 18),.I (gI l 20),.N (gN l 21),.L (gL l 22),.I (gI l 23),.I (gI l 24),.N (gN l 25),.L (gL l 26),.I (gI l 27),.I (gI l 28),.I (gI l 29),.N (gN l 30),.L (gL l 31),.B (gB l 32),.I (gI l 33),.I (gI l 34),.I (gI l 35),.I (gI l 36),.I (gI l 37),.I (gI l 38),.I (gI l 39),.I (gI l 40),.I (gI l 41),.I (gI l 42),.I (gI l 43),.I (gI l 44),.I (gI l 45),.I (gI l 46),.I (gI l 47),.N (gN l 48),.L (gL l 49),.I (gI l 50),.I (gI l 51),.I (gI l 52),.I (gI l 53),.I (gI l 54),.I (gI l 55),.I (gI l 56),.I (gI l 57),.I (gI l 58),.I (gI l 59),.I (gI l 60),.I (gI l 61),.I (gI l 62)]
theorem L104_9_5.e0 (fu:Nat):LEq (L104_9_5.O fu) L104_9_5.H 0 (L104_9_5.s0 fu):=by intro τ next κ l;kernel_rfl
def L104_9_5.s1 (fu:Nat) {τ:Type} (next ex:Nat→LS_→Option τ) (l:LS_):Option τ :=
 next 2 [.I (gI l 0),.I (gI l 1),.I (gI l 2),.N (gN l 3),.L (gL l 4),.I (gI l 5),.I (gI l 6),.I (gI l 7),.I (gI l 8),.I (gI l 9),.I (gI l 10),.I (gI l 11),.I (gI l 12),.I (gI l 13),.I (gI l 14),.I (gI l 15),.I (gI l 16),.I (gI l 17),.I (gI l 17),.I (gI l 19),.I (gI l 20),.N (gN l 21),.L (gL l 22),.I (gI l 23),.I (gI l 24),.N (gN l 25),.L (gL l 26),.I (gI l 27),.I (gI l 28),.I (gI l 29),.N (gN l 30),.L (gL l 31),.B (gB l 32),.I (gI l 33),.I (gI l 34),.I (gI l 35),.I (gI l 36),.I (gI l 37),.I (gI l 38),.I (gI l 39),.I (gI l 40),.I (gI l 41),.I (gI l 42),.I (gI l 43),.I (gI l 44),.I (gI l 45),.I (gI l 46),.I (gI l 47),.N (gN l 48),.L (gL l 49),.I (gI l 50),.I (gI l 51),.I (gI l 52),.I (gI l 53),.I (gI l 54),.I (gI l 55),.I (gI l 56),.I (gI l 57),.I (gI l 58),.I (gI l 59),.I (gI l 60),.I (gI l 61),.I (gI l 62)]
theorem L104_9_5.e1 (fu:Nat):LEq (L104_9_5.O fu) L104_9_5.H 1 (L104_9_5.s1 fu):=by intro τ next κ l;kernel_rfl
def L104_9_5.s2 (fu:Nat) {τ:Type} (next ex:Nat→LS_→Option τ) (l:LS_):Option τ :=
 ex 0 [.I (gI l 0),.I (gI l 1),.I (gI l 2),.N (gN l 3),.L (gL l 4),.I (gI l 5),.I (gI l 6),.I (gI l 7),.I (gI l 8),.I (gI l 9),.I (gI l 10),.I (gI l 11),.I (gI l 12),.I (gI l 13),.I (gI l 14),.I (gI l 15),.I (gI l 16),.I (gI l 17),.I (gI l 18),.I (gI l 19),.I (gI l 20),.N (gN l 21),.L (gL l 22),.I (gI l 23),.I (gI l 24),.N (gN l 25),.L (gL l 26),.I (gI l 27),.I (gI l 28),.I (gI l 29),.N (gN l 30),.L (gL l 31),.B (gB l 32),.I (gI l 33),.I (gI l 34),.I (gI l 35),.I (gI l 36),.I (gI l 37),.I (gI l 38),.I (gI l 39),.I (gI l 40),.I (gI l 41),.I (gI l 42),.I (gI l 43),.I (gI l 44),.I (gI l 45),.I (gI l 46),.I (gI l 47),.N (gN l 48),.L (gL l 49),.I (gI l 50),.I (gI l 51),.I (gI l 52),.I (gI l 53),.I (gI l 54),.I (gI l 55),.I (gI l 56),.I (gI l 57),.I (gI l 58),.I (gI l 59),.I (gI l 60),.I (gI l 61),.I (gI l 62)]
theorem L104_9_5.e2 (fu:Nat):LEq (L104_9_5.O fu) L104_9_5.H 2 (L104_9_5.s2 fu):=by intro τ next κ l;kernel_rfl
def L104_9_5 (fu:Nat):LStep P Cf:=LStep.mk3 (by decide) (L104_9_5.e0 fu) (L104_9_5.e1 fu) (L104_9_5.e2 fu)
def L104_9_5.b (fu:Nat) {τ:Type} (t:Nat) (l:LS_) (κ:Nat→LS_→Option τ):Option τ:=runE (L104_9_5 fu) fu κ t l
def L104_9_5.E (fu:Nat):LEnt P:=LStep.EN fu (L104_9_5 fu)
def L104_14_5.H:LHead:=⟨false,false,7,0,585742,52776558135176,0,0,[(PS.mk (us 3 ((pp 0)::us 3 ((pp 1)::(pp 2)::pI::pI::us 33 ((pC 3)::(pC 0)::us 28 [])))) fo11),(PS.mk (us 3 ((pp 0)::us 3 ((pp 1)::(pp 2)::pI::pI::us 33 ((pC 3)::(pC 1)::us 28 [])))) fo11),(PS.mk (us 3 ((pp 0)::us 3 ((pp 1)::(pp 2)::pI::pI::us 33 ((pC 3)::(pC 2)::us 28 [])))) fo11),(PS.mk (us 3 ((pp 0)::us 3 ((pp 1)::(pp 2)::pI::pI::us 33 ((pC 3)::(pC 3)::us 28 [])))) fo11)],[((Out.exit 4),(PS.mk (us 74 []) fo11))]⟩
def L104_14_5.O (fu:Nat):Orc P:=⟨[(F129.E fu)],[],[],40⟩
def L104_14_5.s0 (fu:Nat) {τ:Type} (next ex:Nat→LS_→Option τ) (l:LS_):Option τ :=
 ck ((ltI 0 (gN l 3))&&true)
 (ck (ltN 0 (List.length (gL l 4)))
 ((F129 fu) [.I (wr .i64 ((wr .i64 ((gI l 17)-(wr .i64 ((gI l 1)*(List.getD (gL l 4) 0 0)))))+(wr .i64 ((gI l 0)*(gI l 5))))),.I (gI l 2)]
 (fun j A=>(sw (next 1 [.I (gI l 0),.I (gI l 1),.I (gI l 2),.N (gN l 3),.L (gL l 4),.I (gI l 5),.I (gI l 6),.I (gI l 7),.I (gI l 8),.I (gI l 9),.I (gI l 10),.I (gI l 11),.I (gI l 12),.I (gI l 13),.I (gI l 14),.I (gI l 15),.I (gI l 16),.I (gI A 0),.I (gI l 18),.I (gI l 19),.I (gI l 20),.N (gN l 21),.L (gL l 22),.I (gI l 23),.I (gI l 24),.N (gN l 25),.L (gL l 26),.I (gI l 27),.I (gI l 28),.I (gI l 29),.N (gN l 30),.L (gL l 31),.B (gB l 32),.I (gI l 33),.I (gI l 34),.I (gI l 35),.I (gI l 36),.I (gI l 37),.I (gI l 38),.I (gI l 39),.I (gI l 40),.I (gI l 41),.I (gI l 42),.I (gI l 43),.I (gI l 44),.I (gI l 45),.I (gI l 46),.I (gI l 47),.N (gN l 48),.L (gL l 49),.I (gI l 50),.I (gI l 51),.I (gI l 52),.I (gI l 53),.I (gI l 54),.I (gI l 55),.I (gI l 56),.I (gI l 57),.I (gI l 58),.I (gI l 59),.I (gI l 60),.I (gI l 61),.I (gI l 62)])
 (fun _=>none)) j)))
theorem L104_14_5.e0 (fu:Nat):LEq (L104_14_5.O fu) L104_14_5.H 0 (L104_14_5.s0 fu):=by intro τ next κ l;kernel_rfl
def L104_14_5.s1 (fu:Nat) {τ:Type} (next ex:Nat→LS_→Option τ) (l:LS_):Option τ :=
 ck ((ltI 1 (gN l 3))&&true)
 (ck (ltN 1 (List.length (gL l 4)))
 ((F129 fu) [.I (wr .i64 ((wr .i64 ((gI l 18)-(wr .i64 ((gI l 1)*(List.getD (gL l 4) 1 0)))))+(wr .i64 ((gI l 0)*(gI l 6))))),.I (gI l 2)]
 (fun j A=>(sw (next 2 [.I (gI l 0),.I (gI l 1),.I (gI l 2),.N (gN l 3),.L (gL l 4),.I (gI l 5),.I (gI l 6),.I (gI l 7),.I (gI l 8),.I (gI l 9),.I (gI l 10),.I (gI l 11),.I (gI l 12),.I (gI l 13),.I (gI l 14),.I (gI l 15),.I (gI l 16),.I (gI l 17),.I (gI A 0),.I (gI l 19),.I (gI l 20),.N (gN l 21),.L (gL l 22),.I (gI l 23),.I (gI l 24),.N (gN l 25),.L (gL l 26),.I (gI l 27),.I (gI l 28),.I (gI l 29),.N (gN l 30),.L (gL l 31),.B (gB l 32),.I (gI l 33),.I (gI l 34),.I (gI l 35),.I (gI l 36),.I (gI l 37),.I (gI l 38),.I (gI l 39),.I (gI l 40),.I (gI l 41),.I (gI l 42),.I (gI l 43),.I (gI l 44),.I (gI l 45),.I (gI l 46),.I (gI l 47),.N (gN l 48),.L (gL l 49),.I (gI l 50),.I (gI l 51),.I (gI l 52),.I (gI l 53),.I (gI l 54),.I (gI l 55),.I (gI l 56),.I (gI l 57),.I (gI l 58),.I (gI l 59),.I (gI l 60),.I (gI l 61),.I (gI l 62)])
 (fun _=>none)) j)))
theorem L104_14_5.e1 (fu:Nat):LEq (L104_14_5.O fu) L104_14_5.H 1 (L104_14_5.s1 fu):=by intro τ next κ l;kernel_rfl
def L104_14_5.s2 (fu:Nat) {τ:Type} (next ex:Nat→LS_→Option τ) (l:LS_):Option τ :=
 ck ((ltI 2 (gN l 3))&&true)
 (ck (ltN 2 (List.length (gL l 4)))
 ((F129 fu) [.I (wr .i64 ((wr .i64 ((gI l 19)-(wr .i64 ((gI l 1)*(List.getD (gL l 4) 2 0)))))+(wr .i64 ((gI l 0)*(gI l 7))))),.I (gI l 2)]
 (fun j A=>(sw (next 3 [.I (gI l 0),.I (gI l 1),.I (gI l 2),.N (gN l 3),.L (gL l 4),.I (gI l 5),.I (gI l 6),.I (gI l 7),.I (gI l 8),.I (gI l 9),.I (gI l 10),.I (gI l 11),.I (gI l 12),.I (gI l 13),.I (gI l 14),.I (gI l 15),.I (gI l 16),.I (gI l 17),.I (gI l 18),.I (gI A 0),.I (gI l 20),.N (gN l 21),.L (gL l 22),.I (gI l 23),.I (gI l 24),.N (gN l 25),.L (gL l 26),.I (gI l 27),.I (gI l 28),.I (gI l 29),.N (gN l 30),.L (gL l 31),.B (gB l 32),.I (gI l 33),.I (gI l 34),.I (gI l 35),.I (gI l 36),.I (gI l 37),.I (gI l 38),.I (gI l 39),.I (gI l 40),.I (gI l 41),.I (gI l 42),.I (gI l 43),.I (gI l 44),.I (gI l 45),.I (gI l 46),.I (gI l 47),.N (gN l 48),.L (gL l 49),.I (gI l 50),.I (gI l 51),.I (gI l 52),.I (gI l 53),.I (gI l 54),.I (gI l 55),.I (gI l 56),.I (gI l 57),.I (gI l 58),.I (gI l 59),.I (gI l 60),.I (gI l 61),.I (gI l 62)])
 (fun _=>none)) j)))
theorem L104_14_5.e2 (fu:Nat):LEq (L104_14_5.O fu) L104_14_5.H 2 (L104_14_5.s2 fu):=by intro τ next κ l;kernel_rfl
def L104_14_5.s3 (fu:Nat) {τ:Type} (next ex:Nat→LS_→Option τ) (l:LS_):Option τ :=
 ex 0 [.I (gI l 2),.N (gN l 3),.L (gL l 4),.I (gI l 5),.I (gI l 6),.I (gI l 7),.I (gI l 8),.I (gI l 9),.I (gI l 10),.I (gI l 11),.I (gI l 12),.I (gI l 13),.I (gI l 14),.I (gI l 15),.I (gI l 16),.I (gI l 17),.I (gI l 18),.I (gI l 19),.I (gI l 20),.N (gN l 21),.L (gL l 22),.I (gI l 23),.I (gI l 24),.N (gN l 25),.L (gL l 26),.I (gI l 27),.I (gI l 28),.I (gI l 29),.N (gN l 30),.L (gL l 31),.B (gB l 32),.I (gI l 33),.I (gI l 34),.I (gI l 35),.I (gI l 36),.I (gI l 37),.I (gI l 38),.I (gI l 39),.I (gI l 40),.I (gI l 41),.I (gI l 42),.I (gI l 43),.I (gI l 44),.I (gI l 45),.I (gI l 46),.I (gI l 47),.N (gN l 48),.L (gL l 49),.I (gI l 50),.I (gI l 51),.I (gI l 52),.I (gI l 53),.I (gI l 54),.I (gI l 55),.I (gI l 56),.I (gI l 57),.I (gI l 58),.I (gI l 59),.I (gI l 60),.I (gI l 61),.I (gI l 62)]
theorem L104_14_5.e3 (fu:Nat):LEq (L104_14_5.O fu) L104_14_5.H 3 (L104_14_5.s3 fu):=by intro τ next κ l;kernel_rfl
def L104_14_5 (fu:Nat):LStep P Cf:=LStep.mk4 (by decide) (L104_14_5.e0 fu) (L104_14_5.e1 fu) (L104_14_5.e2 fu) (L104_14_5.e3 fu)
def L104_14_5.b (fu:Nat) {τ:Type} (t:Nat) (l:LS_) (κ:Nat→LS_→Option τ):Option τ:=runE (L104_14_5 fu) fu κ t l
def L104_14_5.E (fu:Nat):LEnt P:=LStep.EN fu (L104_14_5 fu)
def L138_2_2.H:LHead:=⟨false,false,7,741378,741378,49,0,0,[(PS.mk ((PV2.v (PV1.yld 5))::us 3 ((pp 6)::(pC 2)::us 17 [])) fo12),(PS.mk ((PV2.v (PV1.yld 5))::us 3 ((pp 6)::(pC 1)::us 17 [])) fo12),(PS.mk ((PV2.v (PV1.yld 5))::us 3 ((pp 6)::(pC 0)::us 17 [])) fo12),(PS.mk ((PV2.v (PV1.yld 5))::us 3 ((pp 6)::(pC (-1))::us 17 [])) fo12)],[((Out.exit 0),(PS.mk (us 23 []) fo12))]⟩
def L138_2_2.O (fu:Nat):Orc P:=⟨[],[(L104_9_5.E fu),(L104_14_5.E fu)],[],40⟩
def L138_2_2.s0 (fu:Nat) {τ:Type} (next ex:Nat→LS_→Option τ) (l:LS_):Option τ :=
 (L104_9_5.b fu) 0 [.I (gI l 51),.I (gI l 17),.I (gI l 0),.N (gN l 1),.L (gL l 2),.I (gI l 3),.I (gI l 4),.I (gI l 5),.I (gI l 6),.I (gI l 7),.I (gI l 8),.I (gI l 9),.I (gI l 10),.I (gI l 11),.I (gI l 12),.I (gI l 13),.I (gI l 14),.I (gI l 15),.I (gI l 16),.I (gI l 17),.I (gI l 18),.N (gN l 19),.L (gL l 20),.I (gI l 21),.I (gI l 22),.N (gN l 23),.L (gL l 24),.I (gI l 25),.I (gI l 26),.I (gI l 27),.N (gN l 28),.L (gL l 29),.B (gB l 30),.I (gI l 31),.I (gI l 32),.I (gI l 33),.I (gI l 34),.I (gI l 35),.I (gI l 36),.I (gI l 37),.I (gI l 38),.I (gI l 39),.I (gI l 40),.I (gI l 41),.I (gI l 42),.I (gI l 43),.I (gI l 44),.I (gI l 45),.N (gN l 46),.L (gL l 47),.I (gI l 48),.I (gI l 49),.I (gI l 50),.I (gI l 51),.I (gI l 52),.I (gI l 53),.I (gI l 54),.I (gI l 55),.I (gI l 56),.I (gI l 57),.I (gI l 58),.I (gI l 59),.I (gI l 60)]
 (fun j A=>(sw ((L104_14_5.b fu) 0 [.I (gI A 0),.I (gI A 1),.I (gI A 2),.N (gN A 3),.L (gL A 4),.I (gI A 5),.I (gI A 6),.I (gI A 7),.I (gI A 8),.I (gI A 9),.I (gI A 10),.I (gI A 11),.I (gI A 12),.I (gI A 13),.I (gI A 14),.I (gI A 15),.I (gI A 16),.I 0,.I (gI A 18),.I (gI A 19),.I (gI A 20),.N (gN A 21),.L (gL A 22),.I (gI A 23),.I (gI A 24),.N (gN A 25),.L (gL A 26),.I (gI A 27),.I (gI A 28),.I (gI A 29),.N (gN A 30),.L (gL A 31),.B (gB A 32),.I (gI A 33),.I (gI A 34),.I (gI A 35),.I (gI A 36),.I (gI A 37),.I (gI A 38),.I (gI A 39),.I (gI A 40),.I (gI A 41),.I (gI A 42),.I (gI A 43),.I (gI A 44),.I (gI A 45),.I (gI A 46),.I (gI A 47),.N (gN A 48),.L (gL A 49),.I (gI A 50),.I (gI A 51),.I (gI A 52),.I (gI A 53),.I (gI A 54),.I (gI A 55),.I (gI A 56),.I (gI A 57),.I (gI A 58),.I (gI A 59),.I (gI A 60),.I (gI A 61),.I (gI A 62)]
 (fun j B=>(sw (next 1 [.I (gI B 0),.N (gN B 1),.L (gL B 2),.I (gI B 3),.I (gI B 4),.I (gI B 5),.I (gI B 6),.I (gI B 7),.I (gI B 8),.I (gI B 9),.I (gI B 10),.I (gI B 11),.I (gI B 12),.I (gI B 13),.I (gI B 14),.I (gI B 15),.I (gI B 16),.I (gI B 17),.I (gI B 18),.N (gN B 19),.L (gL B 20),.I (gI B 21),.I (gI B 22),.N (gN B 23),.L (gL B 24),.I (gI B 25),.I (gI B 26),.I (gI B 27),.N (gN B 28),.L (gL B 29),.B (gB B 30),.I (gI B 31),.I (gI B 32),.I (gI B 33),.I (gI B 34),.I (gI B 35),.I (gI B 36),.I (gI B 37),.I (gI B 38),.I (gI B 39),.I (gI B 40),.I (gI B 41),.I (gI B 42),.I (gI B 43),.I (gI B 44),.I (gI B 45),.N (gN B 46),.L (gL B 47),.I (gI B 48),.I (gI B 49),.I (gI B 50),.I (gI B 51),.I (gI B 52),.I (gI B 53),.I (gI B 54),.I (gI B 55),.I (gI B 56),.I (gI B 57),.I (gI B 58),.I (gI B 59),.I (gI B 60)])
 (fun _=>none)) j))
 (fun _=>none)) j)
theorem L138_2_2.e0 (fu:Nat):LEq (L138_2_2.O fu) L138_2_2.H 0 (L138_2_2.s0 fu):=by intro τ next κ l;kernel_rfl
def L138_2_2.s1 (fu:Nat) {τ:Type} (next ex:Nat→LS_→Option τ) (l:LS_):Option τ :=
 (L104_9_5.b fu) 0 [.I (gI l 50),.I (gI l 17),.I (gI l 0),.N (gN l 1),.L (gL l 2),.I (gI l 3),.I (gI l 4),.I (gI l 5),.I (gI l 6),.I (gI l 7),.I (gI l 8),.I (gI l 9),.I (gI l 10),.I (gI l 11),.I (gI l 12),.I (gI l 13),.I (gI l 14),.I (gI l 15),.I (gI l 16),.I (gI l 17),.I (gI l 18),.N (gN l 19),.L (gL l 20),.I (gI l 21),.I (gI l 22),.N (gN l 23),.L (gL l 24),.I (gI l 25),.I (gI l 26),.I (gI l 27),.N (gN l 28),.L (gL l 29),.B (gB l 30),.I (gI l 31),.I (gI l 32),.I (gI l 33),.I (gI l 34),.I (gI l 35),.I (gI l 36),.I (gI l 37),.I (gI l 38),.I (gI l 39),.I (gI l 40),.I (gI l 41),.I (gI l 42),.I (gI l 43),.I (gI l 44),.I (gI l 45),.N (gN l 46),.L (gL l 47),.I (gI l 48),.I (gI l 49),.I (gI l 50),.I (gI l 51),.I (gI l 52),.I (gI l 53),.I (gI l 54),.I (gI l 55),.I (gI l 56),.I (gI l 57),.I (gI l 58),.I (gI l 59),.I (gI l 60)]
 (fun j A=>(sw ((L104_14_5.b fu) 0 [.I (gI A 0),.I (gI A 1),.I (gI A 2),.N (gN A 3),.L (gL A 4),.I (gI A 5),.I (gI A 6),.I (gI A 7),.I (gI A 8),.I (gI A 9),.I (gI A 10),.I (gI A 11),.I (gI A 12),.I (gI A 13),.I (gI A 14),.I (gI A 15),.I (gI A 16),.I 0,.I (gI A 18),.I (gI A 19),.I (gI A 20),.N (gN A 21),.L (gL A 22),.I (gI A 23),.I (gI A 24),.N (gN A 25),.L (gL A 26),.I (gI A 27),.I (gI A 28),.I (gI A 29),.N (gN A 30),.L (gL A 31),.B (gB A 32),.I (gI A 33),.I (gI A 34),.I (gI A 35),.I (gI A 36),.I (gI A 37),.I (gI A 38),.I (gI A 39),.I (gI A 40),.I (gI A 41),.I (gI A 42),.I (gI A 43),.I (gI A 44),.I (gI A 45),.I (gI A 46),.I (gI A 47),.N (gN A 48),.L (gL A 49),.I (gI A 50),.I (gI A 51),.I (gI A 52),.I (gI A 53),.I (gI A 54),.I (gI A 55),.I (gI A 56),.I (gI A 57),.I (gI A 58),.I (gI A 59),.I (gI A 60),.I (gI A 61),.I (gI A 62)]
 (fun j B=>(sw (next 2 [.I (gI B 0),.N (gN B 1),.L (gL B 2),.I (gI B 3),.I (gI B 4),.I (gI B 5),.I (gI B 6),.I (gI B 7),.I (gI B 8),.I (gI B 9),.I (gI B 10),.I (gI B 11),.I (gI B 12),.I (gI B 13),.I (gI B 14),.I (gI B 15),.I (gI B 16),.I (gI B 17),.I (gI B 18),.N (gN B 19),.L (gL B 20),.I (gI B 21),.I (gI B 22),.N (gN B 23),.L (gL B 24),.I (gI B 25),.I (gI B 26),.I (gI B 27),.N (gN B 28),.L (gL B 29),.B (gB B 30),.I (gI B 31),.I (gI B 32),.I (gI B 33),.I (gI B 34),.I (gI B 35),.I (gI B 36),.I (gI B 37),.I (gI B 38),.I (gI B 39),.I (gI B 40),.I (gI B 41),.I (gI B 42),.I (gI B 43),.I (gI B 44),.I (gI B 45),.N (gN B 46),.L (gL B 47),.I (gI B 48),.I (gI B 49),.I (gI B 50),.I (gI B 51),.I (gI B 52),.I (gI B 53),.I (gI B 54),.I (gI B 55),.I (gI B 56),.I (gI B 57),.I (gI B 58),.I (gI B 59),.I (gI B 60)])
 (fun _=>none)) j))
 (fun _=>none)) j)
theorem L138_2_2.e1 (fu:Nat):LEq (L138_2_2.O fu) L138_2_2.H 1 (L138_2_2.s1 fu):=by intro τ next κ l;kernel_rfl
def L138_2_2.s2 (fu:Nat) {τ:Type} (next ex:Nat→LS_→Option τ) (l:LS_):Option τ :=
 (L104_9_5.b fu) 0 [.I (gI l 49),.I (gI l 17),.I (gI l 0),.N (gN l 1),.L (gL l 2),.I (gI l 3),.I (gI l 4),.I (gI l 5),.I (gI l 6),.I (gI l 7),.I (gI l 8),.I (gI l 9),.I (gI l 10),.I (gI l 11),.I (gI l 12),.I (gI l 13),.I (gI l 14),.I (gI l 15),.I (gI l 16),.I (gI l 17),.I (gI l 18),.N (gN l 19),.L (gL l 20),.I (gI l 21),.I (gI l 22),.N (gN l 23),.L (gL l 24),.I (gI l 25),.I (gI l 26),.I (gI l 27),.N (gN l 28),.L (gL l 29),.B (gB l 30),.I (gI l 31),.I (gI l 32),.I (gI l 33),.I (gI l 34),.I (gI l 35),.I (gI l 36),.I (gI l 37),.I (gI l 38),.I (gI l 39),.I (gI l 40),.I (gI l 41),.I (gI l 42),.I (gI l 43),.I (gI l 44),.I (gI l 45),.N (gN l 46),.L (gL l 47),.I (gI l 48),.I (gI l 49),.I (gI l 50),.I (gI l 51),.I (gI l 52),.I (gI l 53),.I (gI l 54),.I (gI l 55),.I (gI l 56),.I (gI l 57),.I (gI l 58),.I (gI l 59),.I (gI l 60)]
 (fun j A=>(sw ((L104_14_5.b fu) 0 [.I (gI A 0),.I (gI A 1),.I (gI A 2),.N (gN A 3),.L (gL A 4),.I (gI A 5),.I (gI A 6),.I (gI A 7),.I (gI A 8),.I (gI A 9),.I (gI A 10),.I (gI A 11),.I (gI A 12),.I (gI A 13),.I (gI A 14),.I (gI A 15),.I (gI A 16),.I 0,.I (gI A 18),.I (gI A 19),.I (gI A 20),.N (gN A 21),.L (gL A 22),.I (gI A 23),.I (gI A 24),.N (gN A 25),.L (gL A 26),.I (gI A 27),.I (gI A 28),.I (gI A 29),.N (gN A 30),.L (gL A 31),.B (gB A 32),.I (gI A 33),.I (gI A 34),.I (gI A 35),.I (gI A 36),.I (gI A 37),.I (gI A 38),.I (gI A 39),.I (gI A 40),.I (gI A 41),.I (gI A 42),.I (gI A 43),.I (gI A 44),.I (gI A 45),.I (gI A 46),.I (gI A 47),.N (gN A 48),.L (gL A 49),.I (gI A 50),.I (gI A 51),.I (gI A 52),.I (gI A 53),.I (gI A 54),.I (gI A 55),.I (gI A 56),.I (gI A 57),.I (gI A 58),.I (gI A 59),.I (gI A 60),.I (gI A 61),.I (gI A 62)]
 (fun j B=>(sw (next 3 [.I (gI B 0),.N (gN B 1),.L (gL B 2),.I (gI B 3),.I (gI B 4),.I (gI B 5),.I (gI B 6),.I (gI B 7),.I (gI B 8),.I (gI B 9),.I (gI B 10),.I (gI B 11),.I (gI B 12),.I (gI B 13),.I (gI B 14),.I (gI B 15),.I (gI B 16),.I (gI B 17),.I (gI B 18),.N (gN B 19),.L (gL B 20),.I (gI B 21),.I (gI B 22),.N (gN B 23),.L (gL B 24),.I (gI B 25),.I (gI B 26),.I (gI B 27),.N (gN B 28),.L (gL B 29),.B (gB B 30),.I (gI B 31),.I (gI B 32),.I (gI B 33),.I (gI B 34),.I (gI B 35),.I (gI B 36),.I (gI B 37),.I (gI B 38),.I (gI B 39),.I (gI B 40),.I (gI B 41),.I (gI B 42),.I (gI B 43),.I (gI B 44),.I (gI B 45),.N (gN B 46),.L (gL B 47),.I (gI B 48),.I (gI B 49),.I (gI B 50),.I (gI B 51),.I (gI B 52),.I (gI B 53),.I (gI B 54),.I (gI B 55),.I (gI B 56),.I (gI B 57),.I (gI B 58),.I (gI B 59),.I (gI B 60)])
 (fun _=>none)) j))
 (fun _=>none)) j)
theorem L138_2_2.e2 (fu:Nat):LEq (L138_2_2.O fu) L138_2_2.H 2 (L138_2_2.s2 fu):=by intro τ next κ l;kernel_rfl
def L138_2_2.s3 (fu:Nat) {τ:Type} (next ex:Nat→LS_→Option τ) (l:LS_):Option τ :=
 ex 0 [.I (gI l 0),.N (gN l 1),.L (gL l 2),.I (gI l 3),.I (gI l 4),.I (gI l 5),.I (gI l 6),.I (gI l 7),.I (gI l 8),.I (gI l 9),.I (gI l 10),.I (gI l 11),.I (gI l 12),.I (gI l 13),.I (gI l 14),.I (gI l 15),.I (gI l 16),.I (gI l 17),.I (gI l 18),.N (gN l 19),.L (gL l 20),.I (gI l 21),.I (gI l 22),.N (gN l 23),.L (gL l 24),.I (gI l 25),.I (gI l 26),.I (gI l 27),.N (gN l 28),.L (gL l 29),.B (gB l 30),.I (gI l 31),.I (gI l 32),.I (gI l 33),.I (gI l 34),.I (gI l 35),.I (gI l 36),.I (gI l 37),.I (gI l 38),.I (gI l 39),.I (gI l 40),.I (gI l 41),.I (gI l 42),.I (gI l 43),.I (gI l 44),.I (gI l 45),.N (gN l 46),.L (gL l 47),.I (gI l 48),.I (gI l 49),.I (gI l 50),.I (gI l 51),.I (gI l 52),.I (gI l 53),.I (gI l 54),.I (gI l 55),.I (gI l 56),.I (gI l 57),.I (gI l 58),.I (gI l 59),.I (gI l 60)]
theorem L138_2_2.e3 (fu:Nat):LEq (L138_2_2.O fu) L138_2_2.H 3 (L138_2_2.s3 fu):=by intro τ next κ l;kernel_rfl
def L138_2_2 (fu:Nat):LStep P Cf:=LStep.mk4 (by decide) (L138_2_2.e0 fu) (L138_2_2.e1 fu) (L138_2_2.e2 fu) (L138_2_2.e3 fu)
def L138_2_2.b (fu:Nat) {τ:Type} (t:Nat) (l:LS_) (κ:Nat→LS_→Option τ):Option τ:=runE (L138_2_2 fu) fu κ t l
def L138_2_2.E (fu:Nat):LEnt P:=LStep.EN fu (L138_2_2 fu)
def F104_2.ps:List PV2:=[(pFieldE 3),pI,pI]
def F104_2.sh:List PA:=[(PA.mk (PV3.v pI) [])]
def F104_2.O (fu:Nat):Orc P:=⟨[(F128_2.E fu),(F127.E fu),(F130_2.E fu)],[(L138_2_2.E fu)],[],40⟩
def F104_2 (fu:Nat) {τ:Type} (l:LS_) (k:Nat→LS_→Option τ):Option τ :=
 ck (((eqM (List.length (gL l 1)) (List.length (gL l 1)))&&true)&&true)
 ((F128_2 fu) [.I (gI l 0),.L (gL l 1)]
 (fun j A=>(sw (br (!(gB A 0))
 (k 0 [.I 0])
 ((F127 fu) [.I (gI l 0),.I (gI l 2)]
 (fun j B=>(sw ((F127 fu) [.I (gI l 0),.I (gI l 3)]
 (fun j C=>(sw ((L138_2_2.b fu) 0 [.I (gI l 0),.N (List.length (gL l 1)),.L (gL l 1),.I (gI B 0),.I (gI B 1),.I (gI B 2),.I (gI B 3),.I (gI B 4),.I (gI B 5),.I (gI B 6),.I (gI B 7),.I (gI B 8),.I (gI B 9),.I (gI B 10),.I (gI B 11),.I 0,.I 0,.I 0,.I (gI l 0),.N (List.length (gL l 1)),.L (gL l 1),.I (gI l 3),.I (gI l 0),.N (List.length (gL l 1)),.L (gL l 1),.I (gI l 2),.I (gI l 3),.I (gI l 0),.N (List.length (gL l 1)),.L (gL l 1),.B (gB A 0),.I (gI l 0),.I (gI l 2),.I (gI B 0),.I (gI B 1),.I (gI B 2),.I (gI B 3),.I (gI B 4),.I (gI B 5),.I (gI B 6),.I (gI B 7),.I (gI B 8),.I (gI B 9),.I (gI B 10),.I (gI B 11),.I (gI l 0),.N (List.length (gL l 1)),.L (gL l 1),.I (gI l 3),.I (gI C 0),.I (gI C 1),.I (gI C 2),.I (gI C 3),.I (gI C 4),.I (gI C 5),.I (gI C 6),.I (gI C 7),.I (gI C 8),.I (gI C 9),.I (gI C 10),.I (gI C 11)]
 (fun j D=>(sw (ck (((eqM (gN D 1) (List.length (gL D 2)))&&true)&&true)
 ((F130_2 fu) [.I (gI D 0),.L (gL D 2),.I (gI D 15),.I (gI D 16),.I (gI D 17),.I 0,.I 0,.I 0,.I 0,.I 0,.I 0,.I 0,.I 0,.I 0]
 (fun j E=>(sw (k 0 [.I (gI E 0)])
 (fun _=>none)) j)))
 (fun _=>none)) j))
 (fun _=>none)) j))
 (fun _=>none)) j)))
 (fun _=>none)) j))
theorem F104_2.eq (fu:Nat):FEq (F104_2.O fu) 143 F104_2.ps F104_2.sh (F104_2 fu):=by intro τ l κ;kernel_rfl
def F104_2.E (fu:Nat):Ent P:=mkF (F104_2.eq fu)
end
end Go.Proofs.YticbdgmcofjkeaaGreat.Ai
namespace Go.Proofs.YticbdgmcofjkeaaGreat.Ai
open Go Go.RowKit
noncomputable section
variable {τ:Type} (t:Nat) (nx ex:Nat→LS_→Option τ) (l:LS_) (k κ:Nat→LS_→Option τ)
def L108_3.H:LHead:=⟨false,true,0,380931,380931,391,128,0,[(PS.mk (pI::pI::pI::us 4 ((rr 0)::pI::us 16 [])) [oI])],[((Out.exit 0),(PS.mk (us 7 ((rr 0)::us 17 [])) [oI]))]⟩
def L108_3.O (fu:Nat):Orc P:=⟨[],[],[],40⟩
def L108_3.s0 (fu:Nat) {τ:Type} (next ex:Nat→LS_→Option τ) (l:LS_):Option τ :=
 br (ltI (gI l 4) (gI l 1))
 (ck (!((gI l 0)==0))
 (ck (((((eqM (List.length (gL l 5)) ((gN l 3)*1))&&true)&&(eqM 1 1))&&(leN (((gN l 3)+1)*9) 1099511627776))&&true)
 (ck (!((gI l 0)==0))
 (next 0 [.I (gI l 0),.I (gI l 1),.I (wr .i64 (Int.tdiv (gI l 2) (gI l 0))),.N ((gN l 3)+1),.I (wr .i64 ((gI l 4)+1)),.L ((gL l 5)++(List.take 1 (List.drop 0 [(Int.tmod (gI l 2) (gI l 0))])))]))))
 (ex 0 [.N (gN l 3),.L (gL l 5)])
theorem L108_3.e0 (fu:Nat):LEq (L108_3.O fu) L108_3.H 0 (L108_3.s0 fu):=by intro τ next κ l;kernel_rfl
def L108_3 (fu:Nat):LStep P Cf:=LStep.mk1 (by decide) (L108_3.e0 fu)
def L108_3.b (fu:Nat) {τ:Type} (t:Nat) (l:LS_) (κ:Nat→LS_→Option τ):Option τ:=runE (L108_3 fu) fu κ t l
def L108_3.E (fu:Nat):LEnt P:=LStep.EN fu (L108_3 fu)
def F108.ps:List PV2:=[pI,pI,pI]
def F108.sh:List PA:=[(PA.mk (PV3.v (rr 0)) [cI])]
def F108.O (fu:Nat):Orc P:=⟨[],[(L108_3.E fu)],[],40⟩
def F108 (fu:Nat) {τ:Type} (l:LS_) (k:Nat→LS_→Option τ):Option τ :=
 (L108_3.b fu) 0 [.I (gI l 0),.I (gI l 1),.I (gI l 2),.N 0,.I 0,.L []]
 (fun j A=>(sw (k 0 [.N (gN A 0),.L (gL A 1)])
 (fun _=>none)) j)
theorem F108.eq (fu:Nat):FEq (F108.O fu) 93 F108.ps F108.sh (F108 fu):=by intro τ l κ;kernel_rfl
def F108.E (fu:Nat):Ent P:=mkF (F108.eq fu)
def L77_3.H:LHead:=⟨false,true,0,229379,229379,904,136,0,[(PS.mk (us 3 ((pp 0)::us 3 ((rr 1)::(rr 2)::pI::us 37 []))) [(oG [pI,pI,qR]),oI,oI])],[((Out.exit 0),(PS.mk (us 3 ((pp 0)::us 3 ((rr 1)::us 39 []))) [(oG [pI,pI,qR]),oI]))]⟩
def L77_3.O (fu:Nat):Orc P:=⟨[],[],[],40⟩
def L77_3.s0 (fu:Nat) {τ:Type} (next ex:Nat→LS_→Option τ) (l:LS_):Option τ :=
 br (ltI (gI l 2) (gI l 4))
 (ck (((leI 0 (gI l 2))&&(ltI (gI l 2) (gN l 0)))&&true)
 (ck (ltN (0+((Int.toNat (gI l 2))*1)) (List.length (gL l 7)))
 (ck (((leI 0 (gI l 2))&&(ltI (gI l 2) (gN l 1)))&&true)
 (ck (ltN (0+((Int.toNat (gI l 2))*1)) (List.length (gL l 8)))
 (ck (!((gI l 3)==0))
 (ck (((leI 0 (gI l 2))&&(ltI (gI l 2) (gN l 0)))&&true)
 (ck ((leN ((0+((Int.toNat (gI l 2))*1))+1) (List.length (gL l 7)))&&true)
 (next 0 [.N (gN l 0),.N (gN l 1),.I (wr .i64 ((gI l 2)+1)),.I (gI l 3),.I (gI l 4),.N (gN l 5),.L (gL l 6),.L (List.set (gL l 7) (0+((Int.toNat (gI l 2))*1)) (Int.tmod (wr .i64 ((List.getD (gL l 7) (0+((Int.toNat (gI l 2))*1)) 0)+(List.getD (gL l 8) (0+((Int.toNat (gI l 2))*1)) 0))) (gI l 3))),.L (gL l 8)]))))))))
 (ex 0 [.N (gN l 0),.I (gI l 3),.I (gI l 4),.N (gN l 5),.L (gL l 6),.L (gL l 7)])
theorem L77_3.e0 (fu:Nat):LEq (L77_3.O fu) L77_3.H 0 (L77_3.s0 fu):=by intro τ next κ l;kernel_rfl
def L77_3 (fu:Nat):LStep P Cf:=LStep.mk1 (by decide) (L77_3.e0 fu)
def L77_3.b (fu:Nat) {τ:Type} (t:Nat) (l:LS_) (κ:Nat→LS_→Option τ):Option τ:=runE (L77_3 fu) fu κ t l
def L77_3.E (fu:Nat):LEnt P:=LStep.EN fu (L77_3 fu)
def L110_3.H:LHead:=⟨false,true,0,385027,385027,99,32,0,[(PS.mk (pI::qR::us 3 (pI::pI::us 16 [])) [])],[((Out.exit 0),(PS.mk (us 5 (pI::us 17 [])) []))]⟩
def L110_3.O (fu:Nat):Orc P:=⟨[],[],[],40⟩
def L110_3.s0 (fu:Nat) {τ:Type} (next ex:Nat→LS_→Option τ) (l:LS_):Option τ :=
 br (geI (gI l 4) 0)
 (ck (((leI 0 (gI l 4))&&(ltI (gI l 4) (gN l 1)))&&true)
 (ck (ltN ((Int.toNat (gI l 4))*1) (List.length (gL l 2)))
 (next 0 [.I (gI l 0),.N (gN l 1),.L (gL l 2),.I (wr .i64 ((wr .i64 ((gI l 3)*(gI l 0)))+(List.getD (gL l 2) ((Int.toNat (gI l 4))*1) 0))),.I (wr .i64 ((gI l 4)-1))])))
 (ex 0 [.I (gI l 3)])
theorem L110_3.e0 (fu:Nat):LEq (L110_3.O fu) L110_3.H 0 (L110_3.s0 fu):=by intro τ next κ l;kernel_rfl
def L110_3 (fu:Nat):LStep P Cf:=LStep.mk1 (by decide) (L110_3.e0 fu)
def L110_3.b (fu:Nat) {τ:Type} (t:Nat) (l:LS_) (κ:Nat→LS_→Option τ):Option τ:=runE (L110_3 fu) fu κ t l
def L110_3.E (fu:Nat):LEnt P:=LStep.EN fu (L110_3 fu)
def F110.ps:List PV2:=[pI,pR]
def F110.sh:List PA:=[(PA.mk (PV3.v pI) [])]
def F110.O (fu:Nat):Orc P:=⟨[],[(L110_3.E fu)],[],40⟩
def F110 (fu:Nat) {τ:Type} (l:LS_) (k:Nat→LS_→Option τ):Option τ :=
 (L110_3.b fu) 0 [.I (gI l 0),.N (List.length (gL l 1)),.L (gL l 1),.I 0,.I (wr .i64 ((((List.length (gL l 1)):Nat):Int)-1))]
 (fun j A=>(sw (k 0 [.I (gI A 0)])
 (fun _=>none)) j)
theorem F110.eq (fu:Nat):FEq (F110.O fu) 94 F110.ps F110.sh (F110 fu):=by intro τ l κ;kernel_rfl
def F110.E (fu:Nat):Ent P:=mkF (F110.eq fu)
def F77.ps:List PV2:=[pField,pI,pI]
def F77.sh:List PA:=[(PA.mk (PV3.v pI) [])]
def F77.O (fu:Nat):Orc P:=⟨[(F108.E fu),(F110.E fu)],[(L77_3.E fu)],[],40⟩
def F77 (fu:Nat) {τ:Type} (l:LS_) (k:Nat→LS_→Option τ):Option τ :=
 (F108 fu) [.I (gI l 0),.I (gI l 1),.I (gI l 3)]
 (fun j A=>(sw ((F108 fu) [.I (gI l 0),.I (gI l 1),.I (gI l 4)]
 (fun j B=>(sw ((L77_3.b fu) 0 [.N (gN A 0),.N (gN B 0),.I 0,.I (gI l 0),.I (gI l 1),.N (List.length (gL l 2)),.L (gL l 2),.L (gL A 1),.L (gL B 1)]
 (fun j C=>(sw (ck ((eqM (gN C 0) (List.length (List.take ((gN C 0)*1) (List.drop 0 (gL C 5)))))&&true)
 ((F110 fu) [.I (gI C 1),.L (List.take ((gN C 0)*1) (List.drop 0 (gL C 5)))]
 (fun j D=>(sw (k 0 [.I (gI D 0)])
 (fun _=>none)) j)))
 (fun _=>none)) j))
 (fun _=>none)) j))
 (fun _=>none)) j)
theorem F77.eq (fu:Nat):FEq (F77.O fu) 56 F77.ps F77.sh (F77 fu):=by intro τ l κ;kernel_rfl
def F77.E (fu:Nat):Ent P:=mkF (F77.eq fu)
def L89_7.H:LHead:=⟨false,true,0,532487,532487,3976,1928,0,[(PS.mk (us 3 ((pp 0)::us 3 ((rr 1)::(rr 2)::(rr 3)::pI::pI::us 65 []))) [(oG [pI,pI,qR]),oI,oI,oI])],[((Out.exit 2),(PS.mk (us 3 ((pp 0)::us 3 ((rr 1)::(rr 2)::(rr 3)::pI::us 66 []))) [(oG [pI,pI,qR]),oI,oI,oI]))]⟩
def L89_7.O (fu:Nat):Orc P:=⟨[],[],[],40⟩
def L89_7.s0 (fu:Nat) {τ:Type} (next ex:Nat→LS_→Option τ) (l:LS_):Option τ :=
 br (ltI (gI l 4) (gI l 6))
 (ck (((leI 0 (wr .i64 ((gI l 3)+(gI l 4))))&&(ltI (wr .i64 ((gI l 3)+(gI l 4))) (((gN l 2):Nat):Int)))&&true)
 (ck (ltN (0+((Int.toNat (wr .i64 ((gI l 3)+(gI l 4))))*1)) (List.length (gL l 11)))
 (ck (((leI 0 (gI l 3))&&(ltI (gI l 3) (gN l 0)))&&true)
 (ck (ltN (0+((Int.toNat (gI l 3))*1)) (List.length (gL l 9)))
 (ck (((leI 0 (gI l 4))&&(ltI (gI l 4) (gN l 1)))&&true)
 (ck (ltN (0+((Int.toNat (gI l 4))*1)) (List.length (gL l 10)))
 (ck (!((gI l 5)==0))
 (ck (((leI 0 (wr .i64 ((gI l 3)+(gI l 4))))&&(ltI (wr .i64 ((gI l 3)+(gI l 4))) (((gN l 2):Nat):Int)))&&true)
 (ck ((leN ((0+((Int.toNat (wr .i64 ((gI l 3)+(gI l 4))))*1))+1) (List.length (gL l 11)))&&true)
 (next 0 [.N (gN l 0),.N (gN l 1),.N (gN l 2),.I (gI l 3),.I (wr .i64 ((gI l 4)+1)),.I (gI l 5),.I (gI l 6),.N (gN l 7),.L (gL l 8),.L (gL l 9),.L (gL l 10),.L (List.set (gL l 11) (0+((Int.toNat (wr .i64 ((gI l 3)+(gI l 4))))*1)) (Int.tmod (wr .i64 ((List.getD (gL l 11) (0+((Int.toNat (wr .i64 ((gI l 3)+(gI l 4))))*1)) 0)+(wr .i64 ((List.getD (gL l 9) (0+((Int.toNat (gI l 3))*1)) 0)*(List.getD (gL l 10) (0+((Int.toNat (gI l 4))*1)) 0))))) (gI l 5)))]))))))))))
 (ex 0 [.N (gN l 0),.N (gN l 1),.N (gN l 2),.I (gI l 3),.I (gI l 5),.I (gI l 6),.N (gN l 7),.L (gL l 8),.L (gL l 9),.L (gL l 10),.L (gL l 11)])
theorem L89_7.e0 (fu:Nat):LEq (L89_7.O fu) L89_7.H 0 (L89_7.s0 fu):=by intro τ next κ l;kernel_rfl
def L89_7 (fu:Nat):LStep P Cf:=LStep.mk1 (by decide) (L89_7.e0 fu)
def L89_7.b (fu:Nat) {τ:Type} (t:Nat) (l:LS_) (κ:Nat→LS_→Option τ):Option τ:=runE (L89_7 fu) fu κ t l
def L89_7.E (fu:Nat):LEnt P:=LStep.EN fu (L89_7 fu)
def L89_4.H:LHead:=⟨false,true,0,532484,532484,1928,520,0,[(PS.mk (us 3 ((pp 0)::us 3 ((rr 1)::(rr 2)::(rr 3)::pI::us 66 []))) [(oG [pI,pI,qR]),oI,oI,oI])],[((Out.exit 0),(PS.mk (us 3 ((pp 0)::us 5 ((rr 1)::us 67 []))) [(oG [pI,pI,qR]),oI]))]⟩
def L89_4.O (fu:Nat):Orc P:=⟨[],[(L89_7.E fu)],[],40⟩
def L89_4.s0 (fu:Nat) {τ:Type} (next ex:Nat→LS_→Option τ) (l:LS_):Option τ :=
 br (ltI (gI l 3) (gI l 5))
 ((L89_7.b fu) 0 [.N (gN l 0),.N (gN l 1),.N (gN l 2),.I (gI l 3),.I 0,.I (gI l 4),.I (gI l 5),.N (gN l 6),.L (gL l 7),.L (gL l 8),.L (gL l 9),.L (gL l 10)]
 (fun j A=>(sw (next 0 [.N (gN A 0),.N (gN A 1),.N (gN A 2),.I (wr .i64 ((gI A 3)+1)),.I (gI A 4),.I (gI A 5),.N (gN A 6),.L (gL A 7),.L (gL A 8),.L (gL A 9),.L (gL A 10)])
 (fun _=>none)) j))
 (ex 0 [.N (gN l 2),.I (gI l 4),.I (gI l 5),.N (gN l 6),.L (gL l 7),.L (gL l 10)])
theorem L89_4.e0 (fu:Nat):LEq (L89_4.O fu) L89_4.H 0 (L89_4.s0 fu):=by intro τ next κ l;kernel_rfl
def L89_4 (fu:Nat):LStep P Cf:=LStep.mk1 (by decide) (L89_4.e0 fu)
def L89_4.b (fu:Nat) {τ:Type} (t:Nat) (l:LS_) (κ:Nat→LS_→Option τ):Option τ:=runE (L89_4 fu) fu κ t l
def L89_4.E (fu:Nat):LEnt P:=LStep.EN fu (L89_4 fu)
def L119_8.H:LHead:=⟨false,true,0,643080,643080,3973,901,0,[(PS.mk (pI::us 1 (qR::us 4 ((rr 0)::pI::pI::pI::pI::us 55 []))) [oI])],[((Out.exit 2),(PS.mk (pI::us 1 (qR::us 4 ((rr 0)::pI::pI::us 57 []))) [oI]))]⟩
def L119_8.O (fu:Nat):Orc P:=⟨[],[],[],40⟩
def L119_8.s0 (fu:Nat) {τ:Type} (next ex:Nat→LS_→Option τ) (l:LS_):Option τ :=
 br (leI (gI l 7) (gI l 4))
 (ck (((leI 0 (wr .i64 ((wr .i64 ((gI l 5)-(gI l 4)))+(gI l 7))))&&(ltI (wr .i64 ((wr .i64 ((gI l 5)-(gI l 4)))+(gI l 7))) (((gN l 3):Nat):Int)))&&true)
 (ck (ltN (0+((Int.toNat (wr .i64 ((wr .i64 ((gI l 5)-(gI l 4)))+(gI l 7))))*1)) (List.length (gL l 8)))
 (ck (((leI 0 (gI l 7))&&(ltI (gI l 7) (gN l 1)))&&true)
 (ck (ltN ((Int.toNat (gI l 7))*1) (List.length (gL l 2)))
 (ck (!((gI l 0)==0))
 (ck (((leI 0 (wr .i64 ((wr .i64 ((gI l 5)-(gI l 4)))+(gI l 7))))&&(ltI (wr .i64 ((wr .i64 ((gI l 5)-(gI l 4)))+(gI l 7))) (((gN l 3):Nat):Int)))&&true)
 (ck ((leN ((0+((Int.toNat (wr .i64 ((wr .i64 ((gI l 5)-(gI l 4)))+(gI l 7))))*1))+1) (List.length (gL l 8)))&&true)
 (next 0 [.I (gI l 0),.N (gN l 1),.L (gL l 2),.N (gN l 3),.I (gI l 4),.I (gI l 5),.I (gI l 6),.I (wr .i64 ((gI l 7)+1)),.L (List.set (gL l 8) (0+((Int.toNat (wr .i64 ((wr .i64 ((gI l 5)-(gI l 4)))+(gI l 7))))*1)) (Int.tmod (wr .i64 ((List.getD (gL l 8) (0+((Int.toNat (wr .i64 ((wr .i64 ((gI l 5)-(gI l 4)))+(gI l 7))))*1)) 0)+(wr .i64 ((wr .i64 ((gI l 0)-(gI l 6)))*(List.getD (gL l 2) ((Int.toNat (gI l 7))*1) 0))))) (gI l 0)))]))))))))
 (ex 0 [.I (gI l 0),.N (gN l 1),.L (gL l 2),.N (gN l 3),.I (gI l 4),.I (gI l 5),.L (gL l 8)])
theorem L119_8.e0 (fu:Nat):LEq (L119_8.O fu) L119_8.H 0 (L119_8.s0 fu):=by intro τ next κ l;kernel_rfl
def L119_8 (fu:Nat):LStep P Cf:=LStep.mk1 (by decide) (L119_8.e0 fu)
def L119_8.b (fu:Nat) {τ:Type} (t:Nat) (l:LS_) (κ:Nat→LS_→Option τ):Option τ:=runE (L119_8 fu) fu κ t l
def L119_8.E (fu:Nat):LEnt P:=LStep.EN fu (L119_8 fu)
def L119_4.H:LHead:=⟨false,true,0,643076,643076,901,384,0,[(PS.mk (pI::us 1 (qR::us 4 ((rr 0)::pI::pI::us 57 []))) [oI])],[((Out.exit 0),(PS.mk (us 7 ((rr 0)::pI::us 58 [])) [oI]))]⟩
def L119_4.O (fu:Nat):Orc P:=⟨[],[(L119_8.E fu)],[],40⟩
def L119_4.s0 (fu:Nat) {τ:Type} (next ex:Nat→LS_→Option τ) (l:LS_):Option τ :=
 br (geI (gI l 5) (gI l 4))
 (ck (((leI 0 (gI l 5))&&(ltI (gI l 5) (gN l 3)))&&true)
 (ck (ltN (0+((Int.toNat (gI l 5))*1)) (List.length (gL l 6)))
 ((L119_8.b fu) 0 [.I (gI l 0),.N (gN l 1),.L (gL l 2),.N (gN l 3),.I (gI l 4),.I (gI l 5),.I (List.getD (gL l 6) (0+((Int.toNat (gI l 5))*1)) 0),.I 0,.L (gL l 6)]
 (fun j A=>(sw (next 0 [.I (gI A 0),.N (gN A 1),.L (gL A 2),.N (gN A 3),.I (gI A 4),.I (wr .i64 ((gI A 5)-1)),.L (gL A 6)])
 (fun _=>none)) j))))
 (ex 0 [.N (gN l 3),.I (gI l 4),.L (gL l 6)])
theorem L119_4.e0 (fu:Nat):LEq (L119_4.O fu) L119_4.H 0 (L119_4.s0 fu):=by intro τ next κ l;kernel_rfl
def L119_4 (fu:Nat):LStep P Cf:=LStep.mk1 (by decide) (L119_4.e0 fu)
def L119_4.b (fu:Nat) {τ:Type} (t:Nat) (l:LS_) (κ:Nat→LS_→Option τ):Option τ:=runE (L119_4 fu) fu κ t l
def L119_4.E (fu:Nat):LEnt P:=LStep.EN fu (L119_4 fu)
def F119.ps:List PV2:=[pI,pR,pR]
def F119.sh:List PA:=[(PA.mk (PV3.v (rr 0)) [cI]),(PA.mk (PV3.v (PV2.v (PV1.sl PC0.e))) [])]
def F119.O (fu:Nat):Orc P:=⟨[],[(L119_4.E fu)],[],40⟩
def F119 (fu:Nat) {τ:Type} (l:LS_) (k:Nat→LS_→Option τ):Option τ :=
 ck (((eqM (List.length (gL l 1)) ((List.length (gL l 1))*1))&&(leN ((0+(List.length (gL l 1)))*9) 1099511627776))&&true)
 ((L119_4.b fu) 0 [.I (gI l 0),.N (List.length (gL l 2)),.L (gL l 2),.N (0+(List.length (gL l 1))),.I (wr .i64 ((((List.length (gL l 2)):Nat):Int)-1)),.I (wr .i64 ((((0+(List.length (gL l 1))):Nat):Int)-1)),.L ([]++(gL l 1))]
 (fun j A=>(sw (ck (((((leI 0 (min (((gN A 0):Nat):Int) (gI A 1)))&&(leI (min (((gN A 0):Nat):Int) (gI A 1)) (min (((gN A 0):Nat):Int) (gI A 1))))&&(leI (min (((gN A 0):Nat):Int) (gI A 1)) (((gN A 0):Nat):Int)))&&true)&&true)
 (br (ltI 0 (min (((gN A 0):Nat):Int) (gI A 1)))
 (k 0 [.N ((Int.toNat (min (((gN A 0):Nat):Int) (gI A 1)))-0),.L (gL A 2)])
 (k 1 [.N 0])))
 (fun _=>none)) j))
theorem F119.eq (fu:Nat):FEq (F119.O fu) 157 F119.ps F119.sh (F119 fu):=by intro τ l κ;kernel_rfl
def F119.E (fu:Nat):Ent P:=mkF (F119.eq fu)
def F89.ps:List PV2:=[pField,pI,pI]
def F89.sh:List PA:=[(PA.mk (PV3.v pI) [])]
def F89.O (fu:Nat):Orc P:=⟨[(F108.E fu),(F119.E fu),(F110.E fu)],[(L89_4.E fu)],[],40⟩
def F89 (fu:Nat) {τ:Type} (l:LS_) (k:Nat→LS_→Option τ):Option τ :=
 (F108 fu) [.I (gI l 0),.I (gI l 1),.I (gI l 3)]
 (fun j A=>(sw ((F108 fu) [.I (gI l 0),.I (gI l 1),.I (gI l 4)]
 (fun j B=>(sw (ck (((leI 0 (wr .i64 (2*(gI l 1))))&&(leI (wr .i64 (2*(gI l 1))) (wr .i64 (2*(gI l 1)))))&&(leI ((wr .i64 (2*(gI l 1)))*9) 1099511627776))
 ((L89_4.b fu) 0 [.N (gN A 0),.N (gN B 0),.N (Int.toNat (wr .i64 (2*(gI l 1)))),.I 0,.I (gI l 0),.I (gI l 1),.N (List.length (gL l 2)),.L (gL l 2),.L (gL A 1),.L (gL B 1),.L (List.replicate (Int.toNat (wr .i64 (2*(gI l 1)))) (0:Int))]
 (fun j C=>(sw (ck (((eqM (List.length (gL C 4)) ((gN C 3)*1))&&(leN ((0+(gN C 3))*9) 1099511627776))&&true)
 (ck (((((eqM (List.length ([]++(gL C 4))) ((0+(gN C 3))*1))&&true)&&true)&&(leN (((0+(gN C 3))+1)*9) 1099511627776))&&true)
 (ck ((eqM (gN C 0) (List.length (List.take ((gN C 0)*1) (List.drop 0 (gL C 5)))))&&((eqM ((0+(gN C 3))+1) (List.length (List.take (((0+(gN C 3))+1)*1) (List.drop 0 (([]++(gL C 4))++[1])))))&&true))
 ((F119 fu) [.I (gI C 1),.L (List.take ((gN C 0)*1) (List.drop 0 (gL C 5))),.L (List.take (((0+(gN C 3))+1)*1) (List.drop 0 (([]++(gL C 4))++[1])))]
 (fun j D=>(sw (ck ((eqM (gN D 0) (List.length (List.take ((gN D 0)*1) (List.drop 0 (gL D 1)))))&&true)
 ((F110 fu) [.I (gI C 1),.L (List.take ((gN D 0)*1) (List.drop 0 (gL D 1)))]
 (fun j E=>(sw (k 0 [.I (gI E 0)])
 (fun _=>none)) j)))
 (sw (ck ((eqM (gN D 0) 0)&&true)
 ((F110 fu) [.I (gI C 1),.L []]
 (fun j E=>(sw (k 0 [.I (gI E 0)])
 (fun _=>none)) j)))
 (fun _=>none))) j)))))
 (fun _=>none)) j)))
 (fun _=>none)) j))
 (fun _=>none)) j)
theorem F89.eq (fu:Nat):FEq (F89.O fu) 130 F89.ps F89.sh (F89 fu):=by intro τ l κ;kernel_rfl
def F89.E (fu:Nat):Ent P:=mkF (F89.eq fu)
def L79_3.H:LHead:=⟨false,true,0,282627,282627,100,36,0,[(PS.mk (us 2 ((pp 0)::us 2 ((rr 1)::pI::us 29 []))) [(oG [pI,pI,qR]),oI])],[((Out.exit 0),(PS.mk (us 2 ((pp 0)::us 2 ((rr 1)::us 30 []))) [(oG [pI,pI,qR]),oI]))]⟩
def L79_3.O (fu:Nat):Orc P:=⟨[],[],[],40⟩
def L79_3.s0 (fu:Nat) {τ:Type} (next ex:Nat→LS_→Option τ) (l:LS_):Option τ :=
 br (ltI (gI l 1) (gI l 3))
 (ck (((leI 0 (gI l 1))&&(ltI (gI l 1) (gN l 0)))&&true)
 (ck (ltN (0+((Int.toNat (gI l 1))*1)) (List.length (gL l 6)))
 (ck (!((gI l 2)==0))
 (ck (((leI 0 (gI l 1))&&(ltI (gI l 1) (gN l 0)))&&true)
 (ck ((leN ((0+((Int.toNat (gI l 1))*1))+1) (List.length (gL l 6)))&&true)
 (next 0 [.N (gN l 0),.I (wr .i64 ((gI l 1)+1)),.I (gI l 2),.I (gI l 3),.N (gN l 4),.L (gL l 5),.L (List.set (gL l 6) (0+((Int.toNat (gI l 1))*1)) (Int.tmod (wr .i64 ((gI l 2)-(List.getD (gL l 6) (0+((Int.toNat (gI l 1))*1)) 0))) (gI l 2)))]))))))
 (ex 0 [.N (gN l 0),.I (gI l 2),.I (gI l 3),.N (gN l 4),.L (gL l 5),.L (gL l 6)])
theorem L79_3.e0 (fu:Nat):LEq (L79_3.O fu) L79_3.H 0 (L79_3.s0 fu):=by intro τ next κ l;kernel_rfl
def L79_3 (fu:Nat):LStep P Cf:=LStep.mk1 (by decide) (L79_3.e0 fu)
def L79_3.b (fu:Nat) {τ:Type} (t:Nat) (l:LS_) (κ:Nat→LS_→Option τ):Option τ:=runE (L79_3 fu) fu κ t l
def L79_3.E (fu:Nat):LEnt P:=LStep.EN fu (L79_3 fu)
def F79.ps:List PV2:=[pField,pI]
def F79.sh:List PA:=[(PA.mk (PV3.v pI) [])]
def F79.O (fu:Nat):Orc P:=⟨[(F108.E fu),(F110.E fu)],[(L79_3.E fu)],[],40⟩
def F79 (fu:Nat) {τ:Type} (l:LS_) (k:Nat→LS_→Option τ):Option τ :=
 (F108 fu) [.I (gI l 0),.I (gI l 1),.I (gI l 3)]
 (fun j A=>(sw ((L79_3.b fu) 0 [.N (gN A 0),.I 0,.I (gI l 0),.I (gI l 1),.N (List.length (gL l 2)),.L (gL l 2),.L (gL A 1)]
 (fun j B=>(sw (ck ((eqM (gN B 0) (List.length (List.take ((gN B 0)*1) (List.drop 0 (gL B 5)))))&&true)
 ((F110 fu) [.I (gI B 1),.L (List.take ((gN B 0)*1) (List.drop 0 (gL B 5)))]
 (fun j C=>(sw (k 0 [.I (gI C 0)])
 (fun _=>none)) j)))
 (fun _=>none)) j))
 (fun _=>none)) j)
theorem F79.eq (fu:Nat):FEq (F79.O fu) 69 F79.ps F79.sh (F79 fu):=by intro τ l κ;kernel_rfl
def F79.E (fu:Nat):Ent P:=mkF (F79.eq fu)
def L133_3.H:LHead:=⟨false,true,0,634883,634883,99,32,0,[(PS.mk (pI::pI::us 3 (pI::pI::us 9 [])) [])],[((Out.exit 0),(PS.mk (us 5 (pI::us 10 [])) []))]⟩
def L133_3.O (fu:Nat):Orc P:=⟨[],[],[],40⟩
def L133_3.s0 (fu:Nat) {τ:Type} (next ex:Nat→LS_→Option τ) (l:LS_):Option τ :=
 br (ltI (gI l 3) (gI l 1))
 (next 0 [.I (gI l 0),.I (gI l 1),.I (wr .i64 ((gI l 2)*(gI l 0))),.I (wr .i64 ((gI l 3)+1))])
 (ex 0 [.I (gI l 2)])
theorem L133_3.e0 (fu:Nat):LEq (L133_3.O fu) L133_3.H 0 (L133_3.s0 fu):=by intro τ next κ l;kernel_rfl
def L133_3 (fu:Nat):LStep P Cf:=LStep.mk1 (by decide) (L133_3.e0 fu)
def L133_3.b (fu:Nat) {τ:Type} (t:Nat) (l:LS_) (κ:Nat→LS_→Option τ):Option τ:=runE (L133_3 fu) fu κ t l
def L133_3.E (fu:Nat):LEnt P:=LStep.EN fu (L133_3 fu)
def F133.ps:List PV2:=[pI,pI]
def F133.sh:List PA:=[(PA.mk (PV3.v pI) [])]
def F133.O (fu:Nat):Orc P:=⟨[],[(L133_3.E fu)],[],40⟩
def F133 (fu:Nat) {τ:Type} (l:LS_) (k:Nat→LS_→Option τ):Option τ :=
 (L133_3.b fu) 0 [.I (gI l 0),.I (gI l 1),.I 1,.I 0]
 (fun j A=>(sw (k 0 [.I (gI A 0)])
 (fun _=>none)) j)
theorem F133.eq (fu:Nat):FEq (F133.O fu) 155 F133.ps F133.sh (F133 fu):=by intro τ l κ;kernel_rfl
def F133.E (fu:Nat):Ent P:=mkF (F133.eq fu)
def F135.ps:List PV2:=[(PV2.agg [iI,iI,aI])]
def F135.sh:List PA:=[(PA.mk (PV3.v pI) [])]
def F135.O (fu:Nat):Orc P:=⟨[(F133.E fu)],[],[],40⟩
def F135 (fu:Nat) {τ:Type} (l:LS_) (k:Nat→LS_→Option τ):Option τ :=
 (F133 fu) [.I (gI l 0),.I (gI l 1)]
 (fun j A=>(sw (k 0 [.I (gI A 0)])
 (fun _=>none)) j)
theorem F135.eq (fu:Nat):FEq (F135.O fu) 131 F135.ps F135.sh (F135 fu):=by intro τ l κ;kernel_rfl
def F135.E (fu:Nat):Ent P:=mkF (F135.eq fu)
def L111_4.H:LHead:=⟨false,true,0,368644,368644,118,48,0,[(PS.mk (us 1 (pI::(pp 0)::us 1 (pI::pI::pI::us 14 []))) [(oG [pI,pI,qR])])],[(Out.ret,(PS.mk (us 4 (pI::pI::us 15 [])) [])),((Out.exit 0),(PS.mk (us 4 (pI::pI::us 15 [])) []))]⟩
def L111_4.O (fu:Nat):Orc P:=⟨[(F135.E fu),(F89.E fu)],[],[],40⟩
def L111_4.s0 (fu:Nat) {τ:Type} (next ex:Nat→LS_→Option τ) (l:LS_):Option τ :=
 ck (((eqM (gN l 6) (List.length (gL l 7)))&&true)&&true)
 ((F135 fu) [.I (gI l 4),.I (gI l 5),.L (gL l 7)]
 (fun j A=>(sw (br (ltI (gI l 3) (gI A 0))
 (ck (((eqM (gN l 6) (List.length (gL l 7)))&&true)&&true)
 ((F89 fu) [.I (gI l 4),.I (gI l 5),.L (gL l 7),.I (gI l 0),.I (gI l 3)]
 (fun j B=>(sw (br ((gI B 0)==1)
 (ex 0 [.I (gI l 3),.I 0])
 (next 0 [.I (gI l 0),.I (gI l 1),.I (gI l 2),.I (wr .i64 ((gI l 3)+1)),.I (gI l 4),.I (gI l 5),.N (gN l 6),.L (gL l 7)]))
 (fun _=>none)) j)))
 (ex 1 [.I (gI l 1),.I (gI l 2)]))
 (fun _=>none)) j))
theorem L111_4.e0 (fu:Nat):LEq (L111_4.O fu) L111_4.H 0 (L111_4.s0 fu):=by intro τ next κ l;kernel_rfl
def L111_4 (fu:Nat):LStep P Cf:=LStep.mk1 (by decide) (L111_4.e0 fu)
def L111_4.b (fu:Nat) {τ:Type} (t:Nat) (l:LS_) (κ:Nat→LS_→Option τ):Option τ:=runE (L111_4 fu) fu κ t l
def L111_4.E (fu:Nat):LEnt P:=LStep.EN fu (L111_4 fu)
def F111.ps:List PV2:=[pField,pI]
def F111.sh:List PA:=[(PA.mk (PV3.tup [(pC 0),(pC 3)]) []),(PA.mk (PV3.tup [pI,pI]) [])]
def F111.O (fu:Nat):Orc P:=⟨[],[(L111_4.E fu)],[],40⟩
def F111 (fu:Nat) {τ:Type} (l:LS_) (k:Nat→LS_→Option τ):Option τ :=
 br ((gI l 3)==0)
 (k 0 [])
 ((L111_4.b fu) 0 [.I (gI l 3),.I 0,.I 0,.I 1,.I (gI l 0),.I (gI l 1),.N (List.length (gL l 2)),.L (gL l 2)]
 (fun j A=>(sw (k 1 [.I (gI A 0),.I (gI A 1)])
 (sw (k 0 [])
 (fun _=>none))) j))
theorem F111.eq (fu:Nat):FEq (F111.O fu) 90 F111.ps F111.sh (F111 fu):=by intro τ l κ;kernel_rfl
def F111.E (fu:Nat):Ent P:=mkF (F111.eq fu)
def L132_4.H:LHead:=⟨false,true,0,630788,630788,13,4,0,[(PS.mk (pI::us 1 (pB::pI::us 13 [])) [])],[(Out.ret,(PS.mk (us 2 (pB::us 14 [])) [])),((Out.exit 0),(PS.mk (us 2 (pB::us 14 [])) []))]⟩
def L132_4.O (fu:Nat):Orc P:=⟨[],[],[],40⟩
def L132_4.s0 (fu:Nat) {τ:Type} (next ex:Nat→LS_→Option τ) (l:LS_):Option τ :=
 br (leI (wr .i64 ((gI l 2)*(gI l 2))) (gI l 0))
 (ck (!((gI l 2)==0))
 (br ((Int.tmod (gI l 0) (gI l 2))==0)
 (ex 0 [.B false])
 (next 0 [.I (gI l 0),.B (gB l 1),.I (wr .i64 ((gI l 2)+1))])))
 (ex 1 [.B (gB l 1)])
theorem L132_4.e0 (fu:Nat):LEq (L132_4.O fu) L132_4.H 0 (L132_4.s0 fu):=by intro τ next κ l;kernel_rfl
def L132_4 (fu:Nat):LStep P Cf:=LStep.mk1 (by decide) (L132_4.e0 fu)
def L132_4.b (fu:Nat) {τ:Type} (t:Nat) (l:LS_) (κ:Nat→LS_→Option τ):Option τ:=runE (L132_4 fu) fu κ t l
def L132_4.E (fu:Nat):LEnt P:=LStep.EN fu (L132_4 fu)
def F132.ps:List PV2:=[pI]
def F132.sh:List PA:=[(PA.mk (PV3.v pB) [])]
def F132.O (fu:Nat):Orc P:=⟨[],[(L132_4.E fu)],[],40⟩
def F132 (fu:Nat) {τ:Type} (l:LS_) (k:Nat→LS_→Option τ):Option τ :=
 br (ltI (gI l 0) 2)
 (k 0 [.B false])
 ((L132_4.b fu) 0 [.I (gI l 0),.B false,.I 2]
 (fun j A=>(sw (k 0 [.B (gB A 0)])
 (sw (k 0 [.B true])
 (fun _=>none))) j))
theorem F132.eq (fu:Nat):FEq (F132.O fu) 154 F132.ps F132.sh (F132 fu):=by intro τ l κ;kernel_rfl
def F132.E (fu:Nat):Ent P:=mkF (F132.eq fu)
def L107_8.H:LHead:=⟨false,true,0,524296,524296,61,61,0,[(PS.mk (pI::us 1 ((pp 0)::pI::pI::pI::us 31 [])) [(oG [pI,pI])])],[((Out.exit 2),(PS.mk (pI::us 1 ((pp 0)::pI::pI::pI::us 31 [])) [(oG [pI,pI])]))]⟩
def L107_8.O (fu:Nat):Orc P:=⟨[],[],[],40⟩
def L107_8.s0 (fu:Nat) {τ:Type} (next ex:Nat→LS_→Option τ) (l:LS_):Option τ :=
 br (ltI (gI l 2) (gI l 0))
 (next 0 [.I (gI l 0),.I (gI l 1),.I (wr .i64 ((gI l 2)*(gI l 1))),.I (wr .i64 ((gI l 3)+1)),.I (gI l 4),.I (gI l 5)])
 (ex 0 [.I (gI l 0),.I (gI l 1),.I (gI l 2),.I (gI l 3),.I (gI l 4),.I (gI l 5)])
theorem L107_8.e0 (fu:Nat):LEq (L107_8.O fu) L107_8.H 0 (L107_8.s0 fu):=by intro τ next κ l;kernel_rfl
def L107_8 (fu:Nat):LStep P Cf:=LStep.mk1 (by decide) (L107_8.e0 fu)
def L107_8.b (fu:Nat) {τ:Type} (t:Nat) (l:LS_) (κ:Nat→LS_→Option τ):Option τ:=runE (L107_8 fu) fu κ t l
def L107_8.E (fu:Nat):LEnt P:=LStep.EN fu (L107_8 fu)
def L107_4.H:LHead:=⟨false,true,0,524292,524292,13,4,0,[(PS.mk (pI::us 1 ((pp 0)::pI::us 33 [])) [(oG [pI,pI])])],[(Out.ret,(PS.mk (us 2 ((pp 0)::us 34 [])) [(oG [pI,pI])])),((Out.exit 0),(PS.mk (us 2 ((pp 0)::us 34 [])) [(oG [pI,pI])]))]⟩
def L107_4.O (fu:Nat):Orc P:=⟨[(F132.E fu)],[(L107_8.E fu)],[],40⟩
def L107_4.s0 (fu:Nat) {τ:Type} (next ex:Nat→LS_→Option τ) (l:LS_):Option τ :=
 br (leI (gI l 1) (gI l 0))
 ((F132 fu) [.I (gI l 1)]
 (fun j A=>(sw (br (!(gB A 0))
 (next 0 [.I (gI l 0),.I (wr .i64 ((gI l 1)+1)),.I (gI l 2),.I (gI l 3)])
 ((L107_8.b fu) 0 [.I (gI l 0),.I (gI l 1),.I (gI l 1),.I 1,.I (gI l 2),.I (gI l 3)]
 (fun j B=>(sw (br ((gI B 2)==(gI B 0))
 (ex 0 [.I (gI B 1),.I (gI B 3)])
 (next 0 [.I (gI B 0),.I (wr .i64 ((gI B 1)+1)),.I (gI B 4),.I (gI B 5)]))
 (fun _=>none)) j)))
 (fun _=>none)) j))
 (ex 1 [.I (gI l 2),.I (gI l 3)])
theorem L107_4.e0 (fu:Nat):LEq (L107_4.O fu) L107_4.H 0 (L107_4.s0 fu):=by intro τ next κ l;kernel_rfl
def L107_4 (fu:Nat):LStep P Cf:=LStep.mk1 (by decide) (L107_4.e0 fu)
def L107_4.b (fu:Nat) {τ:Type} (t:Nat) (l:LS_) (κ:Nat→LS_→Option τ):Option τ:=runE (L107_4 fu) fu κ t l
def L107_4.E (fu:Nat):LEnt P:=LStep.EN fu (L107_4 fu)
def F107.ps:List PV2:=[pI]
def F107.sh:List PA:=[(PA.mk (PV3.v (PV2.agg [iI,iI])) [])]
def F107.O (fu:Nat):Orc P:=⟨[],[(L107_4.E fu)],[],40⟩
def F107 (fu:Nat) {τ:Type} (l:LS_) (k:Nat→LS_→Option τ):Option τ :=
 br (ltI (gI l 0) 2)
 (k 0 [.I 0,.I 0])
 (br (gtI (gI l 0) 64)
 (k 0 [.I 0,.I 0])
 ((L107_4.b fu) 0 [.I (gI l 0),.I 2,.I 0,.I 0]
 (fun j A=>(sw (k 0 [.I (gI A 0),.I (gI A 1)])
 (sw (k 0 [.I 0,.I 0])
 (fun _=>none))) j)))
theorem F107.eq (fu:Nat):FEq (F107.O fu) 128 F107.ps F107.sh (F107 fu):=by intro τ l κ;kernel_rfl
def F107.E (fu:Nat):Ent P:=mkF (F107.eq fu)
def L134_2.H:LHead:=⟨false,true,0,638978,638978,13,4,0,[(PS.mk (qR::us 1 (pB::pI::us 11 [])) [])],[(Out.ret,(PS.mk (us 2 (pB::us 12 [])) [])),((Out.exit 0),(PS.mk (us 2 (pB::us 12 [])) []))]⟩
def L134_2.O (fu:Nat):Orc P:=⟨[],[],[],40⟩
def L134_2.s0 (fu:Nat) {τ:Type} (next ex:Nat→LS_→Option τ) (l:LS_):Option τ :=
 br (ltI (gI l 3) (gN l 0))
 (ck (((leI 0 (gI l 3))&&(ltI (gI l 3) (gN l 0)))&&true)
 (ck (ltN ((Int.toNat (gI l 3))*1) (List.length (gL l 1)))
 (br ((List.getD (gL l 1) ((Int.toNat (gI l 3))*1) 0) != 0)
 (ex 0 [.B false])
 (next 0 [.N (gN l 0),.L (gL l 1),.B (gB l 2),.I (wr .i64 ((gI l 3)+1))]))))
 (ex 1 [.B (gB l 2)])
theorem L134_2.e0 (fu:Nat):LEq (L134_2.O fu) L134_2.H 0 (L134_2.s0 fu):=by intro τ next κ l;kernel_rfl
def L134_2 (fu:Nat):LStep P Cf:=LStep.mk1 (by decide) (L134_2.e0 fu)
def L134_2.b (fu:Nat) {τ:Type} (t:Nat) (l:LS_) (κ:Nat→LS_→Option τ):Option τ:=runE (L134_2 fu) fu κ t l
def L134_2.E (fu:Nat):LEnt P:=LStep.EN fu (L134_2 fu)
def F134.ps:List PV2:=[pR]
def F134.sh:List PA:=[(PA.mk (PV3.v pB) [])]
def F134.O (fu:Nat):Orc P:=⟨[],[(L134_2.E fu)],[],40⟩
def F134 (fu:Nat) {τ:Type} (l:LS_) (k:Nat→LS_→Option τ):Option τ :=
 (L134_2.b fu) 0 [.N (List.length (gL l 0)),.L (gL l 0),.B false,.I 0]
 (fun j A=>(sw (k 0 [.B (gB A 0)])
 (sw (k 0 [.B true])
 (fun _=>none))) j)
theorem F134.eq (fu:Nat):FEq (F134.O fu) 156 F134.ps F134.sh (F134 fu):=by intro τ l κ;kernel_rfl
def F134.E (fu:Nat):Ent P:=mkF (F134.eq fu)
def L109_5.H:LHead:=⟨false,true,0,528389,528389,115,51,0,[(PS.mk (pI::qR::us 2 (pB::pI::pI::us 25 [])) [])],[(Out.ret,(PS.mk (pI::qR::us 2 (pB::pI::us 26 [])) [])),((Out.exit 2),(PS.mk (pI::qR::us 2 (pB::pI::us 26 [])) []))]⟩
def L109_5.O (fu:Nat):Orc P:=⟨[(F133.E fu),(F108.E fu),(F119.E fu),(F134.E fu)],[],[],40⟩
def L109_5.s0 (fu:Nat) {τ:Type} (next ex:Nat→LS_→Option τ) (l:LS_):Option τ :=
 (F133 fu) [.I (gI l 0),.I (gI l 4)]
 (fun j A=>(sw (br (ltI (gI l 5) (gI A 0))
 ((F108 fu) [.I (gI l 0),.I (gI l 4),.I (gI l 5)]
 (fun j B=>(sw (ck (((((eqM (List.length (gL B 1)) ((gN B 0)*1))&&true)&&true)&&(leN (((gN B 0)+1)*9) 1099511627776))&&true)
 (ck ((eqM (gN l 1) (List.length (gL l 2)))&&((eqM ((gN B 0)+1) (List.length (List.take (((gN B 0)+1)*1) (List.drop 0 ((gL B 1)++[1])))))&&true))
 ((F119 fu) [.I (gI l 0),.L (gL l 2),.L (List.take (((gN B 0)+1)*1) (List.drop 0 ((gL B 1)++[1])))]
 (fun j C=>(sw (ck ((eqM (gN C 0) (List.length (List.take ((gN C 0)*1) (List.drop 0 (gL C 1)))))&&true)
 ((F134 fu) [.L (List.take ((gN C 0)*1) (List.drop 0 (gL C 1)))]
 (fun j D=>(sw (br (gB D 0)
 (ex 0 [.I (gI l 0),.N (gN l 1),.L (gL l 2),.B false,.I (gI l 4)])
 (next 0 [.I (gI l 0),.N (gN l 1),.L (gL l 2),.B (gB l 3),.I (gI l 4),.I (wr .i64 ((gI l 5)+1))]))
 (fun _=>none)) j)))
 (sw (ck ((eqM (gN C 0) 0)&&true)
 ((F134 fu) [.L []]
 (fun j D=>(sw (br (gB D 0)
 (ex 0 [.I (gI l 0),.N (gN l 1),.L (gL l 2),.B false,.I (gI l 4)])
 (next 0 [.I (gI l 0),.N (gN l 1),.L (gL l 2),.B (gB l 3),.I (gI l 4),.I (wr .i64 ((gI l 5)+1))]))
 (fun _=>none)) j)))
 (fun _=>none))) j))))
 (fun _=>none)) j))
 (ex 1 [.I (gI l 0),.N (gN l 1),.L (gL l 2),.B (gB l 3),.I (gI l 4)]))
 (fun _=>none)) j)
theorem L109_5.e0 (fu:Nat):LEq (L109_5.O fu) L109_5.H 0 (L109_5.s0 fu):=by intro τ next κ l;kernel_rfl
def L109_5 (fu:Nat):LStep P Cf:=LStep.mk1 (by decide) (L109_5.e0 fu)
def L109_5.b (fu:Nat) {τ:Type} (t:Nat) (l:LS_) (κ:Nat→LS_→Option τ):Option τ:=runE (L109_5 fu) fu κ t l
def L109_5.E (fu:Nat):LEnt P:=LStep.EN fu (L109_5 fu)
def L109_2.H:LHead:=⟨false,true,0,528386,528386,51,16,0,[(PS.mk (pI::qR::us 2 (pB::pI::us 26 [])) [])],[(Out.ret,(PS.mk (us 4 (pB::us 27 [])) [])),((Out.exit 0),(PS.mk (us 4 (pB::us 27 [])) []))]⟩
def L109_2.O (fu:Nat):Orc P:=⟨[],[(L109_5.E fu)],[],40⟩
def L109_2.s0 (fu:Nat) {τ:Type} (next ex:Nat→LS_→Option τ) (l:LS_):Option τ :=
 br (leI (wr .i64 (2*(gI l 4))) (wr .i64 ((((gN l 1):Nat):Int)-1)))
 ((L109_5.b fu) 0 [.I (gI l 0),.N (gN l 1),.L (gL l 2),.B (gB l 3),.I (gI l 4),.I 0]
 (fun j A=>(sw (ex 0 [.B (gB A 3)])
 (sw (next 0 [.I (gI A 0),.N (gN A 1),.L (gL A 2),.B (gB A 3),.I (wr .i64 ((gI A 4)+1))])
 (fun _=>none))) j))
 (ex 1 [.B (gB l 3)])
theorem L109_2.e0 (fu:Nat):LEq (L109_2.O fu) L109_2.H 0 (L109_2.s0 fu):=by intro τ next κ l;kernel_rfl
def L109_2 (fu:Nat):LStep P Cf:=LStep.mk1 (by decide) (L109_2.e0 fu)
def L109_2.b (fu:Nat) {τ:Type} (t:Nat) (l:LS_) (κ:Nat→LS_→Option τ):Option τ:=runE (L109_2 fu) fu κ t l
def L109_2.E (fu:Nat):LEnt P:=LStep.EN fu (L109_2 fu)
def F109.ps:List PV2:=[pI,pR]
def F109.sh:List PA:=[(PA.mk (PV3.v pB) [])]
def F109.O (fu:Nat):Orc P:=⟨[],[(L109_2.E fu)],[],40⟩
def F109 (fu:Nat) {τ:Type} (l:LS_) (k:Nat→LS_→Option τ):Option τ :=
 (L109_2.b fu) 0 [.I (gI l 0),.N (List.length (gL l 1)),.L (gL l 1),.B false,.I 1]
 (fun j A=>(sw (k 0 [.B (gB A 0)])
 (sw (k 0 [.B true])
 (fun _=>none))) j)
theorem F109.eq (fu:Nat):FEq (F109.O fu) 129 F109.ps F109.sh (F109 fu):=by intro τ l κ;kernel_rfl
def F109.E (fu:Nat):Ent P:=mkF (F109.eq fu)
def L76_5.H:LHead:=⟨false,true,0,356357,356357,61,12,0,[(PS.mk (pI::us 1 ((pp 0)::pI::(pp 1)::pI::us 33 [])) [(oG [pI,pI,nS]),(oG [pI,pI])])],[(Out.ret,(PS.mk (us 2 ((pp 0)::pI::us 35 [])) [(oG [pI,pI,(rr 1)]),oI])),((Out.exit 0),(PS.mk (us 2 ((pp 0)::pI::us 35 [])) [(oG [pI,pI,nS])]))]⟩
def L76_5.O (fu:Nat):Orc P:=⟨[(F108.E fu),(F109.E fu)],[],[],40⟩
def L76_5.s0 (fu:Nat) {τ:Type} (next ex:Nat→LS_→Option τ) (l:LS_):Option τ :=
 br (ltI (gI l 2) (gI l 0))
 ((F108 fu) [.I (gI l 5),.I (gI l 6),.I (gI l 2)]
 (fun j A=>(sw (ck (((eqM (List.length (List.take ((gN A 0)*1) (List.drop 0 (gL A 1)))) ((gN A 0)*1))&&(leN ((0+(gN A 0))*9) 1099511627776))&&true)
 (ck (((((eqM (List.length ([]++(List.take ((gN A 0)*1) (List.drop 0 (gL A 1))))) ((0+(gN A 0))*1))&&true)&&true)&&(leN (((0+(gN A 0))+1)*9) 1099511627776))&&true)
 (ck ((eqM ((0+(gN A 0))+1) (List.length (List.take (((0+(gN A 0))+1)*1) (List.drop 0 (([]++(List.take ((gN A 0)*1) (List.drop 0 (gL A 1))))++[1])))))&&true)
 ((F109 fu) [.I (gI l 5),.L (List.take (((0+(gN A 0))+1)*1) (List.drop 0 (([]++(List.take ((gN A 0)*1) (List.drop 0 (gL A 1))))++[1])))]
 (fun j B=>(sw (br (gB B 0)
 (ex 0 [.I 0,.I (gI l 5),.I (gI l 6),.N (gN A 0),.L (gL A 1)])
 (next 0 [.I (gI l 0),.I (gI l 1),.I (wr .i64 ((gI l 2)+1)),.I (gI l 3),.I (gI l 4),.I (gI l 5),.I (gI l 6)]))
 (fun _=>none)) j)))))
 (fun _=>none)) j))
 (ex 1 [.I (gI l 1),.I (gI l 3),.I (gI l 4)])
theorem L76_5.e0 (fu:Nat):LEq (L76_5.O fu) L76_5.H 0 (L76_5.s0 fu):=by intro τ next κ l;kernel_rfl
def L76_5 (fu:Nat):LStep P Cf:=LStep.mk1 (by decide) (L76_5.e0 fu)
def L76_5.b (fu:Nat) {τ:Type} (t:Nat) (l:LS_) (κ:Nat→LS_→Option τ):Option τ:=runE (L76_5 fu) fu κ t l
def L76_5.E (fu:Nat):LEnt P:=LStep.EN fu (L76_5 fu)
def F76.ps:List PV2:=[pI]
def F76.sh:List PA:=[(PA.mk (PV3.tup [(PV2.agg [(PV1.intC .i64 0),(PV1.intC .i64 0),PV1.nilS]),(pC 1)]) []),(PA.mk (PV3.tup [(PV2.agg [iI,iI,(r1 0)]),pI]) [cI])]
def F76.O (fu:Nat):Orc P:=⟨[(F107.E fu)],[(L76_5.E fu)],[],40⟩
def F76 (fu:Nat) {τ:Type} (l:LS_) (k:Nat→LS_→Option τ):Option τ :=
 (F107 fu) [.I (gI l 0)]
 (fun j A=>(sw (br ((gI A 0)==0)
 (k 0 [])
 ((L76_5.b fu) 0 [.I (gI l 0),.I 0,.I 0,.I 0,.I 0,.I (gI A 0),.I (gI A 1)]
 (fun j B=>(sw (k 1 [.I (gI B 1),.I (gI B 2),.N (gN B 3),.I (gI B 0),.L (gL B 4)])
 (sw (k 0 [])
 (fun _=>none))) j)))
 (fun _=>none)) j)
theorem F76.eq (fu:Nat):FEq (F76.O fu) 87 F76.ps F76.sh (F76 fu):=by intro τ l κ;kernel_rfl
def F76.E (fu:Nat):Ent P:=mkF (F76.eq fu)
end
end Go.Proofs.YticbdgmcofjkeaaGreat.Ai
namespace Go.Proofs.YticbdgmcofjkeaaGreat.Ai
open Go Go.RowKit Ma
noncomputable section
def kk (sh:List PA):Nat→LS_→Option Ans:=fun j l=>sel sh (fun s=>some (fA s l)) j
theorem F_ok {O:Orc P} {f:FuncId} {ps:List PV2} {sh:List PA} {F:∀ {τ:Type},LS_→(Nat→LS_→Option τ)→Option τ} (e:FEq O f ps sh F) {ls:LS_} {x:Ans} (h:F ls (kk sh)=some x):CS P f (fL2 ls ps 0) x:=by
 obtain ⟨y,h1,h2⟩:=Orc.call cfgOk O ((e ls some).trans h)
 cases h2
 exact h1
theorem or_no {a b:Bool} (h:(a || b)=true) (ha:a=false):b=true:=by subst ha;exact h
def chkI (v:Int):Option Ans→Bool
 | some ⟨.int .i64 m,[]⟩=>decide (m=v)
 | _=>false
theorem chkI_ok {v:Int} {o:Option Ans} (h:chkI v o=true):o=some ⟨.int .i64 v,[]⟩:=by
 unfold chkI at h
 split at h
 ·rw [of_decide_eq_true h]
 ·cases h
def chkP (v:Int):Option Ans→Bool
 | some ⟨.tup [.int .i64 m,.int .i64 z],[]⟩=>decide (m=v)&&decide (z=0)
 | _=>false
theorem chkP_ok {v:Int} {o:Option Ans} (h:chkP v o=true):o=some ⟨.tup [.int .i64 v,.int .i64 0],[]⟩:=by
 unfold chkP at h
 split at h
 ·rw [Bool.and_eq_true] at h
  rw [of_decide_eq_true h.1,of_decide_eq_true h.2]
 ·cases h
def chkM (p e:Int) (m:List Int):Option Ans→Bool
 | some ⟨.tup [.agg [.int .i64 p',.int .i64 e',.ref id r off n k],.int .i64 z],[.i .i64 m']⟩=>decide (p'=p)&&(decide (e'=e)&&(decide (m'=m)&&(decide (z=0)&&(decide (id=0)&&(decide (r=0)&&(decide (off=0)&&(decide (n=m.length)&&decide (k=1))))))))
 | _=>false
theorem chkM_ok {p e:Int} {m:List Int} {o:Option Ans} (h:chkM p e m o=true):o=some ⟨.tup [.agg [.int .i64 p,.int .i64 e,.ref 0 0 0 m.length 1],.int .i64 0],[.i .i64 m]⟩:=by
 unfold chkM at h
 split at h
 ·simp only [Bool.and_eq_true,decide_eq_true_eq] at h
  obtain ⟨h1,h2,h3,h4,h5,h6,h7,h8,h9⟩:=h
  subst h1 h2 h3 h4 h5 h6 h7 h8 h9
  rfl
 ·cases h
theorem all2 {l:List Nat} {p:Nat→Int→Int→Bool} (h:l.all (fun q=>(List.range q).all fun a=>(List.range q).all fun b=>p q a b)=true) {q:Nat} (hq:q∈l) {a b:Int} (h0:0≤a) (h1:a<q) (h2:0≤b) (h3:b<q):p q a b=true:=by
 have e1:=List.all_eq_true.1 (List.all_eq_true.1 (List.all_eq_true.1 h q hq) a.toNat (List.mem_range.2 (by omega))) b.toNat (List.mem_range.2 (by omega))
 rwa [Int.toNat_of_nonneg h0,Int.toNat_of_nonneg h2] at e1
theorem all1 {l:List Nat} {p:Nat→Int→Bool} (h:l.all (fun q=>(List.range q).all fun a=>p q a)=true) {q:Nat} (hq:q∈l) {a:Int} (h0:0≤a) (h1:a<q):p q a=true:=by
 have e1:=List.all_eq_true.1 (List.all_eq_true.1 h q hq) a.toNat (List.mem_range.2 (by omega))
 rwa [Int.toNat_of_nonneg h0] at e1
def p77 (q:Nat) (a b:Int):Bool:=chkI (fadd q a b) (F77 64 [.I (fp q),.I (fe q),.L (fm q),.I a,.I b] (kk F77.sh))
theorem t77:Qs.all (fun q=>(List.range q).all fun a=>(List.range q).all fun b=>p77 q a b)=true:=by kernel_rfl
def p89 (q:Nat) (a b:Int):Bool:=chkI (fmul q a b) (F89 64 [.I (fp q),.I (fe q),.L (fm q),.I a,.I b] (kk F89.sh))
theorem t89:Qs.all (fun q=>(List.range q).all fun a=>(List.range q).all fun b=>p89 q a b)=true:=by kernel_rfl
def p79 (q:Nat) (a:Int):Bool:=chkI (fneg q a) (F79 64 [.I (fp q),.I (fe q),.L (fm q),.I a] (kk F79.sh))
theorem t79:Qs.all (fun q=>(List.range q).all fun a=>p79 q a)=true:=by kernel_rfl
def p111 (q:Nat) (a:Int):Bool:=decide (a=0) || chkP (finv q a) (F111 64 [.I (fp q),.I (fe q),.L (fm q),.I a] (kk F111.sh))
theorem t111:Qs.all (fun q=>(List.range q).all fun a=>p111 q a)=true:=by kernel_rfl
theorem t76:Qs.all (fun q=>chkM (fp q) (fe q) (fm q) (F76 64 [.I (q:Int)] (kk F76.sh)))=true:=by kernel_rfl
def p103 (q:Nat) (a b:Int):Bool:=chkI (fadd q a b) (F103 64 [.I (fp q),.L (fm q),.I a,.I b] (kk F103.sh))
theorem t103:[2,3,5,7].all (fun q=>(List.range q).all fun a=>(List.range q).all fun b=>p103 q a b)=true:=by kernel_rfl
def p103_1 (q:Nat) (a b:Int):Bool:=chkI (fadd q a b) (F103_1 64 [.I (fp q),.L (fm q),.I a,.I b] (kk F103_1.sh))
theorem t103_1:[4].all (fun q=>(List.range q).all fun a=>(List.range q).all fun b=>p103_1 q a b)=true:=by kernel_rfl
def p103_2 (q:Nat) (a b:Int):Bool:=chkI (fadd q a b) (F103_2 64 [.I (fp q),.L (fm q),.I a,.I b] (kk F103_2.sh))
theorem t103_2:[8].all (fun q=>(List.range q).all fun a=>(List.range q).all fun b=>p103_2 q a b)=true:=by kernel_rfl
def p104 (q:Nat) (a b:Int):Bool:=chkI (fmul q a b) (F104 64 [.I (fp q),.L (fm q),.I a,.I b] (kk F104.sh))
theorem t104:[2,3,5,7].all (fun q=>(List.range q).all fun a=>(List.range q).all fun b=>p104 q a b)=true:=by kernel_rfl
def p104_1 (q:Nat) (a b:Int):Bool:=chkI (fmul q a b) (F104_1 64 [.I (fp q),.L (fm q),.I a,.I b] (kk F104_1.sh))
theorem t104_1:[4].all (fun q=>(List.range q).all fun a=>(List.range q).all fun b=>p104_1 q a b)=true:=by kernel_rfl
def p104_2 (q:Nat) (a b:Int):Bool:=chkI (fmul q a b) (F104_2 64 [.I (fp q),.L (fm q),.I a,.I b] (kk F104_2.sh))
theorem t104_2:[8].all (fun q=>(List.range q).all fun a=>(List.range q).all fun b=>p104_2 q a b)=true:=by kernel_rfl
def p83 (q:Nat) (a:Int):Bool:=chkI (fneg q a) (F83 64 [.I (fp q),.L (fm q),.I a] (kk F83.sh))
theorem t83:[2,3,5,7].all (fun q=>(List.range q).all fun a=>p83 q a)=true:=by kernel_rfl
def p83_1 (q:Nat) (a:Int):Bool:=chkI (fneg q a) (F83_1 64 [.I (fp q),.L (fm q),.I a] (kk F83_1.sh))
theorem t83_1:[4].all (fun q=>(List.range q).all fun a=>p83_1 q a)=true:=by kernel_rfl
def p83_2 (q:Nat) (a:Int):Bool:=chkI (fneg q a) (F83_2 64 [.I (fp q),.L (fm q),.I a] (kk F83_2.sh))
theorem t83_2:[8].all (fun q=>(List.range q).all fun a=>p83_2 q a)=true:=by kernel_rfl
def fAV (q:Nat):AV:=.agg [.int .i64 (fp q),.int .i64 (fe q),.sl (fm q).length (.i .i64 (fm q))]
theorem fq_inv {p e:Int} {m:List Int} (h:fq p e m∈Qs):p=fp (fq p e m)∧e=fe (fq p e m)∧m=fm (fq p e m):=by
 unfold fq at h ⊢
 cases hf:Qs.find? fun q=>decide (p=fp q)&&(decide (e=fe q)&&decide (m=fm q)) with
 | none=>rw [hf] at h;simp [Qs] at h
 | some q =>
  have:=List.find?_some hf
  simp only [Bool.and_eq_true,decide_eq_true_eq] at this
  exact this
def sh1:List PA:=[⟨.v (.v (.int .i64)),[]⟩]
def shI:List PA:=[⟨.v (.tup [.int .i64,.intC .i64 0]),[]⟩]
def shM:List PA:=[⟨.tup [.agg [.int .i64,.int .i64,.ref 0 (some 0) (some 0) none 1],.v (.intC .i64 0)],[.c (.i .i64)]⟩,⟨.tup [.agg [.intC .i64 0,.intC .i64 0,.nilS],.v (.intC .i64 1)],[]⟩]
theorem tab2_ok {f:FuncId} {op:Nat→Int→Int→Int} (hcs:∀ q∈Qs,∀ a b:Int,0≤a→a<q→0≤b→b<q→CS P f [fAV q,.int .i64 a,.int .i64 b] ⟨.int .i64 (op q a b),[]⟩) {τ:Type} (ls:LS_) (κ:Ans→Option τ) (r:τ) (h:tab2 op ls (fun j l=>sel sh1 (fun s=>κ (fA s l)) j)=some r):∃ x,CS P f (fL2 ls [pField,pI,pI] 0) x∧κ x=some r:=by
 unfold tab2 at h
 obtain ⟨h1,h2⟩:=ck_some h
 simp only [Bool.and_eq_true,decide_eq_true_eq,inq] at h1
 obtain ⟨hq,⟨a0,a1⟩,b0,b1⟩:=h1
 refine ⟨_,?_,h2⟩
 have:=hcs _ hq _ _ a0 a1 b0 b1
 obtain ⟨e1,e2,e3⟩:=fq_inv hq
 unfold fAV at this
 rw [←e1,←e2,←e3] at this
 exact this
theorem tab1_ok {f:FuncId} {op:Nat→Int→Int} (hcs:∀ q∈Qs,∀ a:Int,0≤a→a<q→CS P f [fAV q,.int .i64 a] ⟨.int .i64 (op q a),[]⟩) {τ:Type} (ls:LS_) (κ:Ans→Option τ) (r:τ) (h:tab1 op ls (fun j l=>sel sh1 (fun s=>κ (fA s l)) j)=some r):∃ x,CS P f (fL2 ls [pField,pI] 0) x∧κ x=some r:=by
 unfold tab1 at h
 obtain ⟨h1,h2⟩:=ck_some h
 simp only [Bool.and_eq_true,decide_eq_true_eq,inq] at h1
 obtain ⟨hq,a0,a1⟩:=h1
 refine ⟨_,?_,h2⟩
 have:=hcs _ hq _ a0 a1
 obtain ⟨e1,e2,e3⟩:=fq_inv hq
 unfold fAV at this
 rw [←e1,←e2,←e3] at this
 exact this
theorem tabI_ok {f:FuncId} (hcs:∀ q∈Qs,∀ a:Int,0≤a→a<q→a≠0→CS P f [fAV q,.int .i64 a] ⟨.tup [.int .i64 (finv q a),.int .i64 0],[]⟩) {τ:Type} (ls:LS_) (κ:Ans→Option τ) (r:τ) (h:tabI ls (fun j l=>sel shI (fun s=>κ (fA s l)) j)=some r):∃ x,CS P f (fL2 ls [pField,pI] 0) x∧κ x=some r:=by
 unfold tabI at h
 obtain ⟨h1,h2⟩:=ck_some h
 simp only [Bool.and_eq_true,decide_eq_true_eq,inq] at h1
 obtain ⟨hq,⟨a0,a1⟩,hz⟩:=h1
 refine ⟨_,?_,h2⟩
 have:=hcs _ hq _ a0 a1 hz
 obtain ⟨e1,e2,e3⟩:=fq_inv hq
 unfold fAV at this
 rw [←e1,←e2,←e3] at this
 exact this
theorem tabM_ok {f:FuncId} (hcs:∀ q∈Qs,CS P f [.int .i64 q] ⟨.tup [.agg [.int .i64 (fp q),.int .i64 (fe q),.ref 0 0 0 (fm q).length 1],.int .i64 0],[.i .i64 (fm q)]⟩) {τ:Type} (ls:LS_) (κ:Ans→Option τ) (r:τ) (h:tabM ls (fun j l=>sel shM (fun s=>κ (fA s l)) j)=some r):∃ x,CS P f (fL2 ls [pI] 0) x∧κ x=some r:=by
 unfold tabM at h
 obtain ⟨h1,h2⟩:=ck_some h
 simp only [Bool.and_eq_true,decide_eq_true_eq] at h1
 obtain ⟨h0,hq⟩:=h1
 refine ⟨_,?_,h2⟩
 have:=hcs _ hq
 rw [Int.toNat_of_nonneg h0] at this
 exact this
def T77.E:Ent P:=⟨56,[pField,pI,pI],sh1,fun l k=>T77 l k,tab2_ok fun q hq a b h0 h1 h2 h3=>F_ok (F77.eq 64) (chkI_ok (all2 (p:=p77) t77 hq h0 h1 h2 h3))⟩
def T89.E:Ent P:=⟨130,[pField,pI,pI],sh1,fun l k=>T89 l k,tab2_ok fun q hq a b h0 h1 h2 h3=>F_ok (F89.eq 64) (chkI_ok (all2 (p:=p89) t89 hq h0 h1 h2 h3))⟩
def T79.E:Ent P:=⟨69,[pField,pI],sh1,fun l k=>T79 l k,tab1_ok fun q hq a h0 h1=>F_ok (F79.eq 64) (chkI_ok (all1 (p:=p79) t79 hq h0 h1))⟩
def T111.E:Ent P:=⟨90,[pField,pI],shI,fun l k=>T111 l k,tabI_ok fun q hq a h0 h1 hz=>F_ok (F111.eq 64) (chkP_ok (or_no (all1 (p:=p111) t111 hq h0 h1) (by simpa using hz)))⟩
def T76.E:Ent P:=⟨87,[pI],shM,fun l k=>T76 l k,tabM_ok fun q hq=>F_ok (F76.eq 64) (chkM_ok (List.all_eq_true.1 t76 q hq))⟩
theorem qs_cases {q:Nat} (hq:q∈Qs):(q∈[2,3,5,7]∧fe q=1)∨(q∈[4]∧fe q=2)∨(q∈[8]∧fe q=3):=by
 have:Qs.all (fun q=>decide ((q∈[2,3,5,7]∧fe q=1)∨(q∈[4]∧fe q=2)∨(q∈[8]∧fe q=3)))=true:=by decide +kernel
 exact of_decide_eq_true (List.all_eq_true.1 this q hq)
theorem cs103:∀ q∈Qs,∀ a b:Int,0≤a→a<q→0≤b→b<q→CS P 146 [fAV q,.int .i64 a,.int .i64 b] ⟨.int .i64 (fadd q a b),[]⟩:=fun q hq a b h0 h1 h2 h3=>by
 unfold fAV
 rcases qs_cases hq with ⟨h,e⟩ | ⟨h,e⟩ | ⟨h,e⟩
 ·rw [e];exact F_ok (F103.eq 64) (chkI_ok (all2 (p:=p103) t103 h h0 h1 h2 h3))
 ·rw [e];exact F_ok (F103_1.eq 64) (chkI_ok (all2 (p:=p103_1) t103_1 h h0 h1 h2 h3))
 ·rw [e];exact F_ok (F103_2.eq 64) (chkI_ok (all2 (p:=p103_2) t103_2 h h0 h1 h2 h3))
def T103.E:Ent P:=⟨146,[pField,pI,pI],sh1,fun l k=>T103 l k,tab2_ok cs103⟩
theorem cs104:∀ q∈Qs,∀ a b:Int,0≤a→a<q→0≤b→b<q→CS P 143 [fAV q,.int .i64 a,.int .i64 b] ⟨.int .i64 (fmul q a b),[]⟩:=fun q hq a b h0 h1 h2 h3=>by
 unfold fAV
 rcases qs_cases hq with ⟨h,e⟩ | ⟨h,e⟩ | ⟨h,e⟩
 ·rw [e];exact F_ok (F104.eq 64) (chkI_ok (all2 (p:=p104) t104 h h0 h1 h2 h3))
 ·rw [e];exact F_ok (F104_1.eq 64) (chkI_ok (all2 (p:=p104_1) t104_1 h h0 h1 h2 h3))
 ·rw [e];exact F_ok (F104_2.eq 64) (chkI_ok (all2 (p:=p104_2) t104_2 h h0 h1 h2 h3))
def T104.E:Ent P:=⟨143,[pField,pI,pI],sh1,fun l k=>T104 l k,tab2_ok cs104⟩
theorem cs83:∀ q∈Qs,∀ a:Int,0≤a→a<q→CS P 144 [fAV q,.int .i64 a] ⟨.int .i64 (fneg q a),[]⟩:=fun q hq a h0 h1=>by
 unfold fAV
 rcases qs_cases hq with ⟨h,e⟩ | ⟨h,e⟩ | ⟨h,e⟩
 ·rw [e];exact F_ok (F83.eq 64) (chkI_ok (all1 (p:=p83) t83 h h0 h1))
 ·rw [e];exact F_ok (F83_1.eq 64) (chkI_ok (all1 (p:=p83_1) t83_1 h h0 h1))
 ·rw [e];exact F_ok (F83_2.eq 64) (chkI_ok (all1 (p:=p83_2) t83_2 h h0 h1))
def T83.E:Ent P:=⟨144,[pField,pI],sh1,fun l k=>T83 l k,tab1_ok cs83⟩
end
end Go.Proofs.YticbdgmcofjkeaaGreat.Ai
namespace Go.Proofs.YticbdgmcofjkeaaGreat.Ai
open Go Go.RowKit
noncomputable section
variable {τ:Type} (t:Nat) (nx ex:Nat→LS_→Option τ) (l:LS_) (k κ:Nat→LS_→Option τ)
def L128_5_i.H:LHead:=⟨false,true,0,667653,667653,201326606,4,0,[(PS.mk (us 1 ((pp 0)::pB::pI::us 22 (pI::pI::us 11 []))) [(oG [pI,pI,qR])])],[(Out.ret,(PS.mk (us 2 (pB::us 36 [])) [])),((Out.exit 0),(PS.mk (us 2 (pB::us 36 [])) []))]⟩
def L128_5_i.O (fu:Nat):Orc P:=⟨[],[],[],40⟩
def L128_5_i.s0 (fu:Nat) {τ:Type} (next ex:Nat→LS_→Option τ) (l:LS_):Option τ :=
 br (ltI (gI l 3) (gI l 2))
 (ck (!((gI l 4)==0))
 (br (gtI (gI l 1) (wr .i64 (Int.tdiv 64 (gI l 4))))
 (ex 0 [.B false])
 (next 0 [.B (gB l 0),.I (wr .i64 ((gI l 1)*(gI l 4))),.I (gI l 2),.I (wr .i64 ((gI l 3)+1)),.I (gI l 4),.I (gI l 5),.N (gN l 6),.L (gL l 7)])))
 (ex 1 [.B (gB l 0)])
theorem L128_5_i.e0 (fu:Nat):LEq (L128_5_i.O fu) L128_5_i.H 0 (L128_5_i.s0 fu):=by intro τ next κ l;kernel_rfl
def L128_5_i (fu:Nat):LStep P Cf:=LStep.mk1 (by decide) (L128_5_i.e0 fu)
def L128_5_i.b (fu:Nat) {τ:Type} (t:Nat) (l:LS_) (κ:Nat→LS_→Option τ):Option τ:=runE (L128_5_i fu) fu κ t l
def L128_5_i.E (fu:Nat):LEnt P:=LStep.EN fu (L128_5_i fu)
def F128_i.ps:List PV2:=[(PV2.agg [iI,iI,aI])]
def F128_i.sh:List PA:=[(PA.mk (PV3.v pB) [])]
def F128_i.O (fu:Nat):Orc P:=⟨[],[(L128_5_i.E fu)],[],40⟩
def F128_i (fu:Nat) {τ:Type} (l:LS_) (k:Nat→LS_→Option τ):Option τ :=
 br (ltI (gI l 0) 2)
 (k 0 [.B false])
 (br (ltI (gI l 1) 1)
 (k 0 [.B false])
 (br (gtI (gI l 1) 6)
 (k 0 [.B false])
 (br ((((List.length (gL l 2)):Nat):Int) != (gI l 1))
 (k 0 [.B false])
 ((L128_5_i.b fu) 0 [.B false,.I 1,.I (gI l 1),.I 0,.I (gI l 0),.I (gI l 1),.N (List.length (gL l 2)),.L (gL l 2)]
 (fun j A=>(sw (k 0 [.B (gB A 0)])
 (sw (k 0 [.B true])
 (fun _=>none))) j)))))
theorem F128_i.eq (fu:Nat):FEq (F128_i.O fu) 163 F128_i.ps F128_i.sh (F128_i fu):=by intro τ l κ;kernel_rfl
def F128_i.E (fu:Nat):Ent P:=mkF (F128_i.eq fu)
def L140_5.H:LHead:=⟨false,true,0,737285,737285,778,8,0,[(PS.mk (us 1 ((pp 0)::us 1 (pI::us 4 (pI::pI::us 7 [])))) [(oG [pI,pI,qR])])],[((Out.exit 0),(PS.mk (us 3 (pI::us 13 [])) []))]⟩
def L140_5.O (fu:Nat):Orc P:=⟨[],[],[],40⟩
def L140_5.s0 (fu:Nat) {τ:Type} (next ex:Nat→LS_→Option τ) (l:LS_):Option τ :=
 br (ltI (gI l 2) (gI l 1))
 (next 0 [.I (wr .i64 ((gI l 0)*(gI l 3))),.I (gI l 1),.I (wr .i64 ((gI l 2)+1)),.I (gI l 3),.I (gI l 4),.N (gN l 5),.L (gL l 6)])
 (ex 0 [.I (gI l 0)])
theorem L140_5.e0 (fu:Nat):LEq (L140_5.O fu) L140_5.H 0 (L140_5.s0 fu):=by intro τ next κ l;kernel_rfl
def L140_5 (fu:Nat):LStep P Cf:=LStep.mk1 (by decide) (L140_5.e0 fu)
def L140_5.b (fu:Nat) {τ:Type} (t:Nat) (l:LS_) (κ:Nat→LS_→Option τ):Option τ:=runE (L140_5 fu) fu κ t l
def L140_5.E (fu:Nat):LEnt P:=LStep.EN fu (L140_5 fu)
def F140.ps:List PV2:=[(PV2.agg [iI,iI,aI])]
def F140.sh:List PA:=[(PA.mk (PV3.v pI) [])]
def F140.O (fu:Nat):Orc P:=⟨[(F128_i.E fu)],[(L140_5.E fu)],[],40⟩
def F140 (fu:Nat) {τ:Type} (l:LS_) (k:Nat→LS_→Option τ):Option τ :=
 ck (((eqM (List.length (gL l 2)) (List.length (gL l 2)))&&true)&&true)
 ((F128_i fu) [.I (gI l 0),.I (gI l 1),.L (gL l 2)]
 (fun j A=>(sw (br (!(gB A 0))
 (k 0 [.I 0])
 ((L140_5.b fu) 0 [.I 1,.I (gI l 1),.I 0,.I (gI l 0),.I (gI l 1),.N (List.length (gL l 2)),.L (gL l 2)]
 (fun j B=>(sw (k 0 [.I (gI B 0)])
 (fun _=>none)) j)))
 (fun _=>none)) j))
theorem F140.eq (fu:Nat):FEq (F140.O fu) 180 F140.ps F140.sh (F140 fu):=by intro τ l κ;kernel_rfl
def F140.E (fu:Nat):Ent P:=mkF (F140.eq fu)
def F129_i.ps:List PV2:=[pI,pI]
def F129_i.sh:List PA:=[(PA.mk (PV3.v pI) [])]
def F129_i.O (fu:Nat):Orc P:=⟨[],[],[],40⟩
def F129_i (fu:Nat) {τ:Type} (l:LS_) (k:Nat→LS_→Option τ):Option τ :=
 ck (!((gI l 1)==0))
 (ck (!((gI l 1)==0))
 (k 0 [.I (Int.tmod (wr .i64 ((Int.tmod (gI l 0) (gI l 1))+(gI l 1))) (gI l 1))]))
theorem F129_i.eq (fu:Nat):FEq (F129_i.O fu) 166 F129_i.ps F129_i.sh (F129_i fu):=by intro τ l κ;kernel_rfl
def F129_i.E (fu:Nat):Ent P:=mkF (F129_i.eq fu)
def L139_2.H:LHead:=⟨false,true,0,733186,733186,142,128,0,[(PS.mk (us 1 (pI::pI::(pp 0)::us 3 (pI::us 16 []))) [(oG [pI,pI,qR])])],[((Out.exit 0),(PS.mk (us 7 (pI::us 16 [])) []))]⟩
def L139_2.O (fu:Nat):Orc P:=⟨[T104.E],[],[],40⟩
def L139_2.s0 (fu:Nat) {τ:Type} (next ex:Nat→LS_→Option τ) (l:LS_):Option τ :=
 br (gtI (gI l 1) 0)
 (br ((Int.tmod (gI l 1) 2)==1)
 (ck (((eqM (gN l 5) (List.length (gL l 6)))&&true)&&true)
 (T104 [.I (gI l 3),.I (gI l 4),.L (gL l 6),.I (gI l 2),.I (gI l 0)]
 (fun j A=>(sw (ck (((eqM (gN l 5) (List.length (gL l 6)))&&true)&&true)
 (T104 [.I (gI l 3),.I (gI l 4),.L (gL l 6),.I (gI l 0),.I (gI l 0)]
 (fun j B=>(sw (next 0 [.I (gI B 0),.I (wr .i64 (Int.tdiv (gI l 1) 2)),.I (gI A 0),.I (gI l 3),.I (gI l 4),.N (gN l 5),.L (gL l 6)])
 (fun _=>none)) j)))
 (fun _=>none)) j)))
 (ck (((eqM (gN l 5) (List.length (gL l 6)))&&true)&&true)
 (T104 [.I (gI l 3),.I (gI l 4),.L (gL l 6),.I (gI l 0),.I (gI l 0)]
 (fun j A=>(sw (next 0 [.I (gI A 0),.I (wr .i64 (Int.tdiv (gI l 1) 2)),.I (gI l 2),.I (gI l 3),.I (gI l 4),.N (gN l 5),.L (gL l 6)])
 (fun _=>none)) j))))
 (ex 0 [.I (gI l 2)])
theorem L139_2.e0 (fu:Nat):LEq (L139_2.O fu) L139_2.H 0 (L139_2.s0 fu):=by intro τ next κ l;kernel_rfl
def L139_2 (fu:Nat):LStep P Cf:=LStep.mk1 (by decide) (L139_2.e0 fu)
def L139_2.b (fu:Nat) {τ:Type} (t:Nat) (l:LS_) (κ:Nat→LS_→Option τ):Option τ:=runE (L139_2 fu) fu κ t l
def L139_2.E (fu:Nat):LEnt P:=LStep.EN fu (L139_2 fu)
def F139.ps:List PV2:=[(PV2.agg [iI,iI,aI]),pI,pI]
def F139.sh:List PA:=[(PA.mk (PV3.v pI) [])]
def F139.O (fu:Nat):Orc P:=⟨[],[(L139_2.E fu)],[],40⟩
def F139 (fu:Nat) {τ:Type} (l:LS_) (k:Nat→LS_→Option τ):Option τ :=
 (L139_2.b fu) 0 [.I (gI l 3),.I (gI l 4),.I 1,.I (gI l 0),.I (gI l 1),.N (List.length (gL l 2)),.L (gL l 2)]
 (fun j A=>(sw (k 0 [.I (gI A 0)])
 (fun _=>none)) j)
theorem F139.eq (fu:Nat):FEq (F139.O fu) 179 F139.ps F139.sh (F139 fu):=by intro τ l κ;kernel_rfl
def F139.E (fu:Nat):Ent P:=mkF (F139.eq fu)
def F136.ps:List PV2:=[(PV2.agg [iI,iI,aI]),pI,pI]
def F136.sh:List PA:=[(PA.mk (PV3.tup [(pC 1),(pC 0)]) []),(PA.mk (PV3.tup [(pC 0),(pC 3)]) []),(PA.mk (PV3.tup [(pC 0),(pC 0)]) []),(PA.mk (PV3.tup [pI,(pC 0)]) [])]
def F136.O (fu:Nat):Orc P:=⟨[(F128_i.E fu),(F140.E fu),(F129_i.E fu),(F139.E fu)],[],[],40⟩
def F136 (fu:Nat) {τ:Type} (l:LS_) (k:Nat→LS_→Option τ):Option τ :=
 br ((gI l 4)==0)
 (k 0 [])
 (br ((gI l 3)==0)
 (br (ltI (gI l 4) 0)
 (k 1 [])
 (br ((gI l 3)==0)
 (k 2 [])
 (ck (((eqM (List.length (gL l 2)) (List.length (gL l 2)))&&true)&&true)
 ((F128_i fu) [.I (gI l 0),.I (gI l 1),.L (gL l 2)]
 (fun j A=>(sw (br (!(gB A 0))
 (k 2 [])
 (ck (((eqM (List.length (gL l 2)) (List.length (gL l 2)))&&true)&&true)
 ((F140 fu) [.I (gI l 0),.I (gI l 1),.L (gL l 2)]
 (fun j B=>(sw ((F129_i fu) [.I (gI l 4),.I (wr .i64 ((gI B 0)-1))]
 (fun j C=>(sw (ck (((eqM (List.length (gL l 2)) (List.length (gL l 2)))&&true)&&true)
 ((F139 fu) [.I (gI l 0),.I (gI l 1),.L (gL l 2),.I (gI l 3),.I (gI C 0)]
 (fun j D=>(sw (k 3 [.I (gI D 0)])
 (fun _=>none)) j)))
 (fun _=>none)) j))
 (fun _=>none)) j))))
 (fun _=>none)) j)))))
 (br ((gI l 3)==0)
 (k 2 [])
 (ck (((eqM (List.length (gL l 2)) (List.length (gL l 2)))&&true)&&true)
 ((F128_i fu) [.I (gI l 0),.I (gI l 1),.L (gL l 2)]
 (fun j A=>(sw (br (!(gB A 0))
 (k 2 [])
 (ck (((eqM (List.length (gL l 2)) (List.length (gL l 2)))&&true)&&true)
 ((F140 fu) [.I (gI l 0),.I (gI l 1),.L (gL l 2)]
 (fun j B=>(sw ((F129_i fu) [.I (gI l 4),.I (wr .i64 ((gI B 0)-1))]
 (fun j C=>(sw (ck (((eqM (List.length (gL l 2)) (List.length (gL l 2)))&&true)&&true)
 ((F139 fu) [.I (gI l 0),.I (gI l 1),.L (gL l 2),.I (gI l 3),.I (gI C 0)]
 (fun j D=>(sw (k 3 [.I (gI D 0)])
 (fun _=>none)) j)))
 (fun _=>none)) j))
 (fun _=>none)) j))))
 (fun _=>none)) j)))))
theorem F136.eq (fu:Nat):FEq (F136.O fu) 162 F136.ps F136.sh (F136 fu):=by intro τ l κ;kernel_rfl
def F136.E (fu:Nat):Ent P:=mkF (F136.eq fu)
def F116.ps:List PV2:=[pField,pI]
def F116.sh:List PA:=[(PA.mk (PV3.tup [(pC 1),(pC 0)]) []),(PA.mk (PV3.tup [(pC 0),(pC 3)]) []),(PA.mk (PV3.tup [(pC 0),(pC 0)]) []),(PA.mk (PV3.tup [pI,(pC 0)]) [])]
def F116.O (fu:Nat):Orc P:=⟨[(F136.E fu)],[],[],40⟩
def F116 (fu:Nat) {τ:Type} (l:LS_) (k:Nat→LS_→Option τ):Option τ :=
 ck (((eqM (List.length (gL l 2)) (List.length (gL l 2)))&&true)&&true)
 ((F136 fu) [.I (gI l 0),.I (gI l 1),.L (gL l 2),.I (gI l 3),.I (-1)]
 (fun j A=>(sw (k 0 [])
 (sw (k 1 [])
 (sw (k 2 [])
 (sw (k 3 [.I (gI A 0)])
 (fun _=>none))))) j))
theorem F116.eq (fu:Nat):FEq (F116.O fu) 142 F116.ps F116.sh (F116 fu):=by intro τ l κ;kernel_rfl
def F116.E (fu:Nat):Ent P:=mkF (F116.eq fu)
end
end Go.Proofs.YticbdgmcofjkeaaGreat.Ai
namespace Go.Proofs.YticbdgmcofjkeaaGreat.Ai
open Go Go.RowKit Ma
noncomputable section
def p116 (q:Nat) (a:Int):Bool:=decide (a=0) || chkP (finv q a) (F116 64 [.I (fp q),.I (fe q),.L (fm q),.I a] (kk F116.sh))
theorem t116:Qs.all (fun q=>(List.range q).all fun a=>p116 q a)=true:=by kernel_rfl
def T116.E:Ent P:=⟨142,[pField,pI],shI,fun l k=>T116 l k,tabI_ok fun q hq a h0 h1 hz=>F_ok (F116.eq 64) (chkP_ok (or_no (all1 (p:=p116) t116 hq h0 h1) (by simpa using hz)))⟩
theorem t99:Qs.all (fun q=>chkM (fp q) (fe q) (fm q) (runC P Cf [F127.E 64] 60 145 [.int .i64 (q:Int)]))=true:=by kernel_rfl
def T99.E:Ent P:=⟨145,[pI],shM,fun l k=>T99 l k,tabM_ok fun q hq=>runC_ok cfgOk (chkM_ok (List.all_eq_true.1 t99 q hq))⟩
end
end Go.Proofs.YticbdgmcofjkeaaGreat.Ai
namespace Go.Proofs.YticbdgmcofjkeaaGreat.Ai
open Go Go.RowKit
noncomputable section
variable {τ:Type} (t:Nat) (nx ex:Nat→LS_→Option τ) (l:LS_) (k κ:Nat→LS_→Option τ)
def mo0Xa:List PO:=[(oG [(pK IntKind.u8),(pK IntKind.u8),(pK IntKind.u8),(PV2.v (PV1.sl (PC0.i IntKind.u8)))]),(oG [pI,pI,nS]),oM,oI]
def L27_4.H:LHead:=⟨false,true,0,507908,507908,51,16,0,[(PS.mk (qR::qR::us 2 (pB::pI::us 20 [])) [])],[(Out.ret,(PS.mk (us 4 (pB::us 21 [])) [])),((Out.exit 0),(PS.mk (us 4 (pB::us 21 [])) []))]⟩
def L27_4.O:Orc P:=⟨[],[],[],40⟩
def L27_4.s0:Option τ :=
 br (ltI (gI l 5) (gN l 0))
 (ck (((leI 0 (gI l 5))&&(ltI (gI l 5) (gN l 0)))&&true)
 (ck (ltN ((Int.toNat (gI l 5))*1) (List.length (gL l 1)))
 (ck (((leI 0 (gI l 5))&&(ltI (gI l 5) (gN l 2)))&&true)
 (ck (ltN ((Int.toNat (gI l 5))*1) (List.length (gL l 3)))
 (br ((List.getD (gL l 1) ((Int.toNat (gI l 5))*1) 0) != (List.getD (gL l 3) ((Int.toNat (gI l 5))*1) 0))
 (ex 0 [.B false])
 (nx 0 [.N (gN l 0),.L (gL l 1),.N (gN l 2),.L (gL l 3),.B (gB l 4),.I (wr .i64 ((gI l 5)+1))]))))))
 (ex 1 [.B (gB l 4)])
theorem L27_4.e0:LEq L27_4.O L27_4.H 0 L27_4.s0:=by intro τ next κ l;kernel_rfl
def L27_4:LStep P Cf:=LStep.mk1 (by decide) L27_4.e0
def L27_4.b:Option τ:=runE L27_4 fuel κ t l
def L27_4.E:LEnt P:=LStep.E L27_4
def F27.ps:List PV2:=[pR,pR]
def F27.sh:List PA:=[(PA.mk (PV3.v pB) [])]
def F27.O:Orc P:=⟨[],[L27_4.E],[],40⟩
def F27:Option τ :=
 br ((((List.length (gL l 0)):Nat):Int) != (((List.length (gL l 1)):Nat):Int))
 (k 0 [.B false])
 (L27_4.b 0 [.N (List.length (gL l 0)),.L (gL l 0),.N (List.length (gL l 1)),.L (gL l 1),.B false,.I 0]
 (fun j A=>(sw (k 0 [.B (gB A 0)])
 (sw (k 0 [.B true])
 (fun _=>none))) j))
theorem F27.eq:FEq F27.O 124 F27.ps F27.sh F27:=by intro τ l κ;kernel_rfl
def F27.E:Ent P:=mkF F27.eq
def L22_4.H:LHead:=⟨false,true,0,335876,335876,51,16,0,[(PS.mk (qM::qM::us 2 (pB::pI::us 21 [])) [])],[(Out.ret,(PS.mk (us 4 (pB::us 22 [])) [])),((Out.exit 0),(PS.mk (us 4 (pB::us 22 [])) []))]⟩
def L22_4.O:Orc P:=⟨[F27.E],[],[],40⟩
def L22_4.s0:Option τ :=
 br (ltI (gI l 5) (gN l 0))
 (ck (((leI 0 (gI l 5))&&(ltI (gI l 5) (gN l 0)))&&true)
 (ck (ltN ((Int.toNat (gI l 5))*1) (List.length (gLL l 1)))
 (ck (((leI 0 (gI l 5))&&(ltI (gI l 5) (gN l 2)))&&true)
 (ck (ltN ((Int.toNat (gI l 5))*1) (List.length (gLL l 3)))
 (ck ((eqM (List.length (List.getD (gLL l 1) ((Int.toNat (gI l 5))*1) [])) (List.length (List.getD (gLL l 1) ((Int.toNat (gI l 5))*1) [])))&&((eqM (List.length (List.getD (gLL l 3) ((Int.toNat (gI l 5))*1) [])) (List.length (List.getD (gLL l 3) ((Int.toNat (gI l 5))*1) [])))&&true))
 (F27 [.L (List.getD (gLL l 1) ((Int.toNat (gI l 5))*1) []),.L (List.getD (gLL l 3) ((Int.toNat (gI l 5))*1) [])]
 (fun j A=>(sw (br (!(gB A 0))
 (ex 0 [.B false])
 (nx 0 [.N (gN l 0),.LL (gLL l 1),.N (gN l 2),.LL (gLL l 3),.B (gB l 4),.I (wr .i64 ((gI l 5)+1))]))
 (fun _=>none)) j)))))))
 (ex 1 [.B (gB l 4)])
theorem L22_4.e0:LEq L22_4.O L22_4.H 0 L22_4.s0:=by intro τ next κ l;kernel_rfl
def L22_4:LStep P Cf:=LStep.mk1 (by decide) L22_4.e0
def L22_4.b:Option τ:=runE L22_4 fuel κ t l
def L22_4.E:LEnt P:=LStep.E L22_4
def F22.ps:List PV2:=[pM,pM]
def F22.sh:List PA:=[(PA.mk (PV3.v pB) [])]
def F22.O:Orc P:=⟨[],[L22_4.E],[],40⟩
def F22:Option τ :=
 br ((((List.length (gLL l 0)):Nat):Int) != (((List.length (gLL l 1)):Nat):Int))
 (k 0 [.B false])
 (L22_4.b 0 [.N (List.length (gLL l 0)),.LL (gLL l 0),.N (List.length (gLL l 1)),.LL (gLL l 1),.B false,.I 0]
 (fun j A=>(sw (k 0 [.B (gB A 0)])
 (sw (k 0 [.B true])
 (fun _=>none))) j))
theorem F22.eq:FEq F22.O 82 F22.ps F22.sh F22:=by intro τ l κ;kernel_rfl
def F22.E:Ent P:=mkF F22.eq
def F32.ps:List PV2:=[pI]
def F32.sh:List PA:=[(PA.mk (PV3.v (rr 0)) [cI])]
def F32.O:Orc P:=⟨[],[],[],40⟩
def F32:Option τ :=
 ck (((leI 0 (gI l 0))&&(leI (gI l 0) (gI l 0)))&&(leI ((gI l 0)*9) 1099511627776))
 (k 0 [.N (Int.toNat (gI l 0)),.L (List.replicate (Int.toNat (gI l 0)) (0:Int))])
theorem F32.eq:FEq F32.O 51 F32.ps F32.sh F32:=by intro τ l κ;kernel_rfl
def F32.E:Ent P:=mkF F32.eq
def L35_10.H:LHead:=⟨false,true,0,49162,49162,2014,990,0,[(PS.mk (us 1 ((pp 0)::(pp 1)::pI::pI::us 1 (pI::(rr 2)::pI::(rr 3)::pI::us 77 []))) mo0Xa)],[((Out.exit 2),(PS.mk (us 1 ((pp 0)::(pp 1)::pI::pI::us 1 (pI::(rr 2)::pI::(rr 3)::us 78 []))) mo0Xa))]⟩
def L35_10.O:Orc P:=⟨[],[],[],40⟩
def L35_10.s0:Option τ :=
 br (ltI (gI l 6) (gI l 1))
 (br (gtI (((gN l 10):Nat):Int) 0)
 (ck (!((((gN l 10):Nat):Int)==0))
 (ck (((leI 0 (Int.tmod (wr .i64 ((wr .i64 ((gI l 4)*(gI l 1)))+(gI l 6))) (((gN l 10):Nat):Int)))&&(ltI (Int.tmod (wr .i64 ((wr .i64 ((gI l 4)*(gI l 1)))+(gI l 6))) (((gN l 10):Nat):Int)) (((gN l 10):Nat):Int)))&&true)
 (ck (ltN ((Int.toNat (Int.tmod (wr .i64 ((wr .i64 ((gI l 4)*(gI l 1)))+(gI l 6))) (((gN l 10):Nat):Int)))*1) (List.length (gL l 11)))
 (ck (!((gI l 0)==0))
 (ck (((leI 0 (gI l 6))&&(ltI (gI l 6) (gN l 5)))&&true)
 (ck ((leN ((0+((Int.toNat (gI l 6))*1))+1) (List.length (gL l 15)))&&true)
 (nx 0 [.I (gI l 0),.I (gI l 1),.I (gI l 2),.N (gN l 3),.I (gI l 4),.N (gN l 5),.I (wr .i64 ((gI l 6)+1)),.I (gI l 7),.I (gI l 8),.I (gI l 9),.N (gN l 10),.L (gL l 11),.I (gI l 12),.I (gI l 13),.LL (gLL l 14),.L (List.set (gL l 15) (0+((Int.toNat (gI l 6))*1)) (Int.tmod (wr .i64 (List.getD (gL l 11) ((Int.toNat (Int.tmod (wr .i64 ((wr .i64 ((gI l 4)*(gI l 1)))+(gI l 6))) (((gN l 10):Nat):Int)))*1) 0)) (gI l 0)))])))))))
 (nx 0 [.I (gI l 0),.I (gI l 1),.I (gI l 2),.N (gN l 3),.I (gI l 4),.N (gN l 5),.I (wr .i64 ((gI l 6)+1)),.I (gI l 7),.I (gI l 8),.I (gI l 9),.N (gN l 10),.L (gL l 11),.I (gI l 12),.I (gI l 13),.LL (gLL l 14),.L (gL l 15)]))
 (ex 0 [.I (gI l 0),.I (gI l 1),.I (gI l 2),.N (gN l 3),.I (gI l 4),.N (gN l 5),.I (gI l 7),.I (gI l 8),.I (gI l 9),.N (gN l 10),.L (gL l 11),.I (gI l 12),.I (gI l 13),.LL (gLL l 14),.L (gL l 15)])
theorem L35_10.e0:LEq L35_10.O L35_10.H 0 L35_10.s0:=by intro τ next κ l;kernel_rfl
def L35_10:LStep P Cf:=LStep.mk1 (by decide) L35_10.e0
def L35_10.b:Option τ:=runE L35_10 fuel κ t l
def L35_10.E:LEnt P:=LStep.E L35_10
def L35_6.H:LHead:=⟨false,true,0,49158,49158,478,156,0,[(PS.mk (us 1 ((pp 0)::(pp 1)::pI::pI::us 1 (pI::(rr 2)::pI::us 79 []))) [(oG [(pK IntKind.u8),(pK IntKind.u8),(pK IntKind.u8),(PV2.v (PV1.sl (PC0.i IntKind.u8)))]),(oG [pI,pI,nS]),oM])],[((Out.exit 0),(PS.mk (us 2 ((pp 0)::pI::pI::us 2 ((rr 1)::us 80 []))) [(oG [pI,pI,nS]),oM]))]⟩
def L35_6.O:Orc P:=⟨[F32.E],[L35_10.E],[],40⟩
def L35_6.s0:Option τ :=
 br (ltI (gI l 4) (gI l 2))
 (F32 [.I (gI l 1)]
 (fun j A=>(sw (L35_10.b 0 [.I (gI l 0),.I (gI l 1),.I (gI l 2),.N (gN l 3),.I (gI l 4),.N (gN A 0),.I 0,.I (gI l 5),.I (gI l 6),.I (gI l 7),.N (gN l 8),.L (gL l 9),.I (gI l 10),.I (gI l 11),.LL (gLL l 12),.L (gL A 1)]
 (fun j B=>(sw (br (ltI (gI B 4) (gI B 1))
 (ck (((leI 0 (gI B 4))&&(ltI (gI B 4) (gN B 5)))&&true)
 (ck ((leN ((0+((Int.toNat (gI B 4))*1))+1) (List.length (gL B 14)))&&true)
 (ck ((eqM (gN B 5) (List.length (List.take ((gN B 5)*1) (List.drop 0 (List.set (gL B 14) (0+((Int.toNat (gI B 4))*1)) 1)))))&&true)
 (ck (((((eqM (List.length (gLL B 13)) ((gN B 3)*1))&&true)&&(eqM 1 1))&&(leN (((gN B 3)+1)*25) 1099511627776))&&true)
 (nx 0 [.I (gI B 0),.I (gI B 1),.I (gI B 2),.N ((gN B 3)+1),.I (wr .i64 ((gI B 4)+1)),.I (gI B 6),.I (gI B 7),.I (gI B 8),.N (gN B 9),.L (gL B 10),.I (gI B 11),.I (gI B 12),.LL ((gLL B 13)++(List.take 1 (List.drop 0 [(List.take ((gN B 5)*1) (List.drop 0 (List.set (gL B 14) (0+((Int.toNat (gI B 4))*1)) 1)))])))])))))
 (ck ((eqM (gN B 5) (List.length (List.take ((gN B 5)*1) (List.drop 0 (gL B 14)))))&&true)
 (ck (((((eqM (List.length (gLL B 13)) ((gN B 3)*1))&&true)&&(eqM 1 1))&&(leN (((gN B 3)+1)*25) 1099511627776))&&true)
 (nx 0 [.I (gI B 0),.I (gI B 1),.I (gI B 2),.N ((gN B 3)+1),.I (wr .i64 ((gI B 4)+1)),.I (gI B 6),.I (gI B 7),.I (gI B 8),.N (gN B 9),.L (gL B 10),.I (gI B 11),.I (gI B 12),.LL ((gLL B 13)++(List.take 1 (List.drop 0 [(List.take ((gN B 5)*1) (List.drop 0 (gL B 14)))])))]))))
 (fun _=>none)) j))
 (fun _=>none)) j))
 (ex 0 [.I (gI l 0),.I (gI l 1),.N (gN l 3),.I (gI l 10),.I (gI l 11),.LL (gLL l 12)])
theorem L35_6.e0:LEq L35_6.O L35_6.H 0 L35_6.s0:=by intro τ next κ l;kernel_rfl
def L35_6:LStep P Cf:=LStep.mk1 (by decide) L35_6.e0
def L35_6.b:Option τ:=runE L35_6 fuel κ t l
def L35_6.E:LEnt P:=LStep.E L35_6
def F29.ps:List PV2:=[pI]
def F29.sh:List PA:=[(PA.mk (PV3.v (PV2.agg [iI,iI,(r1 0)])) [cI]),(PA.mk (PV3.v (PV2.agg [iI,iI,PV1.nilS])) [])]
def F29.O:Orc P:=⟨[T76.E],[],[],40⟩
def F29:Option τ :=
 T76 [.I (gI l 0)]
 (fun j A=>(sw (k 0 [.I (gI A 0),.I (gI A 1),.N (gN A 2),.L (gL A 3)])
 (sw (k 1 [.I 0,.I 0])
 (fun _=>none))) j)
theorem F29.eq:FEq F29.O 53 F29.ps F29.sh F29:=by intro τ l κ;kernel_rfl
def F29.E:Ent P:=mkF F29.eq
def L80_3.H:LHead:=⟨false,true,0,212995,212995,398,138,0,[(PS.mk (us 1 (pI::qM::(pp 0)::us 3 ((rr 1)::pI::us 120 []))) [(oG [pI,pI,qR]),oM])],[((Out.exit 0),(PS.mk (us 1 (pI::us 1 ((pp 0)::us 3 ((rr 1)::us 121 [])))) [(oG [pI,pI,qR]),oM]))]⟩
def L80_3.O:Orc P:=⟨[],[],[],40⟩
def L80_3.s0:Option τ :=
 br (ltI (gI l 4) (gN l 1))
 (ck (((leI 0 (gI l 4))&&(ltI (gI l 4) (gN l 1)))&&true)
 (ck (ltN ((Int.toNat (gI l 4))*1) (List.length (gLL l 2)))
 (ck (((eqM (List.length (List.getD (gLL l 2) ((Int.toNat (gI l 4))*1) [])) ((List.length (List.getD (gLL l 2) ((Int.toNat (gI l 4))*1) []))*1))&&(leN ((0+(List.length (List.getD (gLL l 2) ((Int.toNat (gI l 4))*1) [])))*9) 1099511627776))&&true)
 (ck ((eqM (0+(List.length (List.getD (gLL l 2) ((Int.toNat (gI l 4))*1) []))) (List.length (List.take ((0+(List.length (List.getD (gLL l 2) ((Int.toNat (gI l 4))*1) [])))*1) (List.drop 0 ([]++(List.getD (gLL l 2) ((Int.toNat (gI l 4))*1) []))))))&&true)
 (ck (((((eqM (List.length (gLL l 9)) ((gN l 3)*1))&&true)&&(eqM 1 1))&&(leN (((gN l 3)+1)*25) 1099511627776))&&true)
 (nx 0 [.I (gI l 0),.N (gN l 1),.LL (gLL l 2),.N ((gN l 3)+1),.I (wr .i64 ((gI l 4)+1)),.I (gI l 5),.I (gI l 6),.N (gN l 7),.L (gL l 8),.LL ((gLL l 9)++(List.take 1 (List.drop 0 [(List.take ((0+(List.length (List.getD (gLL l 2) ((Int.toNat (gI l 4))*1) [])))*1) (List.drop 0 ([]++(List.getD (gLL l 2) ((Int.toNat (gI l 4))*1) []))))])))]))))))
 (ex 0 [.I (gI l 0),.N (gN l 3),.I (gI l 5),.I (gI l 6),.N (gN l 7),.L (gL l 8),.LL (gLL l 9)])
theorem L80_3.e0:LEq L80_3.O L80_3.H 0 L80_3.s0:=by intro τ next κ l;kernel_rfl
def L80_3:LStep P Cf:=LStep.mk1 (by decide) L80_3.e0
def L80_3.b:Option τ:=runE L80_3 fuel κ t l
def L80_3.E:LEnt P:=LStep.E L80_3
def L80_11.H:LHead:=⟨false,true,0,213003,213003,3722,3722,0,[(PS.mk (us 1 (pI::us 1 ((pp 0)::us 3 ((rr 1)::us 1 (pI::pI::pI::us 117 []))))) [(oG [pI,pI,qR]),oM])],[((Out.exit 4),(PS.mk (us 1 (pI::us 1 ((pp 0)::us 3 ((rr 1)::us 1 (pI::pI::pI::us 117 []))))) [(oG [pI,pI,qR]),oM]))]⟩
def L80_11.O:Orc P:=⟨[],[],[],40⟩
def L80_11.s0:Option τ :=
 br (ltI (gI l 4) (gN l 1))
 (ck (((leI 0 (gI l 4))&&(ltI (gI l 4) (gN l 1)))&&true)
 (ck (ltN (0+((Int.toNat (gI l 4))*1)) (List.length (gLL l 9)))
 (ck (((leI 0 (gI l 3))&&(ltI (gI l 3) (((List.length (List.getD (gLL l 9) (0+((Int.toNat (gI l 4))*1)) [])):Nat):Int)))&&true)
 (ck (ltN ((Int.toNat (gI l 3))*1) (List.length (List.getD (gLL l 9) (0+((Int.toNat (gI l 4))*1)) [])))
 (br ((List.getD (List.getD (gLL l 9) (0+((Int.toNat (gI l 4))*1)) []) ((Int.toNat (gI l 3))*1) 0)==0)
 (nx 0 [.I (gI l 0),.N (gN l 1),.I (gI l 2),.I (gI l 3),.I (wr .i64 ((gI l 4)+1)),.I (gI l 5),.I (gI l 6),.N (gN l 7),.L (gL l 8),.LL (gLL l 9)])
 (ex 0 [.I (gI l 0),.N (gN l 1),.I (gI l 2),.I (gI l 3),.I (gI l 4),.I (gI l 5),.I (gI l 6),.N (gN l 7),.L (gL l 8),.LL (gLL l 9)]))))))
 (ex 0 [.I (gI l 0),.N (gN l 1),.I (gI l 2),.I (gI l 3),.I (gI l 4),.I (gI l 5),.I (gI l 6),.N (gN l 7),.L (gL l 8),.LL (gLL l 9)])
theorem L80_11.e0:LEq L80_11.O L80_11.H 0 L80_11.s0:=by intro τ next κ l;kernel_rfl
def L80_11:LStep P Cf:=LStep.mk1 (by decide) L80_11.e0
def L80_11.b:Option τ:=runE L80_11 fuel κ t l
def L80_11.E:LEnt P:=LStep.E L80_11
def L45_3.H:LHead:=⟨false,true,0,372739,372739,398,128,0,[(PS.mk (us 1 (pI::qR::(pp 0)::us 3 ((rr 1)::pI::us 18 []))) [(oG [pI,pI,qR]),oI])],[((Out.exit 0),(PS.mk (us 7 ((rr 0)::us 19 [])) [oI]))]⟩
def L45_3.O:Orc P:=⟨[T89.E],[],[],40⟩
def L45_3.s0:Option τ :=
 br (ltI (gI l 4) (gN l 1))
 (ck (((leI 0 (gI l 4))&&(ltI (gI l 4) (gN l 1)))&&true)
 (ck (ltN ((Int.toNat (gI l 4))*1) (List.length (gL l 2)))
 (ck (((eqM (gN l 7) (List.length (gL l 8)))&&true)&&true)
 (T89 [.I (gI l 5),.I (gI l 6),.L (gL l 8),.I (gI l 0),.I (List.getD (gL l 2) ((Int.toNat (gI l 4))*1) 0)]
 (fun j A=>(sw (ck (((((eqM (List.length (gL l 9)) ((gN l 3)*1))&&true)&&(eqM 1 1))&&(leN (((gN l 3)+1)*9) 1099511627776))&&true)
 (nx 0 [.I (gI l 0),.N (gN l 1),.L (gL l 2),.N ((gN l 3)+1),.I (wr .i64 ((gI l 4)+1)),.I (gI l 5),.I (gI l 6),.N (gN l 7),.L (gL l 8),.L ((gL l 9)++(List.take 1 (List.drop 0 [(gI A 0)])))]))
 (fun _=>none)) j)))))
 (ex 0 [.N (gN l 3),.L (gL l 9)])
theorem L45_3.e0:LEq L45_3.O L45_3.H 0 L45_3.s0:=by intro τ next κ l;kernel_rfl
def L45_3:LStep P Cf:=LStep.mk1 (by decide) L45_3.e0
def L45_3.b:Option τ:=runE L45_3 fuel κ t l
def L45_3.E:LEnt P:=LStep.E L45_3
def F45.ps:List PV2:=[(PV2.agg [iI,iI,aI]),pI,pR]
def F45.sh:List PA:=[(PA.mk (PV3.v (rr 0)) [cI])]
def F45.O:Orc P:=⟨[],[L45_3.E],[],40⟩
def F45:Option τ :=
 L45_3.b 0 [.I (gI l 3),.N (List.length (gL l 4)),.L (gL l 4),.N 0,.I 0,.I (gI l 0),.I (gI l 1),.N (List.length (gL l 2)),.L (gL l 2),.L []]
 (fun j A=>(sw (k 0 [.N (gN A 0),.L (gL A 1)])
 (fun _=>none)) j)
theorem F45.eq:FEq F45.O 91 F45.ps F45.sh F45:=by intro τ l κ;kernel_rfl
def F45.E:Ent P:=mkF F45.eq
def L30_3.H:LHead:=⟨false,true,0,376835,376835,398,128,0,[(PS.mk (us 1 (qR::qR::(pp 0)::us 3 ((rr 1)::pI::us 21 []))) [(oG [pI,pI,qR]),oI])],[((Out.exit 0),(PS.mk (us 7 ((rr 0)::us 22 [])) [oI]))]⟩
def L30_3.O:Orc P:=⟨[T77.E],[],[],40⟩
def L30_3.s0:Option τ :=
 br (ltI (gI l 5) (gN l 0))
 (ck (((leI 0 (gI l 5))&&(ltI (gI l 5) (gN l 0)))&&true)
 (ck (ltN ((Int.toNat (gI l 5))*1) (List.length (gL l 1)))
 (ck (((leI 0 (gI l 5))&&(ltI (gI l 5) (gN l 2)))&&true)
 (ck (ltN ((Int.toNat (gI l 5))*1) (List.length (gL l 3)))
 (ck (((eqM (gN l 8) (List.length (gL l 9)))&&true)&&true)
 (T77 [.I (gI l 6),.I (gI l 7),.L (gL l 9),.I (List.getD (gL l 1) ((Int.toNat (gI l 5))*1) 0),.I (List.getD (gL l 3) ((Int.toNat (gI l 5))*1) 0)]
 (fun j A=>(sw (ck (((((eqM (List.length (gL l 10)) ((gN l 4)*1))&&true)&&(eqM 1 1))&&(leN (((gN l 4)+1)*9) 1099511627776))&&true)
 (nx 0 [.N (gN l 0),.L (gL l 1),.N (gN l 2),.L (gL l 3),.N ((gN l 4)+1),.I (wr .i64 ((gI l 5)+1)),.I (gI l 6),.I (gI l 7),.N (gN l 8),.L (gL l 9),.L ((gL l 10)++(List.take 1 (List.drop 0 [(gI A 0)])))]))
 (fun _=>none)) j)))))))
 (ex 0 [.N (gN l 4),.L (gL l 10)])
theorem L30_3.e0:LEq L30_3.O L30_3.H 0 L30_3.s0:=by intro τ next κ l;kernel_rfl
def L30_3:LStep P Cf:=LStep.mk1 (by decide) L30_3.e0
def L30_3.b:Option τ:=runE L30_3 fuel κ t l
def L30_3.E:LEnt P:=LStep.E L30_3
def F30.ps:List PV2:=[(PV2.agg [iI,iI,aI]),pR,pR]
def F30.sh:List PA:=[(PA.mk (PV3.v (rr 0)) [cI])]
def F30.O:Orc P:=⟨[],[L30_3.E],[],40⟩
def F30:Option τ :=
 L30_3.b 0 [.N (List.length (gL l 3)),.L (gL l 3),.N (List.length (gL l 4)),.L (gL l 4),.N 0,.I 0,.I (gI l 0),.I (gI l 1),.N (List.length (gL l 2)),.L (gL l 2),.L []]
 (fun j A=>(sw (k 0 [.N (gN A 0),.L (gL A 1)])
 (fun _=>none)) j)
theorem F30.eq:FEq F30.O 92 F30.ps F30.sh F30:=by intro τ l κ;kernel_rfl
def F30.E:Ent P:=mkF F30.eq
def L80_19.H:LHead:=⟨false,true,0,213011,213011,34442,1674,0,[(PS.mk (us 1 (pI::us 1 ((pp 0)::us 3 ((rr 1)::us 1 (pI::pI::us 4 (pI::us 113 [])))))) [(oG [pI,pI,qR]),oM])],[((Out.exit 6),(PS.mk (us 1 (pI::us 1 ((pp 0)::us 3 ((rr 1)::us 1 (pI::pI::us 118 []))))) [(oG [pI,pI,qR]),oM]))]⟩
def L80_19.O:Orc P:=⟨[T79.E,F45.E,F30.E],[],[],40⟩
def L80_19.s0:Option τ :=
 br (ltI (gI l 4) (gN l 1))
 (br ((gI l 4) != (gI l 2))
 (ck (((leI 0 (gI l 4))&&(ltI (gI l 4) (gN l 1)))&&true)
 (ck (ltN (0+((Int.toNat (gI l 4))*1)) (List.length (gLL l 9)))
 (ck (((leI 0 (gI l 4))&&(ltI (gI l 4) (gN l 1)))&&true)
 (ck (ltN (0+((Int.toNat (gI l 4))*1)) (List.length (gLL l 9)))
 (ck (((leI 0 (gI l 3))&&(ltI (gI l 3) (((List.length (List.getD (gLL l 9) (0+((Int.toNat (gI l 4))*1)) [])):Nat):Int)))&&true)
 (ck (ltN ((Int.toNat (gI l 3))*1) (List.length (List.getD (gLL l 9) (0+((Int.toNat (gI l 4))*1)) [])))
 (ck (((eqM (gN l 7) (List.length (gL l 8)))&&true)&&true)
 (T79 [.I (gI l 5),.I (gI l 6),.L (gL l 8),.I (List.getD (List.getD (gLL l 9) (0+((Int.toNat (gI l 4))*1)) []) ((Int.toNat (gI l 3))*1) 0)]
 (fun j A=>(sw (ck (((leI 0 (gI l 2))&&(ltI (gI l 2) (gN l 1)))&&true)
 (ck (ltN (0+((Int.toNat (gI l 2))*1)) (List.length (gLL l 9)))
 (ck (((eqM (gN l 7) (List.length (gL l 8)))&&true)&&((eqM (List.length (List.getD (gLL l 9) (0+((Int.toNat (gI l 2))*1)) [])) (List.length (List.getD (gLL l 9) (0+((Int.toNat (gI l 2))*1)) [])))&&true))
 (F45 [.I (gI l 5),.I (gI l 6),.L (gL l 8),.I (gI A 0),.L (List.getD (gLL l 9) (0+((Int.toNat (gI l 2))*1)) [])]
 (fun j B=>(sw (ck (((eqM (gN l 7) (List.length (gL l 8)))&&true)&&((eqM (List.length (List.getD (gLL l 9) (0+((Int.toNat (gI l 4))*1)) [])) (List.length (List.getD (gLL l 9) (0+((Int.toNat (gI l 4))*1)) [])))&&((eqM (gN B 0) (List.length (List.take ((gN B 0)*1) (List.drop 0 (gL B 1)))))&&true)))
 (F30 [.I (gI l 5),.I (gI l 6),.L (gL l 8),.L (List.getD (gLL l 9) (0+((Int.toNat (gI l 4))*1)) []),.L (List.take ((gN B 0)*1) (List.drop 0 (gL B 1)))]
 (fun j C=>(sw (ck (((leI 0 (gI l 4))&&(ltI (gI l 4) (gN l 1)))&&true)
 (ck ((leN ((0+((Int.toNat (gI l 4))*1))+1) (List.length (gLL l 9)))&&((eqM (gN C 0) (List.length (List.take ((gN C 0)*1) (List.drop 0 (gL C 1)))))&&true))
 (nx 0 [.I (gI l 0),.N (gN l 1),.I (gI l 2),.I (gI l 3),.I (wr .i64 ((gI l 4)+1)),.I (gI l 5),.I (gI l 6),.N (gN l 7),.L (gL l 8),.LL (List.set (gLL l 9) (0+((Int.toNat (gI l 4))*1)) (List.take ((gN C 0)*1) (List.drop 0 (gL C 1))))])))
 (fun _=>none)) j)))
 (fun _=>none)) j)))))
 (fun _=>none)) j)))))))))
 (nx 0 [.I (gI l 0),.N (gN l 1),.I (gI l 2),.I (gI l 3),.I (wr .i64 ((gI l 4)+1)),.I (gI l 5),.I (gI l 6),.N (gN l 7),.L (gL l 8),.LL (gLL l 9)]))
 (ex 0 [.I (gI l 0),.N (gN l 1),.I (gI l 2),.I (gI l 3),.I (gI l 5),.I (gI l 6),.N (gN l 7),.L (gL l 8),.LL (gLL l 9)])
theorem L80_19.e0:LEq L80_19.O L80_19.H 0 L80_19.s0:=by intro τ next κ l;kernel_rfl
def L80_19:LStep P Cf:=LStep.mk1 (by decide) L80_19.e0
def L80_19.b:Option τ:=runE L80_19 fuel κ t l
def L80_19.E:LEnt P:=LStep.E L80_19
def L80_8.H:LHead:=⟨false,true,0,213000,213000,1674,640,0,[(PS.mk (us 1 (pI::us 1 ((pp 0)::us 3 ((rr 1)::us 1 (pI::pI::us 118 []))))) [(oG [pI,pI,qR]),oM])],[((Out.exit 2),(PS.mk (us 7 ((rr 0)::us 1 (pI::us 119 []))) [oM]))]⟩
def L80_8.O:Orc P:=⟨[T111.E,F45.E],[L80_11.E,L80_19.E],[],40⟩
def L80_8.s0:Option τ :=
 br (ltI (gI l 3) (gI l 0))
 (br (ltI (gI l 2) (gN l 1))
 (L80_11.b 0 [.I (gI l 0),.N (gN l 1),.I (gI l 2),.I (gI l 3),.I (gI l 2),.I (gI l 4),.I (gI l 5),.N (gN l 6),.L (gL l 7),.LL (gLL l 8)]
 (fun j A=>(sw (br ((gI A 4)==(((gN A 1):Nat):Int))
 (nx 0 [.I (gI A 0),.N (gN A 1),.I (gI A 2),.I (wr .i64 ((gI A 3)+1)),.I (gI A 5),.I (gI A 6),.N (gN A 7),.L (gL A 8),.LL (gLL A 9)])
 (ck (((leI 0 (gI A 4))&&(ltI (gI A 4) (gN A 1)))&&true)
 (ck (ltN (0+((Int.toNat (gI A 4))*1)) (List.length (gLL A 9)))
 (ck (((leI 0 (gI A 2))&&(ltI (gI A 2) (gN A 1)))&&true)
 (ck (ltN (0+((Int.toNat (gI A 2))*1)) (List.length (gLL A 9)))
 (ck (((leI 0 (gI A 4))&&(ltI (gI A 4) (gN A 1)))&&true)
 (ck ((leN ((0+((Int.toNat (gI A 4))*1))+1) (List.length (gLL A 9)))&&((eqM (List.length (List.getD (gLL A 9) (0+((Int.toNat (gI A 2))*1)) [])) (List.length (List.getD (gLL A 9) (0+((Int.toNat (gI A 2))*1)) [])))&&true))
 (ck (((leI 0 (gI A 3))&&(ltI (gI A 3) (((List.length (List.getD (gLL A 9) (0+((Int.toNat (gI A 4))*1)) [])):Nat):Int)))&&true)
 (ck (ltN ((Int.toNat (gI A 3))*1) (List.length (List.getD (gLL A 9) (0+((Int.toNat (gI A 4))*1)) [])))
 (ck (((eqM (gN A 7) (List.length (gL A 8)))&&true)&&true)
 (T111 [.I (gI A 5),.I (gI A 6),.L (gL A 8),.I (List.getD (List.getD (gLL A 9) (0+((Int.toNat (gI A 4))*1)) []) ((Int.toNat (gI A 3))*1) 0)]
 (fun j B=>(sw (ck (((eqM (gN A 7) (List.length (gL A 8)))&&true)&&((eqM (List.length (List.getD (gLL A 9) (0+((Int.toNat (gI A 4))*1)) [])) (List.length (List.getD (gLL A 9) (0+((Int.toNat (gI A 4))*1)) [])))&&true))
 (F45 [.I (gI A 5),.I (gI A 6),.L (gL A 8),.I (gI B 0),.L (List.getD (gLL A 9) (0+((Int.toNat (gI A 4))*1)) [])]
 (fun j C=>(sw (ck (((leI 0 (gI A 2))&&(ltI (gI A 2) (gN A 1)))&&true)
 (ck ((leN ((0+((Int.toNat (gI A 2))*1))+1) (List.length (List.set (gLL A 9) (0+((Int.toNat (gI A 4))*1)) (List.getD (gLL A 9) (0+((Int.toNat (gI A 2))*1)) []))))&&((eqM (gN C 0) (List.length (List.take ((gN C 0)*1) (List.drop 0 (gL C 1)))))&&true))
 (L80_19.b 0 [.I (gI A 0),.N (gN A 1),.I (gI A 2),.I (gI A 3),.I 0,.I (gI A 5),.I (gI A 6),.N (gN A 7),.L (gL A 8),.LL (List.set (List.set (gLL A 9) (0+((Int.toNat (gI A 4))*1)) (List.getD (gLL A 9) (0+((Int.toNat (gI A 2))*1)) [])) (0+((Int.toNat (gI A 2))*1)) (List.take ((gN C 0)*1) (List.drop 0 (gL C 1))))]
 (fun j D=>(sw (nx 0 [.I (gI D 0),.N (gN D 1),.I (wr .i64 ((gI D 2)+1)),.I (wr .i64 ((gI D 3)+1)),.I (gI D 4),.I (gI D 5),.N (gN D 6),.L (gL D 7),.LL (gLL D 8)])
 (fun _=>none)) j))))
 (fun _=>none)) j)))
 (fun _=>none)) j))))))))))))
 (fun _=>none)) j))
 (ex 0 [.N (gN l 1),.I (gI l 2),.LL (gLL l 8)]))
 (ex 0 [.N (gN l 1),.I (gI l 2),.LL (gLL l 8)])
theorem L80_8.e0:LEq L80_8.O L80_8.H 0 L80_8.s0:=by intro τ next κ l;kernel_rfl
def L80_8:LStep P Cf:=LStep.mk1 (by decide) L80_8.e0
def L80_8.b:Option τ:=runE L80_8 fuel κ t l
def L80_8.E:LEnt P:=LStep.E L80_8
def F80.ps:List PV2:=[(PV2.agg [iI,iI,aI]),pI,pM]
def F80.sh:List PA:=[(PA.mk (PV3.v (rr 0)) [cM]),(PA.mk (PV3.v (PV2.v (PV1.sl PC0.e))) [])]
def F80.O:Orc P:=⟨[],[L80_3.E,L80_8.E],[],40⟩
def F80:Option τ :=
 L80_3.b 0 [.I (gI l 3),.N (List.length (gLL l 4)),.LL (gLL l 4),.N 0,.I 0,.I (gI l 0),.I (gI l 1),.N (List.length (gL l 2)),.L (gL l 2),.LL []]
 (fun j A=>(sw (L80_8.b 0 [.I (gI A 0),.N (gN A 1),.I 0,.I 0,.I (gI A 2),.I (gI A 3),.N (gN A 4),.L (gL A 5),.LL (gLL A 6)]
 (fun j B=>(sw (ck (((((leI 0 (gI B 1))&&(leI (gI B 1) (gI B 1)))&&(leI (gI B 1) (gN B 0)))&&true)&&true)
 (br (ltI 0 (gI B 1))
 (k 0 [.N ((Int.toNat (gI B 1))-0),.LL (gLL B 2)])
 (k 1 [.N 0])))
 (fun _=>none)) j))
 (fun _=>none)) j)
theorem F80.eq:FEq F80.O 52 F80.ps F80.sh F80:=by intro τ l κ;kernel_rfl
def F80.E:Ent P:=mkF F80.eq
def F35.ps:List PV2:=[pRaw13]
def F35.sh:List PA:=[(PA.mk (PV3.v (PV2.agg [iI,iI,(r1 0)])) [cM]),(PA.mk (PV3.v (PV2.agg [iI,iI,(PV1.sl PC0.e)])) [])]
def F35.O:Orc P:=⟨[F29.E,F80.E],[L35_6.E],[],40⟩
def F35:Option τ :=
 ck (((leI 0 (Int.tmod (gI l 0) 6))&&(ltI (Int.tmod (gI l 0) 6) 6))&&true)
 (ck (ltN (0+((Int.toNat (Int.tmod (gI l 0) 6))*1)) 6)
 (ck (((leI 0 (Int.tmod (gI l 0) 6))&&(ltI (Int.tmod (gI l 0) 6) 6))&&true)
 (ck (ltN (0+((Int.toNat (Int.tmod (gI l 0) 6))*1)) 6)
 (ck (!((wr .i64 ((List.getD [8,5,4,3,2,2] (0+((Int.toNat (Int.tmod (gI l 0) 6))*1)) 0)+1))==0))
 (L35_6.b 0 [.I (List.getD [2,3,4,5,7,8] (0+((Int.toNat (Int.tmod (gI l 0) 6))*1)) 0),.I (wr .i64 (1+(wr .i64 (Int.tmod (gI l 1) 10)))),.I (Int.tmod (wr .i64 (gI l 2)) (wr .i64 ((List.getD [8,5,4,3,2,2] (0+((Int.toNat (Int.tmod (gI l 0) 6))*1)) 0)+1))),.N 0,.I 0,.I (gI l 0),.I (gI l 1),.I (gI l 2),.N (List.length (gL l 3)),.L (gL l 3),.I 0,.I 0,.LL []]
 (fun j A=>(sw (F29 [.I (gI A 0)]
 (fun j B=>(sw (ck (((eqM (gN B 2) (List.length (List.take ((gN B 2)*1) (List.drop 0 (gL B 3)))))&&true)&&((eqM (gN A 2) (List.length (List.take ((gN A 2)*1) (List.drop 0 (gLL A 5)))))&&true))
 (F80 [.I (gI B 0),.I (gI B 1),.L (List.take ((gN B 2)*1) (List.drop 0 (gL B 3))),.I (gI A 1),.LL (List.take ((gN A 2)*1) (List.drop 0 (gLL A 5)))]
 (fun j C=>(sw (k 0 [.I (gI A 0),.I (gI A 1),.N (gN C 0),.LL (gLL C 1)])
 (sw (k 1 [.I (gI A 0),.I (gI A 1),.N (gN C 0)])
 (fun _=>none))) j)))
 (sw (ck ((eqM (gN A 2) (List.length (List.take ((gN A 2)*1) (List.drop 0 (gLL A 5)))))&&true)
 (F80 [.I (gI B 0),.I (gI B 1),.L [],.I (gI A 1),.LL (List.take ((gN A 2)*1) (List.drop 0 (gLL A 5)))]
 (fun j C=>(sw (k 0 [.I (gI A 0),.I (gI A 1),.N (gN C 0),.LL (gLL C 1)])
 (sw (k 1 [.I (gI A 0),.I (gI A 1),.N (gN C 0)])
 (fun _=>none))) j)))
 (fun _=>none))) j))
 (fun _=>none)) j))))))
theorem F35.eq:FEq F35.O 12 F35.ps F35.sh F35:=by intro τ l κ;kernel_rfl
def F35.E:Ent P:=mkF F35.eq
def L61_3.H:LHead:=⟨false,true,0,434179,434179,26,8,0,[(PS.mk (us 1 ((pp 0)::us 1 (pI::pI::us 13 []))) [(oG [pI,pI,qM])])],[((Out.exit 0),(PS.mk (us 3 (pI::us 14 [])) []))]⟩
def L61_3.O:Orc P:=⟨[],[],[],40⟩
def L61_3.s0:Option τ :=
 br (ltI (gI l 1) (gN l 4))
 (nx 0 [.I (min (wr .i64 ((gI l 0)*(gI l 2))) 4097),.I (wr .i64 ((gI l 1)+1)),.I (gI l 2),.I (gI l 3),.N (gN l 4),.LL (gLL l 5)])
 (ex 0 [.I (gI l 0)])
theorem L61_3.e0:LEq L61_3.O L61_3.H 0 L61_3.s0:=by intro τ next κ l;kernel_rfl
def L61_3:LStep P Cf:=LStep.mk1 (by decide) L61_3.e0
def L61_3.b:Option τ:=runE L61_3 fuel κ t l
def L61_3.E:LEnt P:=LStep.E L61_3
def F61.ps:List PV2:=[(PV2.agg [iI,iI,aM])]
def F61.sh:List PA:=[(PA.mk (PV3.v pI) [])]
def F61.O:Orc P:=⟨[],[L61_3.E],[],40⟩
def F61:Option τ :=
 L61_3.b 0 [.I 1,.I 0,.I (gI l 0),.I (gI l 1),.N (List.length (gLL l 2)),.LL (gLL l 2)]
 (fun j A=>(sw (k 0 [.I (gI A 0)])
 (fun _=>none)) j)
theorem F61.eq:FEq F61.O 106 F61.ps F61.sh F61:=by intro τ l κ;kernel_rfl
def F61.E:Ent P:=mkF F61.eq
def L106_3.H:LHead:=⟨false,true,0,442371,442371,102,32,0,[(PS.mk (us 1 (pI::(pp 0)::us 2 ((rr 1)::pI::us 23 []))) [(oG [pI,pI,qM]),oI])],[((Out.exit 0),(PS.mk (us 5 ((rr 0)::us 24 [])) [oI]))]⟩
def L106_3.O:Orc P:=⟨[],[],[],40⟩
def L106_3.s0:Option τ :=
 br (geI (gI l 2) 0)
 (ck (!((gI l 3)==0))
 (ck (((leI 0 (gI l 2))&&(ltI (gI l 2) (gN l 1)))&&true)
 (ck ((leN ((0+((Int.toNat (gI l 2))*1))+1) (List.length (gL l 7)))&&true)
 (ck (!((gI l 3)==0))
 (nx 0 [.I (wr .i64 (Int.tdiv (gI l 0) (gI l 3))),.N (gN l 1),.I (wr .i64 ((gI l 2)-1)),.I (gI l 3),.I (gI l 4),.N (gN l 5),.LL (gLL l 6),.L (List.set (gL l 7) (0+((Int.toNat (gI l 2))*1)) (Int.tmod (gI l 0) (gI l 3)))])))))
 (ex 0 [.N (gN l 1),.L (gL l 7)])
theorem L106_3.e0:LEq L106_3.O L106_3.H 0 L106_3.s0:=by intro τ next κ l;kernel_rfl
def L106_3:LStep P Cf:=LStep.mk1 (by decide) L106_3.e0
def L106_3.b:Option τ:=runE L106_3 fuel κ t l
def L106_3.E:LEnt P:=LStep.E L106_3
def F106.ps:List PV2:=[(PV2.agg [iI,iI,aM]),pI]
def F106.sh:List PA:=[(PA.mk (PV3.v (rr 0)) [cI])]
def F106.O:Orc P:=⟨[],[L106_3.E],[],40⟩
def F106:Option τ :=
 ck (((leI 0 (List.length (gLL l 2)))&&(leI (((List.length (gLL l 2)):Nat):Int) (((List.length (gLL l 2)):Nat):Int)))&&(leI ((((List.length (gLL l 2)):Nat):Int)*9) 1099511627776))
 (L106_3.b 0 [.I (gI l 3),.N (Int.toNat (((List.length (gLL l 2)):Nat):Int)),.I (wr .i64 ((((Int.toNat (((List.length (gLL l 2)):Nat):Int)):Nat):Int)-1)),.I (gI l 0),.I (gI l 1),.N (List.length (gLL l 2)),.LL (gLL l 2),.L (List.replicate (Int.toNat (((List.length (gLL l 2)):Nat):Int)) (0:Int))]
 (fun j A=>(sw (k 0 [.N (gN A 0),.L (gL A 1)])
 (fun _=>none)) j))
theorem F106.eq:FEq F106.O 108 F106.ps F106.sh F106:=by intro τ l κ;kernel_rfl
def F106.E:Ent P:=mkF F106.eq
def L96_3.H:LHead:=⟨false,true,0,438275,438275,230,64,0,[(PS.mk (us 1 (qR::(pp 0)::us 2 ((pp 1)::(rr 2)::pI::us 27 []))) [(oG [pI,pI,qM]),(oG [pI,pI,(rr 3)]),oI,oI])],[((Out.exit 0),(PS.mk (us 6 ((rr 0)::us 28 [])) [oI]))]⟩
def L96_3.O:Orc P:=⟨[F45.E,F30.E],[],[],40⟩
def L96_3.s0:Option τ :=
 br (ltI (gI l 3) (gN l 0))
 (ck (((leI 0 (gI l 3))&&(ltI (gI l 3) (gN l 0)))&&true)
 (ck (ltN ((Int.toNat (gI l 3))*1) (List.length (gL l 1)))
 (ck (((leI 0 (gI l 3))&&(ltI (gI l 3) (gN l 6)))&&true)
 (ck (ltN ((Int.toNat (gI l 3))*1) (List.length (gLL l 7)))
 (ck (((eqM (gN l 10) (List.length (List.take ((gN l 10)*1) (List.drop 0 (gL l 12)))))&&true)&&((eqM (List.length (List.getD (gLL l 7) ((Int.toNat (gI l 3))*1) [])) (List.length (List.getD (gLL l 7) ((Int.toNat (gI l 3))*1) [])))&&true))
 (F45 [.I (gI l 8),.I (gI l 9),.L (List.take ((gN l 10)*1) (List.drop 0 (gL l 12))),.I (List.getD (gL l 1) ((Int.toNat (gI l 3))*1) 0),.L (List.getD (gLL l 7) ((Int.toNat (gI l 3))*1) [])]
 (fun j A=>(sw (ck (((eqM (gN l 10) (List.length (List.take ((gN l 10)*1) (List.drop 0 (gL l 12)))))&&true)&&((eqM (gN l 2) (List.length (List.take ((gN l 2)*1) (List.drop 0 (gL l 11)))))&&((eqM (gN A 0) (List.length (List.take ((gN A 0)*1) (List.drop 0 (gL A 1)))))&&true)))
 (F30 [.I (gI l 8),.I (gI l 9),.L (List.take ((gN l 10)*1) (List.drop 0 (gL l 12))),.L (List.take ((gN l 2)*1) (List.drop 0 (gL l 11))),.L (List.take ((gN A 0)*1) (List.drop 0 (gL A 1)))]
 (fun j B=>(sw (nx 0 [.N (gN l 0),.L (gL l 1),.N (gN B 0),.I (wr .i64 ((gI l 3)+1)),.I (gI l 4),.I (gI l 5),.N (gN l 6),.LL (gLL l 7),.I (gI l 8),.I (gI l 9),.N (gN l 10),.L (gL B 1),.L (gL l 12)])
 (fun _=>none)) j)))
 (fun _=>none)) j)))))))
 (ex 0 [.N (gN l 2),.L (gL l 11)])
theorem L96_3.e0:LEq L96_3.O L96_3.H 0 L96_3.s0:=by intro τ next κ l;kernel_rfl
def L96_3:LStep P Cf:=LStep.mk1 (by decide) L96_3.e0
def L96_3.b:Option τ:=runE L96_3 fuel κ t l
def L96_3.E:LEnt P:=LStep.E L96_3
def L96_3_1.H:LHead:=⟨false,true,0,438275,438275,230,64,0,[(PS.mk (us 1 (qR::(pp 0)::us 2 ((pp 1)::(rr 2)::pI::us 27 []))) [(oG [pI,pI,qM]),(oG [pI,pI,nS]),oI])],[((Out.exit 0),(PS.mk (us 6 ((rr 0)::us 28 [])) [oI]))]⟩
def L96_3_1.O:Orc P:=⟨[F45.E,F30.E],[],[],40⟩
def L96_3_1.s0:Option τ :=
 br (ltI (gI l 3) (gN l 0))
 (ck (((leI 0 (gI l 3))&&(ltI (gI l 3) (gN l 0)))&&true)
 (ck (ltN ((Int.toNat (gI l 3))*1) (List.length (gL l 1)))
 (ck (((leI 0 (gI l 3))&&(ltI (gI l 3) (gN l 6)))&&true)
 (ck (ltN ((Int.toNat (gI l 3))*1) (List.length (gLL l 7)))
 (ck ((eqM (List.length (List.getD (gLL l 7) ((Int.toNat (gI l 3))*1) [])) (List.length (List.getD (gLL l 7) ((Int.toNat (gI l 3))*1) [])))&&true)
 (F45 [.I (gI l 8),.I (gI l 9),.L [],.I (List.getD (gL l 1) ((Int.toNat (gI l 3))*1) 0),.L (List.getD (gLL l 7) ((Int.toNat (gI l 3))*1) [])]
 (fun j A=>(sw (ck ((eqM (gN l 2) (List.length (List.take ((gN l 2)*1) (List.drop 0 (gL l 10)))))&&((eqM (gN A 0) (List.length (List.take ((gN A 0)*1) (List.drop 0 (gL A 1)))))&&true))
 (F30 [.I (gI l 8),.I (gI l 9),.L [],.L (List.take ((gN l 2)*1) (List.drop 0 (gL l 10))),.L (List.take ((gN A 0)*1) (List.drop 0 (gL A 1)))]
 (fun j B=>(sw (nx 0 [.N (gN l 0),.L (gL l 1),.N (gN B 0),.I (wr .i64 ((gI l 3)+1)),.I (gI l 4),.I (gI l 5),.N (gN l 6),.LL (gLL l 7),.I (gI l 8),.I (gI l 9),.L (gL B 1)])
 (fun _=>none)) j)))
 (fun _=>none)) j)))))))
 (ex 0 [.N (gN l 2),.L (gL l 10)])
theorem L96_3_1.e0:LEq L96_3_1.O L96_3_1.H 0 L96_3_1.s0:=by intro τ next κ l;kernel_rfl
def L96_3_1:LStep P Cf:=LStep.mk1 (by decide) L96_3_1.e0
def L96_3_1.b:Option τ:=runE L96_3_1 fuel κ t l
def L96_3_1.E:LEnt P:=LStep.E L96_3_1
def F96.ps:List PV2:=[(PV2.agg [iI,iI,aM]),pR]
def F96.sh:List PA:=[(PA.mk (PV3.v (rr 0)) [cI])]
def F96.O:Orc P:=⟨[F29.E,F32.E],[L96_3.E,L96_3_1.E],[],40⟩
def F96:Option τ :=
 F29 [.I (gI l 0)]
 (fun j A=>(sw (F32 [.I (gI l 1)]
 (fun j B=>(sw (L96_3.b 0 [.N (List.length (gL l 3)),.L (gL l 3),.N (gN B 0),.I 0,.I (gI l 0),.I (gI l 1),.N (List.length (gLL l 2)),.LL (gLL l 2),.I (gI A 0),.I (gI A 1),.N (gN A 2),.L (gL B 1),.L (gL A 3)]
 (fun j C=>(sw (k 0 [.N (gN C 0),.L (gL C 1)])
 (fun _=>none)) j))
 (fun _=>none)) j))
 (sw (F32 [.I (gI l 1)]
 (fun j B=>(sw (L96_3_1.b 0 [.N (List.length (gL l 3)),.L (gL l 3),.N (gN B 0),.I 0,.I (gI l 0),.I (gI l 1),.N (List.length (gLL l 2)),.LL (gLL l 2),.I (gI A 0),.I (gI A 1),.L (gL B 1)]
 (fun j C=>(sw (k 0 [.N (gN C 0),.L (gL C 1)])
 (fun _=>none)) j))
 (fun _=>none)) j))
 (fun _=>none))) j)
theorem F96.eq:FEq F96.O 107 F96.ps F96.sh F96:=by intro τ l κ;kernel_rfl
def F96.E:Ent P:=mkF F96.eq
def L74_5.H:LHead:=⟨false,true,0,274437,274437,50,16,0,[(PS.mk (us 1 ((pp 0)::us 2 ((rr 1)::pI::us 19 []))) [(oG [pI,pI,qM]),oM])],[((Out.exit 0),(PS.mk (us 4 ((rr 0)::us 20 [])) [oM]))]⟩
def L74_5.O:Orc P:=⟨[F61.E,F106.E,F96.E],[],[],40⟩
def L74_5.s0:Option τ :=
 ck (((eqM (gN l 4) (List.length (gLL l 5)))&&true)&&true)
 (F61 [.I (gI l 2),.I (gI l 3),.LL (gLL l 5)]
 (fun j A=>(sw (br (ltI (gI l 1) (gI A 0))
 (ck (((eqM (gN l 4) (List.length (gLL l 5)))&&true)&&true)
 (F106 [.I (gI l 2),.I (gI l 3),.LL (gLL l 5),.I (gI l 1)]
 (fun j B=>(sw (ck (((eqM (gN l 4) (List.length (gLL l 5)))&&true)&&((eqM (gN B 0) (List.length (List.take ((gN B 0)*1) (List.drop 0 (gL B 1)))))&&true))
 (F96 [.I (gI l 2),.I (gI l 3),.LL (gLL l 5),.L (List.take ((gN B 0)*1) (List.drop 0 (gL B 1)))]
 (fun j C=>(sw (ck ((eqM (gN C 0) (List.length (List.take ((gN C 0)*1) (List.drop 0 (gL C 1)))))&&true)
 (ck (((((eqM (List.length (gLL l 6)) ((gN l 0)*1))&&true)&&(eqM 1 1))&&(leN (((gN l 0)+1)*25) 1099511627776))&&true)
 (nx 0 [.N ((gN l 0)+1),.I (wr .i64 ((gI l 1)+1)),.I (gI l 2),.I (gI l 3),.N (gN l 4),.LL (gLL l 5),.LL ((gLL l 6)++(List.take 1 (List.drop 0 [(List.take ((gN C 0)*1) (List.drop 0 (gL C 1)))])))])))
 (fun _=>none)) j)))
 (fun _=>none)) j)))
 (ex 0 [.N (gN l 0),.LL (gLL l 6)]))
 (fun _=>none)) j))
theorem L74_5.e0:LEq L74_5.O L74_5.H 0 L74_5.s0:=by intro τ next κ l;kernel_rfl
def L74_5:LStep P Cf:=LStep.mk1 (by decide) L74_5.e0
def L74_5.b:Option τ:=runE L74_5 fuel κ t l
def L74_5.E:LEnt P:=LStep.E L74_5
def F74.ps:List PV2:=[(PV2.agg [iI,iI,aM])]
def F74.sh:List PA:=[(PA.mk (PV3.tup [nS,(pC 2)]) []),(PA.mk (PV3.tup [(rr 0),(pC 0)]) [cM])]
def F74.O:Orc P:=⟨[F61.E],[L74_5.E],[],40⟩
def F74:Option τ :=
 ck (((eqM (List.length (gLL l 2)) (List.length (gLL l 2)))&&true)&&true)
 (F61 [.I (gI l 0),.I (gI l 1),.LL (gLL l 2)]
 (fun j A=>(sw (br (gtI (gI A 0) 4096)
 (k 0 [])
 (L74_5.b 0 [.N 0,.I 0,.I (gI l 0),.I (gI l 1),.N (List.length (gLL l 2)),.LL (gLL l 2),.LL []]
 (fun j B=>(sw (k 1 [.N (gN B 0),.LL (gLL B 1)])
 (fun _=>none)) j)))
 (fun _=>none)) j))
theorem F74.eq:FEq F74.O 67 F74.ps F74.sh F74:=by intro τ l κ;kernel_rfl
def F74.E:Ent P:=mkF F74.eq
def F25.ps:List PV2:=[pCode]
def F25.sh:List PA:=[(PA.mk (PV3.v nS) []),(PA.mk (PV3.v (rr 0)) [cM])]
def F25.O:Orc P:=⟨[F74.E],[],[],40⟩
def F25:Option τ :=
 ck (((eqM (List.length (gLL l 2)) (List.length (gLL l 2)))&&true)&&true)
 (F74 [.I (gI l 0),.I (gI l 1),.LL (gLL l 2)]
 (fun j A=>(sw (k 0 [])
 (sw (k 1 [.N (gN A 0),.LL (gLL A 1)])
 (fun _=>none))) j))
theorem F25.eq:FEq F25.O 26 F25.ps F25.sh F25:=by intro τ l κ;kernel_rfl
def F25.E:Ent P:=mkF F25.eq
end
end Go.Proofs.YticbdgmcofjkeaaGreat.Ai
namespace Go.Proofs.YticbdgmcofjkeaaGreat.Ma
def Wd (q n:Nat) (v:List Int):Prop:=v.length=n∧∀ j,j<n→0≤v.getD j 0∧v.getD j 0<q
def vadd (add:Int→Int→Int) (a b:List Int):List Int:=List.zipWith add a b
def vmul (mul:Int→Int→Int) (c:Int) (a:List Int):List Int:=a.map (mul c)
def ent (m:List (List Int)) (i j:Nat):Int:=(m.getD i []).getD j 0
theorem vadd_len {add:Int→Int→Int} {a b:List Int} (h:a.length=b.length):(vadd add a b).length=a.length:=by simp [vadd,h]
theorem vadd_get {add:Int→Int→Int} {a b:List Int} (h:a.length=b.length) {j:Nat} (hj:j<a.length):(vadd add a b).getD j 0=add (a.getD j 0) (b.getD j 0):=by
 have hb:j<b.length:=h▸hj
 have hz:j<(vadd add a b).length:=by rw [vadd_len h];exact hj
 rw [List.getD_eq_getElem?_getD,List.getElem?_eq_getElem hz,List.getD_eq_getElem?_getD,List.getElem?_eq_getElem hj,List.getD_eq_getElem?_getD,List.getElem?_eq_getElem hb]
 simp [vadd]
theorem vmul_len {mul:Int→Int→Int} {c:Int} {a:List Int}:(vmul mul c a).length=a.length:=by simp [vmul]
theorem vmul_get {mul:Int→Int→Int} {c:Int} {a:List Int} {j:Nat} (hj:j<a.length):(vmul mul c a).getD j 0=mul c (a.getD j 0):=by
 simp [vmul,List.getD_eq_getElem?_getD,hj]
theorem ext_getD {a b:List Int} (h:a.length=b.length) (he:∀ j,j<a.length→a.getD j 0=b.getD j 0):a=b:=by
 refine List.ext_getElem h fun j h1 h2=>?_
 have:=he j h1
 simpa [List.getD_eq_getElem?_getD,h1,h2] using this
theorem ext_rows {a b:List (List Int)} (h:a.length=b.length) (he:∀ j,j<a.length→a.getD j []=b.getD j []):a=b:=by
 refine List.ext_getElem h fun j h1 h2=>?_
 have:=he j h1
 simpa [List.getD_eq_getElem?_getD,h1,h2] using this
theorem getD_set_row {m:List (List Int)} {i j:Nat} {x:List Int} (hi:i<m.length):(m.set i x).getD j []=if i=j then x else m.getD j []:=by
 simp only [List.getD_eq_getElem?_getD,List.getElem?_set]
 by_cases h:i=j
 ·subst h;simp [hi]
 ·simp [h]
section
variable {q:Nat} {add mul:Int→Int→Int} {neg inv:Int→Int}
theorem Wd.vadd (F:Fld q add mul neg inv) {n:Nat} {a b:List Int} (ha:Wd q n a) (hb:Wd q n b):Wd q n (vadd add a b):=by
 have h:a.length=b.length:=ha.1.trans hb.1.symm
 refine ⟨(vadd_len h).trans ha.1,fun j hj=>?_⟩
 rw [vadd_get h (by rw [ha.1];exact hj)]
 exact F.add_in _ _ (ha.2 j hj).1 (ha.2 j hj).2 (hb.2 j hj).1 (hb.2 j hj).2
theorem Wd.vmul (F:Fld q add mul neg inv) {n:Nat} {c:Int} {a:List Int} (h0:0≤c) (h1:c<q) (ha:Wd q n a):Wd q n (vmul mul c a):=by
 refine ⟨vmul_len.trans ha.1,fun j hj=>?_⟩
 rw [vmul_get (by rw [ha.1];exact hj)]
 exact F.mul_in _ _ h0 h1 (ha.2 j hj).1 (ha.2 j hj).2
end
def findp (m:List (List Int)) (c:Nat):Nat→Nat→Nat
 | 0,p=>p
 | f+1,p=>if p<m.length then (if ent m p c=0 then findp m c f (p+1) else p) else p
def elim (add mul:Int→Int→Int) (neg:Int→Int) (m:List (List Int)) (r c:Nat):List (List Int) :=
 (List.range m.length).map fun k=>if k=r then m.getD k [] else vadd add (m.getD k []) (vmul mul (neg (ent m k c)) (m.getD r []))
def lift (mul:Int→Int→Int) (inv:Int→Int) (m:List (List Int)) (r p c:Nat):List (List Int):=(m.set p (m.getD r [])).set r (vmul mul (inv (ent m p c)) (m.getD p []))
def red (add mul:Int→Int→Int) (neg inv:Int→Int):Nat→Nat→Nat→List (List Int)→List (List Int)×Nat
 | 0,c,r,m=>(m,r)
 | f+1,c,r,m=>if r<m.length then (if findp m c (m.length-r) r=m.length then red add mul neg inv f (c+1) r m
   else red add mul neg inv f (c+1) (r+1) (elim add mul neg (lift mul inv m r (findp m c (m.length-r) r) c) r c)) else (m,r)
def reduce (add mul:Int→Int→Int) (neg inv:Int→Int) (n:Nat) (m:List (List Int)):List (List Int):=(red add mul neg inv n 0 0 m).1.take (red add mul neg inv n 0 0 m).2
theorem findp_spec (m:List (List Int)) (c:Nat):∀ (f p:Nat),p≤m.length→m.length≤f+p →
  p≤findp m c f p∧findp m c f p≤m.length∧(∀ k,p≤k→k<findp m c f p→ent m k c=0)∧(findp m c f p<m.length→ent m (findp m c f p) c≠0)
 | 0,p,h1,h2=>⟨Nat.le_refl _,h1,fun k a b=>by unfold findp at b;omega,fun h=>by unfold findp at h;omega⟩
 | f+1,p,h1,h2=>by
  unfold findp
  by_cases hp:p<m.length
  ·rw [if_pos hp]
   by_cases he:ent m p c=0
   ·rw [if_pos he]
    obtain ⟨a,b,d,e⟩:=findp_spec m c f (p+1) (by omega) (by omega)
    refine ⟨by omega,b,fun k hk1 hk2=>?_,e⟩
    by_cases hkp:k=p
    ·rw [hkp];exact he
    ·exact d k (by omega) hk2
   ·rw [if_neg he]
    exact ⟨Nat.le_refl _,by omega,fun k a b=>by omega,fun _=>he⟩
  ·rw [if_neg hp]
   exact ⟨Nat.le_refl _,h1,fun k a b=>by omega,fun h=>absurd h hp⟩
structure Rref (q n:Nat) (G:List (List Int)) (piv:Nat→Nat):Prop where
 wd:∀ i,i<G.length→Wd q n (G.getD i [])
 lt:∀ i,i<G.length→piv i<n
 mono:∀ i j,i<j→j<G.length→piv i<piv j
 one:∀ i,i<G.length→ent G i (piv i)=1
 zero:∀ i k,i<G.length→k<G.length→k≠i→ent G k (piv i)=0
 lead:∀ i j,i<G.length→j<piv i→ent G i j=0
structure Way (q n:Nat) (c r:Nat) (m:List (List Int)) (piv:Nat→Nat):Prop where
 wd:∀ i,i<m.length→Wd q n (m.getD i [])
 rl:r≤m.length
 lt:∀ i,i<r→piv i<c
 mono:∀ i j,i<j→j<r→piv i<piv j
 one:∀ i,i<r→ent m i (piv i)=1
 zero:∀ i k,i<r→k<m.length→k≠i→ent m k (piv i)=0
 lead:∀ i j,i<r→j<piv i→ent m i j=0
 rest:∀ k j,r≤k→k<m.length→j<c→ent m k j=0
section
variable {q:Nat} {add mul:Int→Int→Int} {neg inv:Int→Int} {n:Nat}
theorem Way.pass {c r:Nat} {m:List (List Int)} {piv:Nat→Nat} (W:Way q n c r m piv) (h:∀ k,r≤k→k<m.length→ent m k c=0):Way q n (c+1) r m piv :=
 ⟨W.wd,W.rl,fun i hi=>Nat.lt_succ_of_lt (W.lt i hi),W.mono,W.one,W.zero,W.lead,fun k j hk hl hj=>by
  rcases Nat.lt_succ_iff_lt_or_eq.1 hj with h1 | h1
  ·exact W.rest k j hk hl h1
  ·rw [h1];exact h k hk hl⟩
theorem lift_len {m:List (List Int)} {r p c:Nat}:(lift mul inv m r p c).length=m.length:=by simp [lift]
theorem lift_get {m:List (List Int)} {r p c k:Nat} (hr:r<m.length) (hp:p<m.length) :
  (lift mul inv m r p c).getD k []=if k=r then vmul mul (inv (ent m p c)) (m.getD p []) else if k=p then m.getD r [] else m.getD k []:=by
 unfold lift
 rw [getD_set_row (by simpa using hr),getD_set_row hp]
 by_cases h1:k=r
 ·subst h1;simp
 ·rw [if_neg (fun e=>h1 e.symm),if_neg h1]
  by_cases h2:k=p
  ·subst h2;simp
  ·rw [if_neg (fun e=>h2 e.symm),if_neg h2]
theorem elim_len {m:List (List Int)} {r c:Nat}:(elim add mul neg m r c).length=m.length:=by simp [elim]
theorem elim_get {m:List (List Int)} {r c k:Nat} (hk:k<m.length) :
  (elim add mul neg m r c).getD k []=if k=r then m.getD k [] else vadd add (m.getD k []) (vmul mul (neg (ent m k c)) (m.getD r [])):=by
 simp [elim,List.getD_eq_getElem?_getD,hk]
theorem Way.step (F:Fld q add mul neg inv) {c r p:Nat} {m:List (List Int)} {piv:Nat→Nat} (W:Way q n c r m piv) (hc:c<n) (hr:r<m.length) (h1:r≤p) (h2:p<m.length) (h3:ent m p c≠0) :
  Way q n (c+1) (r+1) (elim add mul neg (lift mul inv m r p c) r c) fun i=>if i=r then c else piv i:=by
 have hone:(1:Int)<q:=by exact_mod_cast F.one_lt
 have wp:=W.wd p h2
 have hin:∀ k j,k<m.length→j<n→0≤ent m k j∧ent m k j<q:=fun k j hk hj=>(W.wd k hk).2 j hj
 have hinv:=F.inv_in (ent m p c) (hin p c h2 hc).1 (hin p c h2 hc).2
 -- the rows of the lifted matrix
 let m1:=lift mul inv m r p c
 have l1:m1.length=m.length:=lift_len
 have g1:∀ k,m1.getD k []=if k=r then vmul mul (inv (ent m p c)) (m.getD p []) else if k=p then m.getD r [] else m.getD k []:=fun k=>lift_get hr h2
 have w1:∀ k,k<m1.length→Wd q n (m1.getD k []):=fun k hk=>by
  rw [g1]
  rw [l1] at hk
  split
  ·exact Wd.vmul F hinv.1 hinv.2 wp
  ·split
   ·exact W.wd r hr
   ·exact W.wd k hk
 have e1r:∀ j,j<n→ent m1 r j=mul (inv (ent m p c)) (ent m p j):=fun j hj=>by
  unfold ent
  rw [g1,if_pos rfl,vmul_get (by rw [wp.1];exact hj)]
  rfl
 -- its elements before column c
 have before:∀ j,j<c→ent m1 r j=0:=fun j hj=>by
  rw [e1r j (by omega),W.rest p j h1 h2 hj,F.mul_comm _ _ hinv.1 hinv.2 (by omega) (by omega),F.zero_mul _ hinv.1 hinv.2]
 have at1:ent m1 r c=1:=by rw [e1r c hc];exact F.mul_inv _ (hin p c h2 hc).1 (hin p c h2 hc).2 h3
 have same:∀ k,k≠r→∃ k',k'<m.length∧(k<r→k'=k)∧(r≤k→r≤k')∧(k<m.length→m1.getD k []=m.getD k' []):=fun k hk=>by
  by_cases hkl:k<m.length
  ·by_cases hkp:k=p
   ·exact ⟨r,hr,fun h=>by omega,fun _=>Nat.le_refl _,fun _=>by rw [g1,if_neg hk,if_pos hkp]⟩
   ·exact ⟨k,hkl,fun _=>rfl,fun h=>h,fun _=>by rw [g1,if_neg hk,if_neg hkp]⟩
  ·exact ⟨r,hr,fun h=>by omega,fun _=>Nat.le_refl _,fun h=>absurd h hkl⟩
 let m2:=elim add mul neg m1 r c
 have l2:m2.length=m.length:=elim_len.trans l1
 have g2:∀ k,k<m.length→m2.getD k []=if k=r then m1.getD k [] else vadd add (m1.getD k []) (vmul mul (neg (ent m1 k c)) (m1.getD r [])):=fun k hk=>elim_get (by rw [l1];exact hk)
 have hw1r:=w1 r (by rw [l1];exact hr)
 have negin:∀ k,k<m.length→0≤neg (ent m1 k c)∧neg (ent m1 k c)<q:=fun k hk=>F.neg_in _ ((w1 k (by rw [l1];exact hk)).2 c hc).1 ((w1 k (by rw [l1];exact hk)).2 c hc).2
 have w2:∀ k,k<m2.length→Wd q n (m2.getD k []):=fun k hk=>by
  rw [l2] at hk
  rw [g2 k hk]
  split
  ·exact w1 k (by rw [l1];exact hk)
  ·exact Wd.vadd F (w1 k (by rw [l1];exact hk)) (Wd.vmul F (negin k hk).1 (negin k hk).2 hw1r)
 have e2r:∀ j,ent m2 r j=ent m1 r j:=fun j=>by unfold ent;rw [g2 r hr,if_pos rfl]
 have e2:∀ k j,k<m.length→k≠r→j<n→ent m2 k j=add (ent m1 k j) (mul (neg (ent m1 k c)) (ent m1 r j)):=fun k j hk hkr hj=>by
  have hwk:=w1 k (by rw [l1];exact hk)
  unfold ent
  rw [g2 k hk,if_neg hkr,vadd_get (by rw [vmul_len,hwk.1,hw1r.1]) (by rw [hwk.1];exact hj),vmul_get (by rw [hw1r.1];exact hj)]
  rfl
 have in1:∀ k j,k<m.length→j<n→0≤ent m1 k j∧ent m1 k j<q:=fun k j hk hj=>(w1 k (by rw [l1];exact hk)).2 j hj
 -- where row r is 0,nothing changes
 have e2z:∀ k j,k<m.length→j<n→ent m1 r j=0→ent m2 k j=ent m1 k j:=fun k j hk hj hz=>by
  by_cases hkr:k=r
  ·rw [hkr];exact e2r j
  ·rw [e2 k j hk hkr hj,hz,F.mul_comm _ _ (negin k hk).1 (negin k hk).2 (by omega) (by omega),F.zero_mul _ (negin k hk).1 (negin k hk).2,
    F.add_comm _ _ (in1 k j hk hj).1 (in1 k j hk hj).2 (by omega) (by omega),F.zero_add _ (in1 k j hk hj).1 (in1 k j hk hj).2]
 have e2c:∀ k,k<m.length→k≠r→ent m2 k c=0:=fun k hk hkr=>by
  rw [e2 k c hk hkr hc,at1,F.mul_comm _ _ (negin k hk).1 (negin k hk).2 (by omega) hone,F.one_mul _ (negin k hk).1 (negin k hk).2,F.add_neg _ (in1 k c hk hc).1 (in1 k c hk hc).2]
 -- elements of m1 before column c
 have m1low:∀ k j,k<m.length→j<c→ent m1 k j=ent m k j:=fun k j hk hj=>by
  by_cases hkr:k=r
  ·rw [hkr,before j hj,W.rest r j (Nat.le_refl _) hr hj]
  ·by_cases hkp:k=p
   ·unfold ent
    rw [g1,if_neg hkr,if_pos hkp,hkp]
    have a1:=W.rest r j (Nat.le_refl _) hr hj
    have a2:=W.rest p j h1 h2 hj
    unfold ent at a1 a2
    rw [a1,a2]
   ·unfold ent
    rw [g1,if_neg hkr,if_neg hkp]
 have low:∀ k j,k<m.length→j<c→ent m2 k j=ent m k j:=fun k j hk hj=>by
  rw [e2z k j hk (by omega) (before j hj),m1low k j hk hj]
 refine ⟨w2,by show r+1≤m2.length;rw [l2];omega,fun i hi=>?_,fun i j hij hj=>?_,fun i hi=>?_,fun i k hi hk hki=>?_,fun i j hi hj=>?_,fun k j hk hkl hj=>?_⟩
 ·split
  ·omega
  ·have:=W.lt i (by omega);omega
 ·by_cases hjr:j=r
  ·rw [if_pos hjr,if_neg (by omega)]
   exact W.lt i (by omega)
  ·rw [if_neg hjr,if_neg (by omega)]
   exact W.mono i j hij (by omega)
 ·show ent m2 i _=1
  by_cases hir:i=r
  ·rw [if_pos hir,hir,e2r,at1]
  ·rw [if_neg hir,low i _ (by have:=W.rl;omega) (W.lt i (by omega))]
   exact W.one i (by omega)
 ·show ent m2 k _=0
  have hk':k<m.length:=by have:k<m2.length:=hk;rw [l2] at this;exact this
  by_cases hir:i=r
  ·rw [if_pos hir]
   exact e2c k hk' (by omega)
  ·rw [if_neg hir,low k _ hk' (W.lt i (by omega))]
   exact W.zero i k (by omega) hk' hki
 ·show ent m2 i j=0
  by_cases hir:i=r
  ·subst hir
   simp only [if_true] at hj
   rw [low i j hr hj]
   exact W.rest i j (Nat.le_refl _) hr hj
  ·simp only [if_neg hir] at hj
   have:=W.lt i (by omega)
   rw [low i j (by have:=W.rl;omega) (by omega)]
   exact W.lead i j (by omega) hj
 ·show ent m2 k j=0
  have hk':k<m.length:=by have:k<m2.length:=hkl;rw [l2] at this;exact this
  rcases Nat.lt_succ_iff_lt_or_eq.1 hj with h | h
  ·rw [low k j hk' h]
   exact W.rest k j (by omega) hk' h
  ·rw [h]
   exact e2c k hk' (by omega)
theorem red_way (F:Fld q add mul neg inv):∀ (f c r:Nat) (m:List (List Int)) (piv:Nat→Nat),f+c=n→Way q n c r m piv →
  ∃ piv' c',c'≤n∧Way q n c' (red add mul neg inv f c r m).2 (red add mul neg inv f c r m).1 piv'∧(c'=n∨(red add mul neg inv f c r m).2=(red add mul neg inv f c r m).1.length)∧(red add mul neg inv f c r m).1.length=m.length
 | 0,c,r,m,piv,hf,W=>⟨piv,c,by omega,W,.inl (by omega),rfl⟩
 | f+1,c,r,m,piv,hf,W=>by
  unfold red
  by_cases hr:r<m.length
  ·rw [if_pos hr]
   obtain ⟨a1,a2,a3,a4⟩:=findp_spec m c (m.length-r) r (by omega) (by omega)
   by_cases hp:findp m c (m.length-r) r=m.length
   ·rw [if_pos hp]
    exact red_way F f (c+1) r m piv (by omega) (W.pass fun k hk hl=>a3 k hk (by omega))
   ·rw [if_neg hp]
    obtain ⟨p1,c1,h1,h2,h3,h4⟩:=red_way F f (c+1) (r+1) _ _ (by omega) (W.step F (by omega) hr a1 (by omega) (a4 (by omega)))
    exact ⟨p1,c1,h1,h2,h3,h4.trans (elim_len.trans lift_len)⟩
  ·rw [if_neg hr]
   exact ⟨piv,c,by omega,W,.inr (by have:=W.rl;show r=m.length;omega),rfl⟩
theorem take_get {m:List (List Int)} {r i:Nat} (hi:i<r):(m.take r).getD i []=m.getD i []:=by
 simp [List.getD_eq_getElem?_getD,hi]
theorem Way.rref {c r:Nat} {m:List (List Int)} {piv:Nat→Nat} (W:Way q n c r m piv) (hc:c≤n):Rref q n (m.take r) piv:=by
 have hl:(m.take r).length=r:=by rw [List.length_take];exact Nat.min_eq_left W.rl
 have e:∀ i j,i<r→ent (m.take r) i j=ent m i j:=fun i j hi=>by unfold ent;rw [take_get hi]
 refine ⟨fun i hi=>?_,fun i hi=>?_,fun i j hij hj=>?_,fun i hi=>?_,fun i k hi hk hki=>?_,fun i j hi hj=>?_⟩
 all_goals rw [hl] at *
 ·rw [take_get hi];exact W.wd i (by have:=W.rl;omega)
 ·have:=W.lt i hi;omega
 ·exact W.mono i j hij hj
 ·rw [e i _ hi];exact W.one i hi
 ·rw [e k _ hk];exact W.zero i k hi (by have:=W.rl;omega) hki
 ·rw [e i _ hi];exact W.lead i j hi hj
theorem reduce_rref (F:Fld q add mul neg inv) {m:List (List Int)} (hm:∀ i,i<m.length→Wd q n (m.getD i [])):∃ piv,Rref q n (reduce add mul neg inv n m) piv∧(reduce add mul neg inv n m).length≤m.length:=by
 obtain ⟨piv,c,h1,h2,h3,h4⟩:=red_way F n 0 0 m (fun _=>0) (by omega) ⟨hm,Nat.zero_le _,fun i hi=>by omega,fun i j _ hj=>by omega,fun i hi=>by omega,fun i k hi=>by omega,fun i j hi=>by omega,fun k j _ _ hj=>by omega⟩
 exact ⟨piv,h2.rref h1,by unfold reduce;simp;omega⟩
theorem red_fix (F:Fld q add mul neg inv) {G:List (List Int)} {piv:Nat→Nat} (R:Rref q n G piv):∀ (f c r:Nat),f+c=n→r≤G.length→(∀ i,i<r→piv i<c)→(∀ i,r≤i→i<G.length→c≤piv i)→red add mul neg inv f c r G=(G,G.length)
 | 0,c,r,hf,hr,h1,h2=>by
  have:r=G.length:=by
   rcases Nat.lt_or_ge r G.length with h | h
   ·have:=h2 r (Nat.le_refl _) h
    have:=R.lt r h
    omega
   ·omega
  unfold red
  rw [this]
 | f+1,c,r,hf,hr,h1,h2=>by
  have hone:(1:Int)<q:=by exact_mod_cast F.one_lt
  unfold red
  by_cases hlt:r<G.length
  ·rw [if_pos hlt]
   obtain ⟨a1,a2,a3,a4⟩:=findp_spec G c (G.length-r) r (by omega) (by omega)
   have hrc:=h2 r (Nat.le_refl _) hlt
   have zlow:∀ k,r≤k→k<G.length→c<piv k→ent G k c=0:=fun k _ hk hc=>R.lead k c hk hc
   by_cases hc:piv r=c
   ·-- row r begins in column c
    have hpr:findp G c (G.length-r) r=r:=by
     rcases Nat.lt_or_ge r (findp G c (G.length-r) r) with h | h
     ·have:=a3 r (Nat.le_refl _) h
      rw [←hc,R.one r hlt] at this
      exact absurd this (by omega)
     ·omega
    rw [hpr,if_neg (by omega)]
    have e1:ent G r c=1:=by rw [←hc];exact R.one r hlt
    have wr:=R.wd r hlt
    have m1:vmul mul (inv (ent G r c)) (G.getD r [])=G.getD r []:=by
     refine ext_getD vmul_len fun j hj=>?_
     rw [vmul_len] at hj
     have:=wr.2 j (by rw [←wr.1];exact hj)
     rw [vmul_get hj,e1,F.inv_one,F.one_mul _ this.1 this.2]
    have l1:lift mul inv G r r c=G:=by
     refine ext_rows lift_len fun k hk=>?_
     rw [lift_get hlt hlt]
     split
     ·rename_i e;rw [e];exact m1
     ·rfl
    have l2:elim add mul neg G r c=G:=by
     refine ext_rows elim_len fun k hk=>?_
     rw [elim_len] at hk
     rw [elim_get hk]
     split
     ·rfl
     ·rename_i hkr
      have ez:ent G k c=0:=by rw [←hc];exact R.zero r k hlt hk hkr
      have wk:=R.wd k hk
      refine ext_getD (vadd_len (by rw [vmul_len,wk.1,wr.1])) fun j hj=>?_
      rw [vadd_len (by rw [vmul_len,wk.1,wr.1])] at hj
      have hjn:j<n:=by rw [←wk.1];exact hj
      have b1:=wk.2 j hjn
      have b2:=wr.2 j hjn
      rw [vadd_get (by rw [vmul_len,wk.1,wr.1]) hj,vmul_get (by rw [wr.1];exact hjn),ez,F.neg_zero,F.zero_mul _ b2.1 b2.2,F.add_comm _ _ b1.1 b1.2 (by omega) (by omega),F.zero_add _ b1.1 b1.2]
    rw [l1,l2]
    refine red_fix F R f (c+1) (r+1) (by omega) (by omega) (fun i hi=>?_) (fun i hi hl=>?_)
    ·by_cases h:i=r
     ·rw [h,hc];omega
     ·have:=h1 i (by omega);omega
    ·have:=R.mono r i (by omega) hl
     omega
   ·have hp:findp G c (G.length-r) r=G.length:=by
     rcases Nat.lt_or_ge (findp G c (G.length-r) r) G.length with h | h
     ·refine absurd ?_ (a4 h)
      refine zlow _ a1 h ?_
      by_cases he:findp G c (G.length-r) r=r
      ·rw [he];omega
      ·have:=R.mono r _ (by omega) h
       omega
     ·omega
    rw [if_pos hp]
    refine red_fix F R f (c+1) r (by omega) hr (fun i hi=>by have:=h1 i hi;omega) (fun i hi hl=>?_)
    by_cases h:i=r
    ·rw [h];omega
    ·have:=R.mono r i (by omega) hl
     omega
  ·rw [if_neg hlt,show r=G.length by omega]
end
end Go.Proofs.YticbdgmcofjkeaaGreat.Ma
namespace Go.Proofs.YticbdgmcofjkeaaGreat.Ma
def words (q:Nat) (add mul:Int→Int→Int):List (List Int)→List Int→List (List Int)
 | [],w=>[w]
 | g::gs,w=>(List.range q).flatMap fun (a:Nat)=>words q add mul gs (vadd add w (vmul mul (a:Int) g))
def comb (add mul:Int→Int→Int):List (List Int)→List Int→List Int→List Int
 | g::gs,a::asl,w=>comb add mul gs asl (vadd add w (vmul mul a g))
 | _,_,w=>w
def digs (q:Nat):Nat→Nat→List Int
 | 0,_=>[]
 | k+1,j=>((j / q^k % q:Nat):Int)::digs q k j
theorem digs_len (q:Nat):∀ k j,(digs q k j).length=k
 | 0,j=>rfl
 | k+1,j=>by simp [digs,digs_len q k j]
theorem digs_mod (q:Nat) (hq:0<q):∀ (k j M:Nat),digs q k (j+q^k*M)=digs q k j
 | 0,j,M=>rfl
 | k+1,j,M=>by
  unfold digs
  have e:q^(k+1)*M=q^k*(q*M):=by rw [Nat.pow_succ,Nat.mul_assoc]
  rw [e,digs_mod q hq k j (q*M),Nat.add_mul_div_left _ _ (Nat.pow_pos hq),Nat.add_mul_mod_self_left]
theorem range_mul (a b:Nat):List.range (a*b)=(List.range a).flatMap fun i=>(List.range b).map fun j=>b*i+j:=by
 induction a with
 | zero=>simp
 | succ a ih =>
  rw [Nat.succ_mul,List.range_add,ih,List.range_succ,List.flatMap_append]
  simp [Nat.mul_comm]
theorem words_digs (q:Nat) (hq:0<q) (add mul:Int→Int→Int):∀ (G:List (List Int)) (w:List Int),(List.range (q^G.length)).map (fun j=>comb add mul G (digs q G.length j) w)=words q add mul G w
 | [],w=>by simp [words,comb]
 | g::gs,w=>by
  simp only [List.length_cons]
  rw [Nat.pow_succ,Nat.mul_comm,range_mul,List.map_flatMap]
  unfold words
  unfold List.flatMap
  refine congrArg List.flatten (List.map_congr_left fun a ha=>?_)
  have ha':a<q:=by simpa using ha
  rw [←words_digs q hq add mul gs (vadd add w (vmul mul (a:Int) g)),List.map_map]
  refine List.map_congr_left fun j hj=>?_
  have hj':j<q^gs.length:=by simpa using hj
  have e1:(q^gs.length*a+j) / q^gs.length=a:=by
   rw [Nat.mul_add_div (Nat.pow_pos hq),Nat.div_eq_of_lt hj',Nat.add_zero]
  simp only [Function.comp,digs,comb,e1,Nat.mod_eq_of_lt ha']
  rw [Nat.add_comm,digs_mod q hq]
def far (lost:Nat→Bool) (w x:List Int) (a:Nat):Nat→Nat
 | 0=>0
 | k+1=>far lost w x a k+(if !lost (a+k)&&x.getD (a+k) 0 != w.getD (a+k) 0 then 1 else 0)
theorem far_succ (lost:Nat→Bool) (w x:List Int) (a k:Nat):far lost w x a (k+1)=far lost w x a k+(if !lost (a+k)&&x.getD (a+k) 0 != w.getD (a+k) 0 then 1 else 0):=rfl
def dfs (q:Nat) (add mul:Int→Int→Int) (lost:Nat→Bool) (w:List Int) (r:Int):List (List Int)→List Nat→List Int→Nat→List (List Int×Nat)
 | [],_,x,t=>if (t:Int)>r then [] else [(x,t)]
 | g::gs,e,x,t=>if (t:Int)>r then [] else
   (List.range q).flatMap fun (a:Nat)=>dfs q add mul lost w r gs e.tail (vadd add x (vmul mul (a:Int) g)) (t+far lost w (vadd add x (vmul mul (a:Int) g)) (e.getD 0 0) (e.getD 1 0-e.getD 0 0))
section
variable {q n:Nat} {add mul:Int→Int→Int} {neg inv:Int→Int}
theorem words_wd (F:Fld q add mul neg inv):∀ (G:List (List Int)) (w:List Int),(∀ i,i<G.length→Wd q n (G.getD i []))→Wd q n w→∀ y∈words q add mul G w,Wd q n y
 | [],w,_,hw,y,hy=>by
  unfold words at hy
  rw [List.mem_singleton] at hy
  rw [hy];exact hw
 | g::gs,w,hG,hw,y,hy=>by
  unfold words at hy
  obtain ⟨a,ha,hy⟩:=List.mem_flatMap.1 hy
  have ha':a<q:=by simpa using ha
  refine words_wd F gs _ (fun i hi=>by simpa using hG (i+1) (by simpa using hi)) ?_ y hy
  exact hw.vadd F (Wd.vmul F (by omega) (by exact_mod_cast ha') (by simpa using hG 0 (by simp)))
theorem words_same (F:Fld q add mul neg inv) {b:Nat} (hb:b≤n):∀ (G:List (List Int)) (w:List Int),(∀ i,i<G.length→Wd q n (G.getD i []))→(∀ i j,i<G.length→j<b→ent G i j=0)→Wd q n w→∀ y∈words q add mul G w,∀ j,j<b→y.getD j 0=w.getD j 0
 | [],w,_,_,_,y,hy,j,_=>by
  unfold words at hy
  rw [List.mem_singleton] at hy
  rw [hy]
 | g::gs,w,hG,hz,hw,y,hy,j,hj=>by
  unfold words at hy
  obtain ⟨a,ha,hy⟩:=List.mem_flatMap.1 hy
  have ha':a<q:=by simpa using ha
  have hg:Wd q n g:=by simpa using hG 0 (by simp)
  have haq:((a:Nat):Int)<q:=by exact_mod_cast ha'
  have hv:=Wd.vmul F (c:=(a:Int)) (by omega) haq hg
  rw [words_same F hb gs _ (fun i hi=>by simpa using hG (i+1) (by simpa using hi)) (fun i j hi hj=>by have:=hz (i+1) j (by simpa using hi) hj;simpa [ent] using this) (hw.vadd F hv) y hy j hj]
  have h0:g.getD j 0=0:=by have:=hz 0 j (by simp) hj;simpa [ent] using this
  have hwj:=hw.2 j (by omega)
  rw [vadd_get (by rw [hw.1,hv.1]) (by rw [hw.1];omega),vmul_get (by rw [hg.1];omega),h0,F.mul_comm _ _ (by omega) haq (by omega) (by have:=F.one_lt;omega),F.zero_mul _ (by omega) haq,F.add_comm _ _ hwj.1 hwj.2 (by omega) (by have:=F.one_lt;omega),F.zero_add _ hwj.1 hwj.2]
end
end Go.Proofs.YticbdgmcofjkeaaGreat.Ma
namespace Go.Proofs.YticbdgmcofjkeaaGreat.Ma
section
variable {q n:Nat} {add mul:Int→Int→Int} {neg inv:Int→Int}
end
def nearStep (d:List Int→Nat) (out:List (List Int)) (y:List Int):List (List Int) :=
 match out with
 | []=>[y]
 | o::os=>if d y>d o then o::os else if d y<d o then [y] else (o::os)++[y]
def near (d:List Int→Nat) (L:List (List Int)):List (List Int):=L.foldl (nearStep d) []
end Go.Proofs.YticbdgmcofjkeaaGreat.Ma
namespace Go.Proofs.YticbdgmcofjkeaaGreat.Ai
open Go Ma
noncomputable section
theorem take_succ_getD {α:Type} (d:α) {l:List α} {j:Nat} (h:j<l.length):l.take (j+1)=l.take j++[l.getD j d]:=by
 rw [List.take_succ_eq_append_getElem h]
 simp [List.getD_eq_getElem?_getD,h]
theorem drop_cons {α:Type} (d:α) {l:List α} {j:Nat} (h:j<l.length):l.drop j=l.getD j d::l.drop (j+1):=by
 rw [List.drop_eq_getElem_cons h]
 simp [List.getD_eq_getElem?_getD,h]
theorem wsucc {j:Nat} (h:j<2^62):wr .i64 ((j:Int)+1)=((j+1:Nat):Int):=by rw [wr64 (by omega) (by omega)];rfl
def In (q:Nat) (l:List Int):Prop:=∀ j,j<l.length→0≤l.getD j 0∧l.getD j 0<q
theorem In.of {q n:Nat} {l:List Int} (h:Wd q n l):In q l:=fun j hj=>h.2 j (by rw [←h.1];exact hj)
theorem L45_spec {q:Nat} (hq:q∈Qs) {a:Int} (a0:0≤a) (a1:a<q) {l:List Int} (hl:In q l) (hb:l.length<2^30) {τ:Type} (κ:Nat→LS_→Option τ):∀ (n j:Nat),j≤l.length→l.length<n+j →
  runE L45_3 n κ 0 [.I a,.N l.length,.L l,.N j,.I j,.I (fp q),.I (fe q),.N (fm q).length,.L (fm q),.L ((l.take j).map (fmul q a))]=κ 0 [.N l.length,.L (l.map (fmul q a))]
 | 0,j,h1,h2=>by omega
 | n+1,j,h1,h2=>by
  rw [runE_succ]
  show L45_3.s0 _ _ _=_
  unfold L45_3.s0
  simp only [g_]
  by_cases hj:j<l.length
  ·have e:=wsucc (j:=j) (by omega)
   have hx:=hl j hj
   simp only [Int.toNat_natCast,Nat.mul_one]
   rw [br_of (by simp;omega),ck_of (by simp <;> omega),ck_of (by simp <;> omega),ck_of (by simp)]
   unfold T89
   rw [tab2_of hq a0 a1 hx.1 hx.2]
   simp only [sw_zero,gI_zero]
   rw [ck_of (by simp <;> omega),e]
   have:=L45_spec hq a0 a1 hl hb κ n (j+1) (by omega) (by omega)
   rw [take_succ_getD 0 hj,List.map_append] at this
   exact this
  ·have:j=l.length:=by omega
   subst this
   rw [br_no (by simp),List.take_length]
theorem F45_spec {q:Nat} (hq:q∈Qs) {a:Int} (a0:0≤a) (a1:a<q) {l:List Int} (hl:In q l) (hb:l.length<2^30) {τ:Type} (k:Nat→LS_→Option τ) :
  F45 [.I (fp q),.I (fe q),.L (fm q),.I a,.L l] k=k 0 [.N l.length,.L (vmul (fmul q) a l)]:=by
 unfold F45 L45_3.b
 simp only [g_]
 have:=fuel_le
 have e:=L45_spec hq a0 a1 hl hb (fun j l9=>sw (k 0 [.N (gN l9 0),.L (gL l9 1)]) (fun _=>none) j) fuel 0 (by omega) (by omega)
 exact e
theorem L30_spec {q:Nat} (hq:q∈Qs) {a b:List Int} (ha:In q a) (hb:In q b) (hl:a.length=b.length) (hs:a.length<2^30) {τ:Type} (κ:Nat→LS_→Option τ):∀ (n j:Nat),j≤a.length→a.length<n+j →
  runE L30_3 n κ 0 [.N a.length,.L a,.N b.length,.L b,.N j,.I j,.I (fp q),.I (fe q),.N (fm q).length,.L (fm q),.L (vadd (fadd q) (a.take j) (b.take j))]=κ 0 [.N a.length,.L (vadd (fadd q) a b)]
 | 0,j,h1,h2=>by omega
 | n+1,j,h1,h2=>by
  rw [runE_succ]
  show L30_3.s0 _ _ _=_
  unfold L30_3.s0
  simp only [g_]
  by_cases hj:j<a.length
  ·have e:=wsucc (j:=j) (by omega)
   have hx:=ha j hj
   have hy:=hb j (by omega)
   have hlen:(vadd (fadd q) (a.take j) (b.take j)).length=j:=by rw [vadd_len (by simp;omega),List.length_take];omega
   simp only [Int.toNat_natCast,Nat.mul_one]
   rw [br_of (by simp;omega),ck_of (by simp <;> omega),ck_of (by simp <;> omega),ck_of (by simp <;> omega),ck_of (by simp <;> omega),ck_of (by simp)]
   unfold T77
   rw [tab2_of hq hx.1 hx.2 hy.1 hy.2]
   simp only [sw_zero,gI_zero]
   rw [ck_of (by simp [hlen] <;> omega),e]
   have:=L30_spec hq ha hb hl hs κ n (j+1) (by omega) (by omega)
   rw [take_succ_getD 0 hj,take_succ_getD (l:=b) 0 (show j<b.length by omega)] at this
   have e2:vadd (fadd q) (a.take j++[a.getD j 0]) (b.take j++[b.getD j 0])=vadd (fadd q) (a.take j) (b.take j)++[fadd q (a.getD j 0) (b.getD j 0)]:=by
    unfold vadd
    rw [List.zipWith_append (by simp;omega)]
    rfl
   rw [e2] at this
   exact this
  ·have:j=a.length:=by omega
   subst this
   rw [br_no (by simp),List.take_length,hl,List.take_length]
theorem F30_spec {q:Nat} (hq:q∈Qs) {a b:List Int} (ha:In q a) (hb:In q b) (hl:a.length=b.length) (hs:a.length<2^30) {τ:Type} (k:Nat→LS_→Option τ) :
  F30 [.I (fp q),.I (fe q),.L (fm q),.L a,.L b] k=k 0 [.N a.length,.L (vadd (fadd q) a b)]:=by
 unfold F30 L30_3.b
 simp only [g_]
 have:=fuel_le
 exact L30_spec hq ha hb hl hs (fun j l9=>sw (k 0 [.N (gN l9 0),.L (gL l9 1)]) (fun _=>none) j) fuel 0 (by omega) (by omega)
structure Rows (q n:Nat) (m:List (List Int)):Prop where
 wd:∀ i,i<m.length→Wd q n (m.getD i [])
 few:m.length<2^20
 short:n<2^20
theorem L80_3_spec {q n:Nat} {m:List (List Int)} (hm:Rows q n m) (N:Int) {τ:Type} (κ:Nat→LS_→Option τ):∀ (f j:Nat),j≤m.length→m.length<f+j →
  runE L80_3 f κ 0 [.I N,.N m.length,.LL m,.N j,.I j,.I (fp q),.I (fe q),.N (fm q).length,.L (fm q),.LL (m.take j)]=κ 0 [.I N,.N m.length,.I (fp q),.I (fe q),.N (fm q).length,.L (fm q),.LL m]
 | 0,j,h1,h2=>by omega
 | f+1,j,h1,h2=>by
  have hf:=hm.few
  have hs:=hm.short
  rw [runE_succ]
  show L80_3.s0 _ _ _=_
  unfold L80_3.s0
  simp only [g_]
  by_cases hj:j<m.length
  ·have e:=wsucc (j:=j) (by omega)
   have hl:=(hm.wd j hj).1
   simp only [Int.toNat_natCast,Nat.mul_one,Nat.zero_add,List.nil_append,List.drop_zero,List.take_length,hl]
   rw [br_of (by simp;omega),ck_of (by simp <;> omega),ck_of (by simp <;> omega),ck_of (by simp <;> omega),ck_of (by simp [-List.getD_eq_getElem?_getD,hl] <;> omega),ck_of (by simp <;> omega),e]
   have:=L80_3_spec hm N κ f (j+1) (by omega) (by omega)
   rw [take_succ_getD [] hj] at this
   have ht:List.take n (m.getD j [])=m.getD j []:=by rw [←hl,List.take_length]
   rw [ht]
   exact this
  ·have:j=m.length:=by omega
   subst this
   rw [br_no (by simp),List.take_length]
theorem L80_11_spec {q n:Nat} {m:List (List Int)} (hm:Rows q n m) (N:Int) (r c:Nat) (hc:c<n) {τ:Type} (κ:Nat→LS_→Option τ):∀ (f p g:Nat),p≤m.length→m.length<f+p→m.length≤g+p →
  runE L80_11 f κ 0 [.I N,.N m.length,.I r,.I c,.I p,.I (fp q),.I (fe q),.N (fm q).length,.L (fm q),.LL m]=κ 0 [.I N,.N m.length,.I r,.I c,.I (findp m c g p),.I (fp q),.I (fe q),.N (fm q).length,.L (fm q),.LL m]
 | 0,p,g,h1,h2,h3=>by omega
 | f+1,p,g,h1,h2,h3=>by
  have hf:=hm.few
  have hs:=hm.short
  rw [runE_succ]
  show L80_11.s0 _ _ _=_
  unfold L80_11.s0
  simp only [g_]
  by_cases hj:p<m.length
  ·have e:=wsucc (j:=p) (by omega)
   have hl:=(hm.wd p hj).1
   cases g with
   | zero=>omega
   | succ g =>
   simp only [Int.toNat_natCast,Nat.mul_one,Nat.zero_add]
   rw [br_of (by simp;omega),ck_of (by simp <;> omega),ck_of (by simp <;> omega),ck_of (by simp [-List.getD_eq_getElem?_getD,hl] <;> omega),ck_of (by simp [-List.getD_eq_getElem?_getD,hl] <;> omega)]
   unfold findp
   rw [if_pos hj]
   by_cases hz:ent m p c=0
   ·rw [br_of (by unfold ent at hz;rw [hz];rfl),if_pos hz,e]
    exact L80_11_spec hm N r c hc κ f (p+1) g (by omega) (by omega) (by omega)
   ·rw [br_no (by unfold ent at hz;simpa [-List.getD_eq_getElem?_getD] using hz),if_neg hz]
  ·have:p=m.length:=by omega
   subst this
   rw [br_no (by simp)]
   cases g with
   | zero=>rfl
   | succ g=>unfold findp;rw [if_neg (by omega)]
theorem fld (q:Nat) (hq:q∈Qs):Fld q (fadd q) (fmul q) (fneg q) (finv q):=fld_of hq
theorem qs_lt {q:Nat} (hq:q∈Qs):1<q∧q≤8:=by
 have:Qs.all (fun q=>decide (1<q∧q≤8))=true:=by decide
 simpa using List.all_eq_true.1 this q hq
def elimTo (add mul:Int→Int→Int) (neg:Int→Int) (m:List (List Int)) (r c k:Nat):List (List Int) :=
 (List.range m.length).map fun i=>if i=r∨k≤i then m.getD i [] else vadd add (m.getD i []) (vmul mul (neg (ent m i c)) (m.getD r []))
theorem elimTo_len {add mul:Int→Int→Int} {neg:Int→Int} {m:List (List Int)} {r c k:Nat}:(elimTo add mul neg m r c k).length=m.length:=by simp [elimTo]
theorem elimTo_get {add mul:Int→Int→Int} {neg:Int→Int} {m:List (List Int)} {r c k i:Nat} (hi:i<m.length) :
  (elimTo add mul neg m r c k).getD i []=if i=r∨k≤i then m.getD i [] else vadd add (m.getD i []) (vmul mul (neg (ent m i c)) (m.getD r [])):=by
 simp [elimTo,List.getD_eq_getElem?_getD,hi]
theorem elimTo_zero {add mul:Int→Int→Int} {neg:Int→Int} {m:List (List Int)} {r c:Nat}:elimTo add mul neg m r c 0=m :=
 ext_rows elimTo_len fun j hj=>by rw [elimTo_len] at hj;rw [elimTo_get hj,if_pos (.inr (Nat.zero_le _))]
theorem elimTo_all {add mul:Int→Int→Int} {neg:Int→Int} {m:List (List Int)} {r c:Nat}:elimTo add mul neg m r c m.length=elim add mul neg m r c :=
 ext_rows (elimTo_len.trans elim_len.symm) fun j hj=>by
  rw [elimTo_len] at hj
  rw [elimTo_get hj,elim_get hj]
  by_cases h:j=r
  ·rw [if_pos (.inl h),if_pos h]
  ·rw [if_neg (by omega),if_neg h]
theorem L80_19_spec {q n:Nat} (hq:q∈Qs) {m:List (List Int)} (hm:Rows q n m) (N:Int) (r c:Nat) (hc:c<n) (hr:r<m.length) {τ:Type} (κ:Nat→LS_→Option τ):∀ (f k:Nat),k≤m.length→m.length<f+k →
  runE L80_19 f κ 0 [.I N,.N m.length,.I r,.I c,.I k,.I (fp q),.I (fe q),.N (fm q).length,.L (fm q),.LL (elimTo (fadd q) (fmul q) (fneg q) m r c k)]=κ 0 [.I N,.N m.length,.I r,.I c,.I (fp q),.I (fe q),.N (fm q).length,.L (fm q),.LL (elim (fadd q) (fmul q) (fneg q) m r c)]
 | 0,k,h1,h2=>by omega
 | f+1,k,h1,h2=>by
  have hf:=hm.few
  have hs:=hm.short
  have F:=fld q hq
  rw [runE_succ]
  show L80_19.s0 _ _ _=_
  unfold L80_19.s0
  simp only [g_]
  by_cases hj:k<m.length
  ·have e:=wsucc (j:=k) (by omega)
   have wk:=hm.wd k hj
   have wr:=hm.wd r hr
   have gk:(elimTo (fadd q) (fmul q) (fneg q) m r c k).getD k []=m.getD k []:=by rw [elimTo_get hj,if_pos (.inr (Nat.le_refl _))]
   have gr:(elimTo (fadd q) (fmul q) (fneg q) m r c k).getD r []=m.getD r []:=by rw [elimTo_get hr,if_pos (.inl rfl)]
   have hlen:(elimTo (fadd q) (fmul q) (fneg q) m r c k).length=m.length:=elimTo_len
   have nx:=L80_19_spec hq hm N r c hc hr κ f (k+1) (by omega) (by omega)
   simp only [Int.toNat_natCast,Nat.mul_one,Nat.zero_add,gk,gr,hlen]
   rw [br_of (by simp;omega)]
   by_cases hkr:k=r
   ·rw [br_no (by subst hkr;simp),e]
    have:elimTo (fadd q) (fmul q) (fneg q) m r c (k+1)=elimTo (fadd q) (fmul q) (fneg q) m r c k:=ext_rows (elimTo_len.trans elimTo_len.symm) fun j hj=>by
     rw [elimTo_len] at hj
     rw [elimTo_get hj,elimTo_get hj]
     by_cases h:j=r∨k≤j
     ·rw [if_pos h,if_pos (by omega)]
     ·rw [if_neg h,if_neg (by omega)]
    rw [this] at nx
    exact nx
   ·have x0:=wk.2 c hc
    have ng:=F.neg_in _ x0.1 x0.2
    have wt:=Wd.vmul F ng.1 ng.2 wr
    have hneg:(k:Int)≠r:=by omega
    rw [br_of (by simpa using hneg),ck_of (by simp <;> omega),ck_of (by simp <;> omega),ck_of (by simp <;> omega),ck_of (by simp <;> omega),ck_of (by simp [-List.getD_eq_getElem?_getD,wk.1] <;> omega),ck_of (by simp [-List.getD_eq_getElem?_getD,wk.1] <;> omega),ck_of (by simp)]
    unfold T79
    rw [tab1_of hq x0.1 x0.2]
    simp only [sw_zero,gI_zero]
    rw [ck_of (by simp <;> omega),ck_of (by simp <;> omega),ck_of (by simp),F45_spec hq ng.1 ng.2 (In.of wr) (by rw [wr.1];omega)]
    simp only [sw_zero,gN_zero,gL_zero,gL_succ,Nat.mul_one,List.drop_zero]
    have ht:List.take (m.getD r []).length (vmul (fmul q) (fneg q ((m.getD k []).getD c 0)) (m.getD r []))=vmul (fmul q) (fneg q ((m.getD k []).getD c 0)) (m.getD r []):=by
     rw [←vmul_len (mul:=fmul q) (c:=fneg q ((m.getD k []).getD c 0)) (a:=m.getD r []),List.take_length]
    rw [ht,ck_of (by simp [vmul_len]),F30_spec hq (In.of wk) (In.of wt) (by rw [wk.1,wt.1]) (by rw [wk.1];omega)]
    simp only [sw_zero,gN_zero,gL_zero,gL_succ,Nat.mul_one,List.drop_zero]
    have hva:(vadd (fadd q) (m.getD k []) (vmul (fmul q) (fneg q ((m.getD k []).getD c 0)) (m.getD r []))).length=(m.getD k []).length:=vadd_len (by rw [wk.1,wt.1])
    have ht2:List.take (m.getD k []).length (vadd (fadd q) (m.getD k []) (vmul (fmul q) (fneg q ((m.getD k []).getD c 0)) (m.getD r [])))=vadd (fadd q) (m.getD k []) (vmul (fmul q) (fneg q ((m.getD k []).getD c 0)) (m.getD r [])):=by
     rw [←hva,List.take_length]
    rw [ht2,ck_of (by simp <;> omega),ck_of (by simp [-List.getD_eq_getElem?_getD,hva] <;> omega),e]
    have:elimTo (fadd q) (fmul q) (fneg q) m r c (k+1)=(elimTo (fadd q) (fmul q) (fneg q) m r c k).set k (vadd (fadd q) (m.getD k []) (vmul (fmul q) (fneg q ((m.getD k []).getD c 0)) (m.getD r []))):=ext_rows (by rw [elimTo_len,List.length_set,elimTo_len]) fun j hj'=>by
     rw [elimTo_len] at hj'
     rw [elimTo_get hj',getD_set_row (by rw [elimTo_len];exact hj)]
     by_cases h:k=j
     ·subst h
      rw [if_neg (by omega),if_pos rfl]
      rfl
     ·rw [if_neg h,elimTo_get hj']
      by_cases h2:j=r∨k≤j
      ·rw [if_pos h2,if_pos (by omega)]
      ·rw [if_neg h2,if_neg (by omega)]
    rw [this] at nx
    exact nx
  ·have:k=m.length:=by omega
   subst this
   rw [br_no (by simp),elimTo_all]
end
end Go.Proofs.YticbdgmcofjkeaaGreat.Ai
