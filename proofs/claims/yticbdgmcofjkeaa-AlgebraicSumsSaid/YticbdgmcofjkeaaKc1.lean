/-
Part 1 of 7 of the texts for one claim: Ai0 Ai1 Ai2 Ai3 Ai4 Ai5 Ai6 Ai7 Ai8 Ai9.
-/
import Derived.RangeFuncLeaves
import Derived.WalkKit
import Derived.Laws.Cover3
import Derived.Great.BuildSlice
import Derived.Deep.AppendSrc
set_option linter.unusedVariables false
set_option linter.unusedSimpArgs false
namespace Go.Proofs.Yticbdgmcofjkeaa.Ai
open Go
noncomputable section
mutual
inductive AV where
 | undef
 | none_
 | bool (b:Bool)
 | int (k:IntKind) (n:Int)
 | str (s:ByteArray)
 | nilS
 | nz
 | sl (n:Nat) (c:Cells)
 | ref (id r off n m:Nat)
 | ptr (id r off:Nat)
 | fptr (c:Cells) (off:Nat)
 | nilP
 | fn (f:FuncId) (caps:List AV)
 | nilF
 | yld (l:Nat)
 | agg (cs:List AV)
 | tup (vs:List AV)
inductive Cells where
 | g (l:List AV)
 | i (k:IntKind) (l:List Int)
 | m (k:IntKind) (l:List (List Int))
 | b (l:List Bool)
 | r (f:Nat) (pos:List Nat)
end
instance:Inhabited AV:=⟨.undef⟩
instance:Inhabited Cells:=⟨.g []⟩
inductive Out where
 | normal
 | ret
 | exit (id:Nat)
 deriving DecidableEq
inductive AObj where
 | dead
 | cells (arr mt:Bool) (c:Cells)
 | fam (mt:Bool) (k:IntKind) (rows:List (List Int))
 | loop (nest:Bool) (tm:List AV) (ps:List Nat) (as_ bd:Code) (aft:Nat) (ready:Bool) (pend:Out)
structure St where
 tm:List AV
 hp:List AObj
def absV1:Value→AV
 | .bool b=>.bool b
 | .int k n=>.int k n
 | .string s=>.str s
 | .slice none 0 0=>.nilS
 | .pointer none=>.nilP
 | .nilFunc=>.nilF
 | _=>.undef
def absV:Value→AV
 | .agg cs=>.agg (cs.toList.map absV1)
 | .tuple vs=>if vs.size=0 then .none_ else .undef
 | v=>absV1 v
def lget {α:Type} (d:α) (l:List α) (n:Nat):α :=
 List.rec (motive:=fun _=>Nat→α) (fun _=>d) (fun x _ ih n=>Nat.rec (motive:=fun _=>α) x (fun m _=>ih m) n) l n
def lset {α:Type} (l:List α) (n:Nat) (v:α):List α :=
 List.rec (motive:=fun _=>Nat→List α) (fun _=>[]) (fun x xs ih n=>Nat.rec (motive:=fun _=>List α) (v::xs) (fun m _=>x::ih m) n) l n
theorem lget_eq {α:Type} (d:α) (l:List α) (n:Nat):lget d l n=l.getD n d:=by
 induction l generalizing n with
 | nil=>rfl
 | cons x xs ih =>
  cases n with
  | zero=>rfl
  | succ n=>exact (ih n).trans (by simp)
theorem lset_eq {α:Type} (l:List α) (n:Nat) (v:α):lset l n v=l.set n v:=by
 induction l generalizing n with
 | nil=>rfl
 | cons x xs ih =>
  cases n with
  | zero=>rfl
  | succ n=>exact congrArg (x::·) (ih n)
def oev (tm:List AV):Operand→AV
 | .tmp t=>lget .none_ tm t
 | .const v=>absV v
 | .func f=>cond (Nat.blt f 1048576) (.fn f []) .undef
 | .global _=>.undef
def row (k:IntKind) (l:List Int):AV:=.sl l.length (.i k l)
namespace Cells
def toL:Cells→List AV
 | g l=>l
 | i k l=>l.map (.int k)
 | m k l=>l.map (row k)
 | b l=>l.map .bool
 | r _ pos=>pos.map fun _=>.undef
def len:Cells→Nat
 | g l=>l.length
 | i _ l=>l.length
 | m _ l=>l.length
 | b l=>l.length
 | r _ pos=>pos.length
def get (c:Cells) (j:Nat):AV :=
 match c with
 | g l=>l.getD j .undef
 | i k l=>.int k (l.getD j 0)
 | m k l=>row k (l.getD j [])
 | b l=>.bool (l.getD j false)
 | r _ _=>.undef
def set (c:Cells) (j:Nat) (v:AV):Cells :=
 match c,v with
 | i k l,.int k' n=>if k'=k then i k (l.set j n) else g ((l.map (.int k)).set j (.int k' n))
 | m k l,.sl n (.i k' w)=>if k'=k then m k (l.set j w) else g ((l.map (row k)).set j (.sl n (.i k' w)))
 | b l,.bool x=>b (l.set j x)
 | c,v=>g (c.toL.set j v)
def app (c d:Cells):Cells :=
 match c,d with
 | i k l,i k' l'=>if k'=k then i k (l++l') else g (l.map (.int k)++l'.map (.int k'))
 | m k l,m k' l'=>if k'=k then m k (l++l') else g (l.map (row k)++l'.map (row k'))
 | b l,b l'=>b (l++l')
 | c,d=>g (c.toL++d.toL)
def drop (c:Cells) (n:Nat):Cells :=
 match c with
 | g l=>g (l.drop n)
 | i k l=>i k (l.drop n)
 | m k l=>m k (l.drop n)
 | b l=>b (l.drop n)
 | r f pos=>r f (pos.drop n)
def take (c:Cells) (n:Nat):Cells :=
 match c with
 | g l=>g (l.take n)
 | i k l=>i k (l.take n)
 | m k l=>m k (l.take n)
 | b l=>b (l.take n)
 | r f pos=>r f (pos.take n)
end Cells
def isInt (k:IntKind):AV→Bool
 | .int k' _=>k'==k
 | _=>false
def intOf:AV→Int
 | .int _ n=>n
 | _=>0
def isRow (k:IntKind):AV→Bool
 | .sl _ (.i k' _)=>k'==k
 | .nilS=>true
 | _=>false
def rowOf:AV→List Int
 | .sl _ (.i _ l)=>l
 | _=>[]
def isBool:AV→Bool
 | .bool _=>true
 | _=>false
def boolOf:AV→Bool
 | .bool b=>b
 | _=>false
def emptyOf (P:Program) (e:TypeId):Cells :=
 match P.underlying e with
 | some (.int k)=>.i k []
 | some .bool=>.b []
 | some (.slice e2)=>match P.underlying e2 with
  | some (.int k)=>.m k []
  | _=>.g []
 | _=>.g []
def ofAVs (e:Cells) (vs:List AV):Cells :=
 match e with
 | .i k _=>if vs.all (isInt k) then .i k (vs.map intOf) else .g vs
 | .m k _=>if vs.all (isRow k) then .m k (vs.map rowOf) else .g vs
 | .b _=>if vs.all isBool then .b (vs.map boolOf) else .g vs
 | _=>.g vs
def cellsOf:AV→List AV
 | .agg cs=>cs
 | v=>[v]
def isUndef:AV→Bool
 | .undef=>true
 | .none_=>true
 | .tup _=>true
 | _=>false
def tsize (P:Program) (t:TypeId):Nat:=((P.info? t).map (·.size)).getD 0
def tbytes (P:Program) (t:TypeId):Nat:=((P.info? t).map (·.bytes)).getD 0
def taggO (P:Program) (t:TypeId):Option Bool :=
 match P.underlying t with
 | some (.struct _)=>some true
 | some (.array _ _)=>some true
 | some _=>some false
 | none=>none
def tzero (P:Program) (t:TypeId):Option (List AV) :=
 match (P.info? t).bind (·.zero) with
 | some v=>some (cellsOf (absV v))
 | none=>none
def part (P:Program) (t:TypeId) (cs:List AV) (off:Nat):Option AV :=
 match taggO P t with
 | some true=>if off+tsize P t≤cs.length then some (.agg ((cs.drop off).take (tsize P t))) else none
 | some false=>cs[off]?
 | none=>none
def hget (hp:List AObj) (id:Nat):AObj:=lget .dead hp id
def getAV (hp:List AObj) (c:Cells) (j:Nat):AV :=
 match c with
 | .r f pos=>(match hget hp f with
  | .fam _ _ rows=>.ref f (pos.getD j 0) 0 (rows.getD (pos.getD j 0) []).length 1
  | _=>.undef)
 | c=>c.get j
def okAV (hp:List AObj) (c:Cells) (j:Nat):Bool :=
 match c with
 | .r f pos=>(match hget hp f with
  | .fam _ _ rows=>decide (j<pos.length)&&decide (pos.getD j 0<rows.length)
  | _=>false)
 | c=>decide (j<c.len)
def isData:AV→Bool
 | .ref _ _ _ _ _=>false
 | .undef=>false
 | .none_=>false
 | .ptr _ _ _=>false
 | .fptr _ _=>false
 | .fn _ _=>false
 | .yld _=>false
 | .agg _=>false
 | .tup _=>false
 | _=>true
def dataC (hp:List AObj) (c:Cells):Cells :=
 match c with
 | .r f pos=>(match hget hp f with
  | .fam _ k rows=>.m k (pos.map fun x=>rows.getD x [])
  | _=>.g [])
 | c=>c
def okC (hp:List AObj) (c:Cells):Bool :=
 match c with
 | .r f pos=>(match hget hp f with
  | .fam _ _ rows=>pos.all fun x=>decide (x<rows.length)
  | _=>false)
 | .g l=>l.all isData
 | _=>true
def rowAt (hp:List AObj) (id r:Nat):Option Cells :=
 match hget hp id with
 | .cells _ _ c=>if r=0 then some c else none
 | .fam _ k rows=>some (.i k (rows.getD r []))
 | _=>none
def rowOk (hp:List AObj) (id r:Nat):Bool :=
 match hget hp id with
 | .fam _ _ rows=>decide (r<rows.length)
 | _=>true
def frz (hp:List AObj):AV→Option (AV×List AObj)
 | .ref id 0 off n m=>match hget hp id with
  | .cells true _ c=>(match c with
   | .r _ _=>none
   | .g l=>if l.all isData then some (.sl n ((Cells.g l |>.drop off).take (n*m)),lset hp id (.cells true false c)) else none
   | c=>some (.sl n ((c.drop off).take (n*m)),lset hp id (.cells true false c)))
  | _=>none
 | v=>if isData v then some (v,hp) else none
def frzL (hp:List AObj):List AV→Option (List AV×List AObj)
 | []=>some ([],hp)
 | v::vs=>match frz hp v with
  | some (v',hp')=>match frzL hp' vs with
   | some (vs',hp'')=>some (v'::vs',hp'')
   | none=>none
  | none=>none
def deep1 (hp:List AObj):AV→Option AV
 | .ref id r off n m=>match rowAt hp id r with
  | some c=>some (.sl n (dataC hp ((c.drop off).take (n*m))))
  | none=>none
 | v=>if isData v then some v else none
def ok1 (hp:List AObj):AV→Bool
 | .ref id r off n m=>match rowAt hp id r with
  | some c=>rowOk hp id r&&okC hp ((c.drop off).take (n*m))
  | none=>false
 | _=>true
def deepL (hp:List AObj):List AV→Option (List AV)
 | []=>some []
 | v::vs=>match deep1 hp v,deepL hp vs with
  | some v',some vs'=>some (v'::vs')
  | _,_=>none
def deep (hp:List AObj):AV→Option AV
 | .agg cs=>(deepL hp cs).map .agg
 | v=>deep1 hp v
def okD (hp:List AObj):AV→Bool
 | .agg cs=>cs.all (ok1 hp)
 | v=>ok1 hp v
def deepArgs (hp:List AObj):List AV→Option (List AV)
 | []=>some []
 | v::vs=>match deep hp v,deepArgs hp vs with
  | some v',some vs'=>some (v'::vs')
  | _,_=>none
def refsOf1:AV→List Nat
 | .ref id _ _ _ _=>[id]
 | _=>[]
def refsOf:AV→List Nat
 | .agg cs=>cs.flatMap refsOf1
 | v=>refsOf1 v
def frozenOf:AObj→Option AObj
 | .cells a _ c=>some (.cells a false c)
 | .fam _ k rows=>some (.fam false k rows)
 | _=>none
def freezeAll (hp:List AObj):List Nat→List AObj
 | []=>hp
 | id::ids=>match frozenOf (hget hp id) with
  | some o=>freezeAll (lset hp id o) ids
  | none=>freezeAll hp ids
def famOf (hp:List AObj) (id:Nat):List Nat :=
 match hget hp id with
 | .cells _ _ (.r f _)=>(match hget hp f with
  | .fam _ _ _=>[f]
  | _=>[])
 | _=>[]
def expand (hp:List AObj) (ids:List Nat):List Nat:=ids.flatMap fun id=>famOf hp id++[id]
def frzIds (hp:List AObj) (ids:List Nat):List AObj:=freezeAll hp (expand hp ids)
def freeOf:AV→Bool
 | .undef=>true
 | .none_=>true
 | .bool _=>true
 | .int _ _=>true
 | .str _=>true
 | .nilS=>true
 | .nilP=>true
 | .nilF=>true
 | .ref _ _ _ _ _=>true
 | _=>false
def free2:AV→Bool
 | .agg cs=>cs.all freeOf
 | v=>freeOf v
def free3:AV→Bool
 | .tup vs=>vs.all free2
 | v=>free2 v
def freeC:Cells→Bool
 | .g l=>l.all freeOf
 | .i _ _=>true
 | .b _=>true
 | _=>false
structure Ans where
 v:AV
 rows:List Cells
def shift1 (b:Nat):AV→AV
 | .ref id r off n m=>.ref (id+b) r off n m
 | v=>v
def shift2 (b:Nat):AV→AV
 | .agg cs=>.agg (cs.map (shift1 b))
 | v=>shift1 b v
def shift (b:Nat):AV→AV
 | .tup vs=>.tup (vs.map (shift2 b))
 | v=>shift2 b v
def takeIn (hp:List AObj) (args:List AV) (r:Ans):AV×List AObj :=
 let hp1:=if free3 r.v&&r.rows.all freeC then hp else frzIds hp (args.flatMap refsOf)
 (shift hp.length r.v,hp1++r.rows.map (.cells true true))
inductive M (ρ:Type) where
 | done (r:ρ)
 | fail
 | ask (b:Bool) (k:Bool→M ρ)
 | chk (b:Bool) (k:M ρ)
 | call (f:FuncId) (args:List AV) (k:Ans→M ρ)
 | scall (f:AV) (args:List AV) (hp:List AObj) (k:AV→List AObj→M ρ)
 | loop (nest gc:Bool) (fl keep aft:Nat) (body:Code) (st:St) (k:Out→St→M ρ)
def M.bind {ρ σ:Type} (t:M ρ) (f:ρ→M σ):M σ :=
 M.rec (motive:=fun _=>M σ) f .fail (fun b _ ih=>.ask b ih) (fun b _ ih=>.chk b ih) (fun g a _ ih=>.call g a ih)
  (fun g a h _ ih=>.scall g a h ih) (fun ns gc fl kp af b st _ ih=>.loop ns gc fl kp af b st ih) t
def wr2 (h m:Int) (n:Int):Int:=Bool.rec (motive:=fun _=>Int) (n % m) (n % m-m) (decide (h≤n % m))
def wr (k:IntKind) (n:Int):Int :=
 match k with
 | .i64=>wr2 9223372036854775808 18446744073709551616 n
 | .i32=>wr2 2147483648 4294967296 n
 | .i16=>wr2 32768 65536 n
 | .i8=>wr2 128 256 n
 | .u64=>n % 18446744073709551616
 | .u32=>n % 4294967296
 | .u16=>n % 65536
 | .u8=>n % 256
theorem wr_eq (k:IntKind) (n:Int):wr k n=k.wrap n:=by
 have h2:∀ h m:Int,wr2 h m n=if n % m≥h then n % m-m else n % m:=by
  intro h m
  unfold wr2
  by_cases c:h≤n % m
  ·rw [decide_eq_true c,if_pos c]
  ·rw [decide_eq_false c,if_neg c]
 cases k <;> simp [wr,IntKind.wrap,IntKind.signed,IntKind.bits,h2]
section ops
variable (P:Program)
def lim:Nat:=1099511627776
def binM (t:TypeId) (op:BinOp) (x y:AV):M AV :=
 match x,y with
 | .int k a,.int k' b =>
  match op with
  | .shl=>.chk (decide (0≤b)) (.done (.int k (wr k (a*2^(min b.toNat k.bits)))))
  | .shr=>.chk (decide (0≤b)) (.done (.int k (a.fdiv (2^(min b.toNat k.bits)))))
  | op=>if k=k' then
   match op with
   | .add=>.done (.int k (wr k (a+b)))
   | .sub=>.done (.int k (wr k (a-b)))
   | .mul=>.done (.int k (wr k (a*b)))
   | .quo=>.chk (!(b==0)) (.done (.int k (wr k (a.tdiv b))))
   | .rem=>.chk (!(b==0)) (.done (.int k (a.tmod b)))
   | .and=>.done (.int k (wr k (BitVec.ofInt k.bits a &&& BitVec.ofInt k.bits b).toNat))
   | .or=>.done (.int k (wr k (BitVec.ofInt k.bits a ||| BitVec.ofInt k.bits b).toNat))
   | .xor=>.done (.int k (wr k (BitVec.ofInt k.bits a ^^^ BitVec.ofInt k.bits b).toNat))
   | .andNot=>.done (.int k (wr k (BitVec.ofInt k.bits a &&& ~~~ (BitVec.ofInt k.bits b)).toNat))
   | .eql=>.done (.bool (a==b))
   | .neq=>.done (.bool (a != b))
   | .lss=>.done (.bool (decide (a<b)))
   | .leq=>.done (.bool (decide (a≤b)))
   | .gtr=>.done (.bool (decide (a>b)))
   | .geq=>.done (.bool (decide (a≥b)))
   | _=>.fail
   else .fail
 | .bool a,.bool b=>match P.underlying t,op with
  | some .bool,.eql=>.done (.bool (a==b))
  | some .bool,.neq=>.done (.bool (!(a==b)))
  | _,_=>.fail
 | .nilS,.nilS=>match P.underlying t,op with
  | some (.slice _),.eql=>.done (.bool true)
  | some (.slice _),.neq=>.done (.bool false)
  | _,_=>.fail
 | .ref _ _ _ _ _,.nilS=>match P.underlying t,op with
  | some (.slice _),.eql=>.done (.bool false)
  | some (.slice _),.neq=>.done (.bool true)
  | _,_=>.fail
 | .nz,.nilS=>match P.underlying t,op with
  | some (.slice _),.eql=>.done (.bool false)
  | some (.slice _),.neq=>.done (.bool true)
  | _,_=>.fail
 | .sl n _,.nilS=>match P.underlying t,op with
  | some (.slice _),.eql=>.chk (decide (0<n)) (.done (.bool false))
  | some (.slice _),.neq=>.chk (decide (0<n)) (.done (.bool true))
  | _,_=>.fail
 | _,_=>.fail
def unM (op:UnOp) (x:AV):M AV :=
 match op,x with
 | .neg,.int k n=>.done (.int k (wr k (0-n)))
 | .xor,.int k n=>.done (.int k (wr k (BitVec.ofInt k.bits (if k.signed then -1 else k.max) ^^^ BitVec.ofInt k.bits n).toNat))
 | .not,.bool b=>.done (.bool (!b))
 | _,_=>.fail
def loadM (hp:List AObj) (t:TypeId) (a:AV):M AV :=
 match a with
 | .ptr id r off=>match rowAt hp id r with
  | some c=>(match taggO P t with
   | some true=>.chk (rowOk hp id r&&decide (off+tsize P t≤c.len)) (match c with
    | .g l=>.done (.agg ((l.drop off).take (tsize P t)))
    | .i k l=>.done (.agg (((l.drop off).take (tsize P t)).map (.int k)))
    | _=>.fail)
   | some false=>.chk (rowOk hp id r&&okAV hp c off) (.done (getAV hp c off))
   | none=>.fail)
  | none=>.fail
 | .fptr c off=>(match taggO P t with
  | some true=>.chk (decide (off+tsize P t≤c.len)) (match c with
    | .g l=>.done (.agg ((l.drop off).take (tsize P t)))
    | .i k l=>.done (.agg (((l.drop off).take (tsize P t)).map (.int k)))
    | _=>.fail)
  | some false=>(match c with
   | .r _ _=>.fail
   | c=>.chk (decide (off<c.len)) (.done (c.get off)))
  | none=>.fail)
 | _=>.fail
def solid:AV→Bool
 | .undef=>false
 | .none_=>false
 | .agg _=>false
 | .tup _=>false
 | _=>true
def fitsC (c:Cells) (v:AV):Bool :=
 match c,v with
 | .m _ _,.sl n (.i _ l)=>decide (n=l.length)
 | _,_=>true
def fitsR:AV→Bool
 | .sl n (.i _ l)=>decide (n=l.length)
 | _=>true
def setAll (c:Cells) (off:Nat):List AV→Cells
 | []=>c
 | v::vs=>setAll (c.set off v) (off+1) vs
def moveRow (hp:List AObj) (f idw:Nat) (k:IntKind) (rows:List (List Int)) (l:List Int):List AObj :=
 lset (lset hp idw .dead) f (.fam true k (rows++[l]))
def storeM (hp:List AObj) (t:TypeId) (a x:AV):M (List AObj) :=
 if !((cellsOf x).all solid) || (cellsOf x).length != tsize P t || !decide (0<tsize P t) then .fail else
 match a with
 | .ptr id r off=>match hget hp id with
  | .cells true true (.r f pos)=>(match x,hget hp f with
   | .ref id2 r2 0 n m,.fam true k rows=>if id2=f then
     .chk (decide (off<pos.length)&&decide (r2<rows.length)&&decide (n=(rows.getD r2 []).length)&&decide (m=1))
      (.done (lset hp id (.cells true true (.r f (pos.set off r2)))))
    else (match hget hp id2 with
     | .cells true true (.i k2 l)=>if k2=k then
       .chk (decide (r2=0)&&decide (off<pos.length)&&decide (n=l.length)&&decide (m=1)&&decide (rows.length<1048576))
        (.done (lset (moveRow hp f id2 k rows l) id (.cells true true (.r f (pos.set off rows.length)))))
      else .fail
     | _=>.fail)
   | _,_=>.fail)
  | .cells true true _=>(match frzL hp (cellsOf x) with
   | some (vs,hp')=>(match hget hp' id with
    | .cells true true (.r _ _)=>.fail
    | .cells true true c=>.chk (decide (r=0)&&decide (off+vs.length≤c.len)&&vs.all (fitsC c)) (.done (lset hp' id (.cells true true (setAll c off vs))))
    | _=>.fail)
   | none=>.fail)
  | .cells false true (.g l)=>.chk (decide (r=0)&&decide (off+(cellsOf x).length≤l.length)) (.done (lset hp id (.cells false true (setAll (.g l) off (cellsOf x)))))
  | .fam true k rows=>(match x with
   | .int k2 v=>if k2=k then .chk (decide (r<rows.length)&&decide (off<(rows.getD r []).length))
     (.done (lset hp id (.fam true k (rows.set r ((rows.getD r []).set off v))))) else .fail
   | _=>.fail)
  | _=>.fail
 | _=>.fail
def fieldOf (s:TypeId) (f:Nat):Option Field :=
 match P.underlying s with
 | some (.struct fs)=>fs[f]?
 | _=>none
def indexM (t:TypeId) (x ix:AV):M AV :=
 match ix with
 | .int _ i=>match P.underlying t,x with
  | some (.slice e),.ref id r off n _=>.chk (decide (0≤i)&&decide (i<n)&&decide (0<tsize P e)) (.done (.ptr id r (off+i.toNat*tsize P e)))
  | some (.slice e),.sl n c=>.chk (decide (0≤i)&&decide (i<n)&&decide (0<tsize P e)) (.done (.fptr c (i.toNat*tsize P e)))
  | some (.array n e),.ptr id r off=>.chk (decide (0≤i)&&decide (i<n)&&decide (0<tsize P e)) (.done (.ptr id r (off+i.toNat*tsize P e)))
  | some (.array n e),.fptr c off=>.chk (decide (0≤i)&&decide (i<n)&&decide (0<tsize P e)) (.done (.fptr c (off+i.toNat*tsize P e)))
  | _,_=>.fail
 | _=>.fail
def valIndexM (t:TypeId) (x ix:AV):M AV :=
 match ix,P.underlying t,x with
 | .int _ i,some (.array n e),.agg cs=>.chk (decide (0≤i)&&decide (i<n)) (match part P e cs (i.toNat*tsize P e) with | some v=>.done v | none=>.fail)
 | _,_,_=>.fail
def optInt (d:Nat):Option AV→Option Int
 | none=>some d
 | some (.int _ n)=>some n
 | _=>none
def maxInt (h:Int) (hi mx:Option AV):Option Int :=
 match hi,mx with
 | _,none=>some h
 | some _,some v=>optInt 0 (some v)
 | none,some _=>none
def sliceM (hp:List AObj) (t:TypeId) (x:AV) (lo hi mx:Option AV):M AV :=
 match P.underlying t,x with
 | some (.slice e),.ref id r off n m =>
  match optInt 0 lo,optInt n hi with
  | some l,some h =>
   match maxInt h hi mx with
   | some q=>.chk (decide (0≤l)&&decide (l≤h)&&decide (h≤q)&&decide (q≤n)&&decide (m=tsize P e)&&decide (0<tsize P e))
     (.ask (decide (l<h)) fun b=>if b then .done (.ref id r (off+l.toNat*tsize P e) (h.toNat-l.toNat) m) else .done (.sl 0 (.g [])))
   | none=>.fail
  | _,_=>.fail
 | some (.slice e),.sl n c =>
  match optInt 0 lo,optInt n hi with
  | some l,some h =>
   match maxInt h hi mx with
   | some q=>.chk (decide (0≤l)&&decide (l≤h)&&decide (h≤q)&&decide (q≤n)&&decide (c.len=n*tsize P e)&&decide (0<tsize P e))
     (.done (.sl (h.toNat-l.toNat) ((c.drop (l.toNat*tsize P e)).take ((h.toNat-l.toNat)*tsize P e))))
   | none=>.fail
  | _,_=>.fail
 | some (.slice e),.nilS =>
  match optInt 0 lo,optInt 0 hi with
  | some l,some h =>
   match maxInt h hi mx with
   | some q=>.chk (decide (l=0)&&decide (h=0)&&decide (q=0)&&decide (0<tsize P e)) (.done .nilS)
   | none=>.fail
  | _,_=>.fail
 | some (.array n e),.ptr id r off =>
  match optInt 0 lo,optInt n hi,mx,rowAt hp id r with
  | some l,some h,none,some c=>.chk (decide (0≤l)&&decide (l<h)&&decide (h≤n)&&rowOk hp id r&&decide (off+n*tsize P e≤c.len)&&decide (n≤lim)&&decide (0<tsize P e)) (.done (.ref id r (off+l.toNat*tsize P e) (h.toNat-l.toNat) (tsize P e)))
  | _,_,_,_=>.fail
 | _,_=>.fail
def fillAll (place:Nat→Option (Nat×Nat)) (cs:List AV):List (Nat×AV)→Option (List AV)
 | []=>some cs
 | (i,v)::rest=>match place i with
  | none=>none
  | some (off,size) =>
   if isUndef v || (cellsOf v).length != size || !decide (off+size≤cs.length) then none
   else fillAll place (cs.take off++cellsOf v++cs.drop (off+size)) rest
def buildM (t:TypeId) (parts:List (Nat×AV)):M AV :=
 match tzero P t,P.underlying t with
 | some z,some (.struct fs)=>match fillAll (fun i=>(fs[i]?).map fun f=>(f.offset,tsize P f.type)) z parts with
  | some cs=>if fs.toList.all fun f=>(P.info? f.type).isSome then .done (.agg cs) else .fail
  | none=>.fail
 | some z,some (.array _ e)=>match fillAll (fun i=>some (i*tsize P e,tsize P e)) z parts with
  | some cs=>if (P.info? e).isSome then .done (.agg cs) else .fail
  | none=>.fail
 | _,_=>.fail
def reps (z:List AV):Nat→List AV
 | 0=>[]
 | n+1=>z++reps z n
def partsL (nest:Bool) (hp:List AObj) (l:List AV):Option (List AV×List AObj) :=
 if nest then some (l,hp) else frzL hp l
def buildSliceM (nest:Bool) (hp:List AObj) (t:TypeId) (len:Nat) (parts:List (Nat×AV)):M (AV×List AObj) :=
 match P.underlying t with
 | some (.slice e)=>match tzero P e with
  | some z=>match fillAll (fun i=>some (i*tsize P e,tsize P e)) (reps z len) parts with
   | some cs0=>match partsL nest hp cs0 with
    | some (cs,hp')=>if decide (cs.length=len*tsize P e)&&decide (0<tsize P e)&&decide (len*tsize P e≤65536) then
      .chk (cs.all fitsR) <| .done ((.ref hp'.length 0 0 len (tsize P e)),(hp'++[.cells true true (ofAVs (emptyOf P e) cs)])) else .fail
    | none=>.fail
   | none=>.fail
  | none=>.fail
 | _=>.fail
def repsC (e:Cells) (z:List AV) (n:Nat):Cells :=
 match e,z with
 | .i k _,[.int k' a]=>if k'=k then .i k (List.replicate n a) else .g (reps z n)
 | .m k _,[.nilS]=>.m k (List.replicate n [])
 | .b _,[.bool a]=>.b (List.replicate n a)
 | _,z=>.g (reps z n)
def makeSliceM (nest:Bool) (hp:List AObj) (t:TypeId) (l c:AV):M (AV×List AObj) :=
 match P.underlying t,l,c with
 | some (.slice e),.int _ l,.int _ c=>match tzero P e with
  | some z=>if decide (z.length=tsize P e)&&decide (0<tsize P e) then
    .chk (decide (0≤l)&&decide (l≤c)&&decide (c*(tbytes P e+1:Nat)≤lim))
    (match nest,emptyOf P e with
    | true,.m k _=>.chk (decide (tsize P e=1)) <| .done ((.ref (hp.length+1) 0 0 l.toNat (tsize P e)),(hp++[.fam true k [],.cells true true (.r hp.length (List.replicate l.toNat lim))]))
    | _,em=>.done ((.ref hp.length 0 0 l.toNat (tsize P e)),(hp++[.cells true true (repsC em z l.toNat)]))) else .fail
  | none=>.fail
 | _,_,_=>.fail
def contents (hp:List AObj):AV→Option (Nat×Cells)
 | .nilS=>some (0,.g [])
 | .nz=>some (0,.g [])
 | .sl n c=>some (n,c)
 | .ref id r off n m=>match rowAt hp id r with
  | some (.r _ _)=>none
  | some c=>some (n,(c.drop off).take (n*m))
  | none=>none
 | _=>none
def okContents (hp:List AObj):AV→Bool
 | .ref id r _ _ _=>rowOk hp id r
 | .sl _ (.r _ _)=>false
 | _=>true
def retype (e c:Cells):Cells:=match c with | .g l=>ofAVs e l | c=>c
def fitsRe (c:Cells):Bool:=match c with | .g l=>l.all fitsR&&l.all solid | .r _ _=>false | _=>true
def rowIn (hp:List AObj) (k:IntKind):AV→Option (Nat×List Int)
 | .ref id 0 0 n m=>match hget hp id with
  | .cells true true (.i k2 l)=>if k2=k then some (id,l) else none
  | _=>none
 | _=>none
def fullRef (l:List Int):AV→Bool
 | .ref _ _ _ n m=>decide (n=l.length)&&decide (m=1)
 | _=>false
def okE (e:TypeId):Bool :=
 match tzero P e with
 | some z=>decide (z.length=tsize P e)&&decide (0<tsize P e)
 | none=>false
def appendM (nest:Bool) (hp:List AObj) (t:TypeId) (s x:AV):M (AV×List AObj) :=
 match P.underlying t with
 | some (.slice e)=>if okE P e then
  match nest,emptyOf P e,x with
  | true,.m k _,.ref idx 0 0 1 1 =>
   (match hget hp idx with
   | .cells true true (.g [w])=>(match rowIn hp k w with
    | some (idw,l)=>(match s with
     | .nilS=>.chk (fullRef l w&&decide (tsize P e=1)&&decide (tbytes P e+1≤lim)) (.done ((.ref (hp.length+1) 0 0 1 1),(lset (moveRow (hp++[.fam true k []]) hp.length idw k [] l) idx .dead++[.cells true true (.r hp.length [0])])))
     | .ref id 0 0 sn sm=>(match hget hp id with
      | .cells true true (.r f pos)=>(match hget hp f with
       | .fam true k2 rows=>if k2=k then
         .chk (fullRef l w&&decide (sn=pos.length)&&decide (sm=1)&&decide (tsize P e=1)&&decide (rows.length<1048576)&&decide ((sn+1)*(tbytes P e+1)≤lim))
          (.done ((.ref hp.length 0 0 (sn+1) 1),(lset (lset (moveRow hp f idw k rows l) idx .dead) id .dead++[.cells true true (.r f (pos++[rows.length]))]))) else .fail
       | _=>.fail)
      | _=>.fail)
     | _=>.fail)
    | none=>.fail)
   | _=>.fail)
  | _,em,x=>match contents hp x with
   | some (n,ys0) =>
    let ys:=retype em ys0
    .chk (okContents hp x&&fitsRe ys0) (match s with
    | .nilS=>.chk (decide (ys.len=n*tsize P e)&&decide (n*(tbytes P e+1)≤lim)&&decide (0<tsize P e))
      (.ask (decide (0<n)) fun b=>if b then .done ((.ref hp.length 0 0 n (tsize P e)),(hp++[.cells true true ys])) else .done (.nilS,hp))
    | .ref id 0 0 sn sm=>(match hget hp id with
     | .cells true true (.r _ _)=>.fail
     | .cells true true c=>.chk (decide (c.len=sn*tsize P e)&&decide (sm=tsize P e)&&decide (ys.len=n*tsize P e)&&decide ((sn+n)*(tbytes P e+1)≤lim)&&decide (0<tsize P e))
       (.done ((.ref hp.length 0 0 (sn+n) (tsize P e)),(lset hp id .dead++[.cells true true (c.app ys)])))
     | _=>.fail)
    | _=>.fail)
   | none=>.fail
  else .fail
 | _=>.fail
def copyM (hp:List AObj) (t:TypeId) (d x:AV):M (AV×List AObj) :=
 match P.underlying t with
 | some (.slice e) =>
  match contents hp x,d with
  | some (n,ys),.ref id r 0 dn dm=>.chk (okContents hp x) (match hget hp id,ys with
   | .cells true true (.i k l),.i k2 l2=>if k2=k then
     .chk (decide (r=0)&&decide (n=dn)&&decide (l2.length=n)&&decide (dm=1)&&decide (l.length=dn)&&decide (tsize P e=1))
     (.done ((.int .i64 n),(lset hp id (.cells true true (.i k l2))))) else .fail
   | .fam true k rows,.i k2 l2=>if k2=k then
     .chk (decide (r<rows.length)&&decide (n=dn)&&decide (l2.length=n)&&decide (dm=1)&&decide ((rows.getD r []).length=dn)&&decide (tsize P e=1))
     (.done ((.int .i64 n),(lset hp id (.fam true k (rows.set r l2))))) else .fail
   | _,_=>.fail)
  | _,_=>.fail
 | _=>.fail
def lenM (t:TypeId) (x:AV):M AV :=
 match P.underlying t,x with
 | some (.slice _),.nilS=>.done (.int .i64 0)
 | some (.slice _),.sl n _=>.done (.int .i64 n)
 | some (.slice _),.ref _ _ _ n _=>.done (.int .i64 n)
 | some (.array n _),_=>.done (.int .i64 n)
 | _,_=>.fail
def minmaxM (mx:Bool) (x y:AV):M AV :=
 match x,y with
 | .int k a,.int k' b=>if k=k' then .done (.int k (if mx then max a b else min a b)) else .fail
 | _,_=>.fail
def dataTy (P:Program):Nat→TypeId→Bool
 | 0,_=>false
 | d+1,t=>match P.underlying t with
  | some (.int _)=>true
  | some .bool=>true
  | some .string=>true
  | some (.slice e)=>dataTy P d e
  | some (.array _ e)=>dataTy P d e
  | some (.struct fs)=>fs.toList.all fun f=>dataTy P d f.type
  | _=>false
def plainRes (P:Program) (g:FuncId):Bool :=
 match P.funcs[g]? with
 | some fn=>fn.resultTypes.toList.all (dataTy P 8)
 | none=>false
structure Cfg where
 nest:FuncId→Bool
 shared:FuncId→Bool
 ok:FuncId→Bool
 ro:FuncId→Bool
 fz:FuncId→Bool
def eqLA {α:Type} (f:α→α→Bool):List α→List α→Bool
 | [],[]=>true
 | a::asl,b::bs=>f a b&&eqLA f asl bs
 | _,_=>false
def same0:Cells→Cells→Bool
 | .i k l,.i k' l'=>decide (k=k')&&decide (l=l')
 | .m k l,.m k' l'=>decide (k=k')&&decide (l=l')
 | .b l,.b l'=>decide (l=l')
 | .r f l,.r f' l'=>decide (f=f')&&decide (l=l')
 | .g [],.g []=>true
 | _,_=>false
def same1:AV→AV→Bool
 | .undef,.undef=>true
 | .none_,.none_=>true
 | .nilS,.nilS=>true
 | .nilP,.nilP=>true
 | .nilF,.nilF=>true
 | .bool a,.bool b=>decide (a=b)
 | .int k n,.int k' n'=>decide (k=k')&&decide (n=n')
 | .sl n c,.sl n' c'=>decide (n=n')&&same0 c c'
 | .ref a b c d e,.ref a' b' c' d' e'=>decide (a=a')&&(decide (b=b')&&(decide (c=c')&&(decide (d=d')&&decide (e=e'))))
 | .ptr a b c,.ptr a' b' c'=>decide (a=a')&&(decide (b=b')&&decide (c=c'))
 | .yld a,.yld a'=>decide (a=a')
 | _,_=>false
def same2:AV→AV→Bool
 | .fn f cs,.fn f' cs'=>decide (f=f')&&eqLA same1 cs cs'
 | .agg cs,.agg cs'=>eqLA same1 cs cs'
 | .tup cs,.tup cs'=>eqLA same1 cs cs'
 | a,b=>same1 a b
def sameC:Cells→Cells→Bool
 | .g l,.g l'=>eqLA same2 l l'
 | a,b=>same0 a b
def sameO:AObj→AObj→Bool
 | .dead,.dead=>true
 | .cells a m c,.cells a' m' c'=>decide (a=a')&&(decide (m=m')&&sameC c c')
 | .fam m k l,.fam m' k' l'=>decide (m=m')&&(decide (k=k')&&decide (l=l'))
 | _,_=>false
def sameHp:List AObj→List AObj→Bool
 | [],_=>true
 | a::asl,b::bs=>sameO a b&&sameHp asl bs
 | _,_=>false
def scM (nf:Cfg) (g:FuncId) (f:AV) (args:List AV) (hp:List AObj):M (AV×List AObj) :=
 match nf.ro g with
 | true=>.scall f args hp fun v hp'=>.chk (sameHp hp hp') (.done (v,hp'))
 | false=>.scall f args hp fun v hp'=>.done (v,hp')
def callG (nf:Cfg) (hp:List AObj) (g:FuncId) (f:AV) (args all:List AV):M (AV×List AObj) :=
 if plainRes P g&&!nf.shared g then (match deepArgs hp all with
  | some ds=>.chk (all.all (okD hp)) (.call g ds fun r=>let q:=takeIn hp all r;.done (q.1,q.2))
  | none=>scM nf g f args hp) else scM nf g f args hp
def callM (nf:Cfg) (hp:List AObj) (f:AV) (args:List AV):M (AV×List AObj) :=
 match f with
 | .fn g caps=>if nf.ok g then callG P nf hp g (.fn g caps) args (args++caps) else
  if nf.ok (g-1048576)&&Nat.ble 1048576 g then callG P nf hp (g-1048576) (.fn (g-1048576) []) (.agg caps::args) (.agg caps::args) else .fail
 | .yld _=>.scall f args hp fun v hp'=>.done (v,hp')
 | _=>.fail
def opE (nf:Cfg) (nest:Bool) (ev:Operand→AV) (hp:List AObj) (o:Oper):M (AV×List AObj) :=
 match o.op with
 | .move x | .assign x=>.done ((ev x),hp)
 | .pick c a b=>match ev c with
  | .bool t=>.ask t fun t=>.done (if t then ev a else ev b,hp)
  | _=>.fail
 | .alloc t=>match tzero P t with
  | some z=>if decide (0<z.length) then .done ((.ptr hp.length 0 0),(hp++[.cells false true (.g z)])) else .fail
  | none=>.fail
 | .box _ x=>if isUndef (ev x) then .fail else .done ((.ptr hp.length 0 0),(hp++[.cells false true (.g (cellsOf (ev x)))]))
 | .build t parts=>buildM P t (parts.toList.map fun p=>(p.1,ev p.2)) |>.bind fun v=>.done (v,hp)
 | .buildSlice t n parts=>buildSliceM P nest hp t n (parts.toList.map fun p=>(p.1,ev p.2)) 
 | .load t a=>loadM P hp t (ev a) |>.bind fun v=>.done (v,hp)
 | .store t a x=>storeM P hp t (ev a) (ev x) |>.bind fun hp'=>.done (.none_,hp')
 | .nilCheck x=>match ev x with
  | .ptr id r off=>.done ((.ptr id r off),hp)
  | .fptr c off=>.done ((.fptr c off),hp)
  | .fn f cs=>.done ((.fn f cs),hp)
  | _=>.fail
 | .binOp op t x y _=>binM P t op (ev x) (ev y) |>.bind fun v=>.done (v,hp)
 | .unOp op _ x=>unM op (ev x) |>.bind fun v=>.done (v,hp)
 | .convert src dst x=>match P.underlying src,P.underlying dst,ev x with
  | some _,some (.int k),.int _ n=>.done ((.int k (wr k n)),hp)
  | _,_,_=>.fail
 | .makeFunc (.func f) first caps=>if decide (first.size=0)&&Nat.blt f 1048576 then .done ((.fn f (caps.toList.map ev)),hp) else
  if decide (caps.size=0) then (match first.toList.map ev with
   | [.agg cs]=>.done ((.fn (f+1048576) cs),hp)
   | _=>.fail) else .fail
 | .makeSlice t l c=>makeSliceM P nest hp t (ev l) (ev c) 
 | .slice t x lo hi mx=>sliceM P hp t (ev x) (lo.map ev) (hi.map ev) (mx.map ev) |>.bind fun v=>.done (v,hp)
 | .fieldAddr s x f=>match fieldOf P s f,ev x with
  | some fd,.ptr id r off=>if decide (0<tsize P fd.type) then .done ((.ptr id r (off+fd.offset)),hp) else .fail
  | some fd,.fptr c off=>if decide (0<tsize P fd.type) then .done ((.fptr c (off+fd.offset)),hp) else .fail
  | _,_=>.fail
 | .field t x f=>match fieldOf P t f,ev x with
  | some fd,.agg cs=>match part P fd.type cs fd.offset with
   | some v=>.done (v,hp)
   | none=>.fail
  | _,_=>.fail
 | .indexAddr t x i=>indexM P t (ev x) (ev i) |>.bind fun v=>.done (v,hp)
 | .index t x i=>valIndexM P t (ev x) (ev i) |>.bind fun v=>.done (v,hp)
 | .extract t i=>match ev t with
  | .tup vs=>match vs[i]? with
   | some v=>.done (v,hp)
   | none=>.fail
  | _=>.fail
 | .call c=>match c.callee with
  | .value f=>callM P nf hp (ev f) (c.args.toList.map ev) 
  | .builtin .len=>match c.argTypes.toList,c.args.toList with
   | t::_,x::_=>lenM P t (ev x) |>.bind fun v=>.done (v,hp)
   | _,_=>.fail
  | .builtin .append=>match c.argTypes.toList,c.args.toList with
   | [t,tx],[s,x]=>(match P.underlying tx with
    | some (.slice _)=>appendM P nest hp t (ev s) (ev x)
    | _=>.fail)
   | _,_=>.fail
  | .builtin .copy=>match c.argTypes.toList,c.args.toList with
   | [t,tx],[s,x]=>(match P.underlying tx with
    | some (.slice _)=>copyM P hp t (ev s) (ev x)
    | _=>.fail)
   | _,_=>.fail
  | .builtin .max=>match c.args.toList with
   | [x,y]=>minmaxM true (ev x) (ev y) |>.bind fun v=>.done (v,hp)
   | _=>.fail
  | .builtin .min=>match c.args.toList with
   | [x,y]=>minmaxM false (ev x) (ev y) |>.bind fun v=>.done (v,hp)
   | _=>.fail
  | _=>.fail
 | _=>.fail
def opM (nf:Cfg) (nest:Bool) (st:St) (o:Oper):M (AV×List AObj):=opE P nf nest (oev st.tm) st.hp o
def pureE (ev:Operand→AV) (o:Oper):Option (M AV) :=
 match o.op with
 | .move x | .assign x=>some (.done (ev x))
 | .pick c a b=>match ev c with
  | .bool t=>some (.ask t fun t=>.done (if t then ev a else ev b))
  | _=>none
 | .build t parts=>some (buildM P t (parts.toList.map fun p=>(p.1,ev p.2)))
 | .nilCheck x=>match ev x with
  | .ptr id r off=>some (.done (.ptr id r off))
  | .fptr c off=>some (.done (.fptr c off))
  | .fn f cs=>some (.done (.fn f cs))
  | _=>none
 | .binOp op t x y _=>some (binM P t op (ev x) (ev y))
 | .unOp op _ x=>some (unM op (ev x))
 | .makeFunc (.func f) first caps=>if decide (first.size=0)&&Nat.blt f 1048576 then some (.done (.fn f (caps.toList.map ev))) else none
 | .fieldAddr s x f=>match fieldOf P s f,ev x with
  | some fd,.ptr id r off=>if decide (0<tsize P fd.type) then some (.done (.ptr id r (off+fd.offset))) else none
  | some fd,.fptr c off=>if decide (0<tsize P fd.type) then some (.done (.fptr c (off+fd.offset))) else none
  | _,_=>none
 | .field t x f=>match fieldOf P t f,ev x with
  | some fd,.agg cs=>match part P fd.type cs fd.offset with
   | some v=>some (.done v)
   | none=>none
  | _,_=>none
 | .indexAddr t x i=>some (indexM P t (ev x) (ev i))
 | .index t x i=>some (valIndexM P t (ev x) (ev i))
 | .extract t i=>match ev t with
  | .tup vs=>match vs[i]? with
   | some v=>some (.done v)
   | none=>none
  | _=>none
 | .call c=>match c.callee with
  | .builtin .len=>match c.argTypes.toList,c.args.toList with
   | t::_,x::_=>some (lenM P t (ev x))
   | _,_=>none
  | _=>none
 | _=>none
def put (tm:List AV) (d:Option Tmp) (v:AV):List AV :=
 match d with
 | some t=>lset tm t v
 | none=>tm
def guardV {ρ:Type} (ops:Array Oper) (tm:List AV) (o:Oper) (κ:Bool→List AV→M ρ):M ρ :=
 match o.guard with
 | none=>κ true tm
 | some (j,want)=>match (lget default ops.toList j).dst with
  | some t=>(match lget .none_ tm t with
   | .bool b=>.ask b fun b=>κ (b==want) (lset tm t (.bool b))
   | .none_=>κ false tm
   | _=>.fail)
  | none=>.fail
def setO (tm:List AV) (c:Operand) (b:Bool):List AV :=
 match c with
 | .tmp t=>lset tm t (.bool b)
 | _=>tm
def opsM {ρ:Type} (nf:Cfg) (nest:Bool) (ops:Array Oper):List Oper→St→(St→M ρ)→M ρ
 | [],st,κ=>κ st
 | o::rest,st,κ=>guardV ops st.tm o fun b tm =>
  if b then (opM P nf nest ⟨tm,st.hp⟩ o).bind fun p=>opsM nf nest ops rest ⟨put tm o.dst p.1,p.2⟩ κ
  else opsM nf nest ops rest ⟨put tm o.dst .none_,st.hp⟩ κ
end ops
def bit (t:Nat):Nat:=1 <<< t
def rdO:Operand→Nat
 | .tmp t=>bit t
 | _=>0
def rdOs (l:List Operand):Nat:=l.foldl (fun s x=>s ||| rdO x) 0
def minus (a b:Nat):Nat:=a ^^^ (a &&& b)
def rdOper (ops:Array Oper) (o:Oper):Nat :=
 rdOs o.op.operands.toList ||| (match o.guard with | some (j,_)=>(match (ops[j]?).bind (·.dst) with | some t=>bit t | none=>0) | none=>0)
def rdRegion (ops:Array Oper):Nat:=ops.toList.foldl (fun s o=>s ||| rdOper ops o) 0
def reads (res:Nat):Code→Nat
 | .region _ ops _=>rdRegion ops
 | .seq a b=>reads res a ||| reads res b
 | .cond c a b=>rdO c ||| reads res a ||| reads res b
 | .block _ b=>reads res b
 | .loop b=>reads res b
 | .rangeFunc f _ a b=>rdO f ||| reads res a ||| reads res b
 | .scope b=>reads res b
 | .ret=>res
 | _=>0
structure An where
 ue:Nat
 md:Option Nat
 ex:List (Nat×Nat)
def meetD:Option Nat→Option Nat→Option Nat
 | some a,some b=>some (a &&& b)
 | some a,none=>some a
 | none,b=>b
def anaOps (ops:Array Oper):List Oper→Nat→Nat→Nat×Nat
 | [],ue,d=>(ue,d)
 | o::r,ue,d =>
  let ue':=ue ||| minus (rdOper ops o) d
  let d':=match o.dst,o.guard with | some t,none=>d ||| bit t | _,_=>d
  anaOps ops r ue' d'
def ana (res:Nat):Code→Nat→An
 | .region _ ops _,d=>let q:=anaOps ops ops.toList 0 d;⟨q.1,some q.2,[]⟩
 | .seq a b,d=>let A:=ana res a d
  match A.md with
  | none=>A
  | some d1=>let B:=ana res b d1;⟨A.ue ||| B.ue,B.md,A.ex++B.ex⟩
 | .cond c a b,d=>let A:=ana res a d;let B:=ana res b d;⟨minus (rdO c) d ||| A.ue ||| B.ue,meetD A.md B.md,A.ex++B.ex⟩
 | .block id b,d=>let B:=ana res b d;⟨B.ue,(B.ex.filter fun p=>p.1==id).foldl (fun s p=>meetD s (some p.2)) B.md,B.ex.filter fun p=>p.1 != id⟩
 | .loop b,d=>let B:=ana res b d;⟨B.ue,none,B.ex⟩
 | .rangeFunc f ps a b,d=>let d':=ps.foldl (fun s t=>s ||| bit t) d
  ⟨minus (rdO f) d ||| minus (reads res a) d' ||| minus (reads res b) d',some d,[]⟩
 | .scope b,d=>ana res b d
 | .exit id,d=>⟨0,none,[(id,d)]⟩
 | .ret,d=>⟨minus res d,none,[]⟩
 | _,d=>⟨0,some d,[]⟩
def killFrom (keep:Nat):Nat→List AV→List AV
 | _,[]=>[]
 | i,v::vs=>(if keep.testBit i then v else .undef)::killFrom keep (i+1) vs
def ids1:AV→List Nat
 | .ref id _ _ _ _=>[id]
 | .ptr id _ _=>[id]
 | .yld id=>[id]
 | _=>[]
def ids2:AV→List Nat
 | .fn _ cs=>cs.flatMap ids1
 | .agg cs=>cs.flatMap ids1
 | .tup vs=>vs.flatMap ids1
 | v=>ids1 v
def idsC:Cells→List Nat
 | .g l=>l.flatMap ids2
 | _=>[]
def idsObj:AObj→List Nat
 | .cells _ _ (.r f _)=>[f]
 | .cells _ _ c=>idsC c
 | .loop _ tm _ _ _ _ _ _=>tm.flatMap ids2
 | _=>[]
def reach (hp:List AObj):Nat→List Nat→List Nat→List Nat
 | 0,_,seen=>seen
 | _+1,[],seen=>seen
 | k+1,id::todo,seen=>if seen.contains id then reach hp k todo seen else
   reach hp k (todo++idsObj (hget hp id)) (seen++[id])
def ren1 (seen:List Nat):AV→AV
 | .ref id r off n m=>if seen.contains id then .ref (seen.idxOf id) r off n m else .undef
 | .ptr id r off=>if seen.contains id then .ptr (seen.idxOf id) r off else .undef
 | .yld id=>if seen.contains id then .yld (seen.idxOf id) else .undef
 | .fn _ _=>.undef
 | .agg _=>.undef
 | .tup _=>.undef
 | v=>v
def ren2 (seen:List Nat):AV→AV
 | .fn f cs=>.fn f (cs.map (ren1 seen))
 | .agg cs=>.agg (cs.map (ren1 seen))
 | .tup vs=>.tup (vs.map (ren1 seen))
 | v=>ren1 seen v
def renC (seen:List Nat):Cells→Cells
 | .g l=>.g (l.map (ren2 seen))
 | .r f pos=>if seen.contains f then .r (seen.idxOf f) pos else .g []
 | c=>c
def renObj (seen:List Nat):AObj→AObj
 | .cells a mt c=>.cells a mt (renC seen c)
 | .fam mt k rows=>.fam mt k rows
 | .loop ns tm ps a b aft r p=>.loop ns (tm.map (ren2 seen)) ps a b aft r p
 | .dead=>.dead
def gcSt (st:St):St :=
 let seen:=reach st.hp (st.hp.length+st.hp.length+st.tm.length+1000) (st.tm.flatMap ids2) []
 ⟨st.tm.map (ren2 seen),seen.map fun id=>renObj seen (hget st.hp id)⟩
def nrm (gc:Bool) (keep:Nat) (st:St):St :=
 let st1:St:=⟨killFrom keep 0 st.tm,st.hp⟩
 if gc then gcSt st1 else st1
structure Stp where
 c2:Bool
 fam:Bool
 ro:Bool
 U:List Nat
 n:Nat
 n':Nat
 K:List Nat
def touches (s:Stp) (id:Nat):Bool:=(s.c2&&(s.U.contains id&&!s.K.contains id)) || (decide (s.n≤id)&&decide (id<s.n'))
def clash (a b:Stp):Bool:=(a.U.any fun id=>touches b id) || (a.fam&&(b.c2 || b.ro))
def uOf (s:Stp):Nat→Bool:=fun i=>s.U.contains i || (decide (s.n≤i)&&decide (i<s.n'))
def hide (U:List Nat):Nat→List AObj→List AObj
 | _,[]=>[]
 | i,o::os=>(if U.contains i then o else .dead)::hide U (i+1) os
def mergeU (U:List Nat):Nat→List AObj→List AObj→List AObj
 | _,[],new=>new
 | i,o::os,[]=>o::os
 | i,o::os,o'::new=>(if U.contains i then o' else o)::mergeU U (i+1) os new
def within1 (U:Nat→Bool):AV→Bool
 | .ref id _ _ _ _=>U id
 | .ptr id _ _=>U id
 | .yld id=>U id
 | .fn _ _=>false
 | .agg _=>false
 | .tup _=>false
 | _=>true
def within2 (U:Nat→Bool):AV→Bool
 | .agg cs=>cs.all (within1 U)
 | v=>within1 U v
def within (U:Nat→Bool):AV→Bool
 | .fn _ cs=>cs.all (within1 U)
 | .agg cs=>cs.all (within1 U)
 | .tup cs=>cs.all (within2 U)
 | v=>within1 U v
def withinO (U:Nat→Bool):AObj→Bool
 | .dead=>false
 | .cells _ _ (.g l)=>l.all (within U)
 | .cells _ _ (.r f _)=>U f
 | .cells _ _ _=>true
 | .fam _ _ _=>true
 | .loop _ tm _ _ _ _ _ _=>tm.all (within U)
def withinP (U:Nat→Bool) (o:AObj):Bool :=
 match o with
 | .dead=>true
 | o=>withinO U o
def mtOf:AObj→Bool
 | .cells _ mt _=>mt
 | .fam mt _ _=>mt
 | _=>false
def isRO:AObj→Bool
 | .cells _ _ (.r _ _)=>true
 | _=>false
def masks (ops:List Oper):List Nat :=
 ops.foldl (fun acc o=>acc++[o.after.toList.foldl (fun s e=>if Region.binds .any e then s ||| (bit e.on ||| acc.getD e.on 0) else s) 0]) []
def namesOf (ops:Array Oper) (o:Oper):Nat:=rdOper ops o ||| (match o.dst with | some t=>bit t | none=>0)
def drawOk (ops:Array Oper):Bool :=
 let ms:=masks ops.toList
 let ns:=ops.toList.map (namesOf ops)
 let dd:=ops.toList.map fun o=>(match o.dst with | some t=>bit t | none=>0)
 (ops.toList.zipIdx.all fun p=>p.1.after.toList.all fun e=>!(Region.binds .any e) || decide (e.on<p.2)) &&
 (List.range ops.size).all fun j=>(List.range j).all fun i =>
  (ms.getD j 0).testBit i || ((dd.getD i 0 &&& ns.getD j 0)==0&&(dd.getD j 0 &&& ns.getD i 0)==0)
def isStore:Op→Bool
 | .store _ _ _=>true
 | _=>false
def lastB (ops:Array Oper):Bool :=
 match ops[ops.size-1]? with
 | none=>false
 | some o=>isStore o.op&&(drawOk ops.pop&&((List.range (ops.size-1)).all (fun i=>((masks ops.toList).getD (ops.size-1) 0).testBit i) &&
   ops.toList.all fun o=>match o.guard with | none=>true | some g=>decide (g.1<ops.size-1)))
def okCode:Code→Bool
 | .region _ ops draw=>!draw || drawOk ops
 | .seq a b=>okCode a&&okCode b
 | .cond _ a b=>okCode a&&okCode b
 | .block _ b=>okCode b
 | .loop b=>okCode b
 | .rangeFunc _ _ a b=>okCode a&&okCode b
 | .scope b=>okCode b
 | _=>true
def firstReg:Code→Option Nat
 | .region id _ _=>some id
 | .seq a b=>(firstReg a).or (firstReg b)
 | .cond _ a b=>(firstReg a).or (firstReg b)
 | .block _ b=>firstReg b
 | .loop b=>(firstReg b).map (·+512)
 | .rangeFunc _ _ a b=>(firstReg a).or (firstReg b)
 | .scope b=>firstReg b
 | _=>none
def labOf (b:Code):Nat:=(firstReg b).getD 0 % 4096
def flOf (fi:Nat) (b:Code):Nat:=if fi=0 then 0 else fi*4096+labOf b
def loopsOf:Code→List Code
 | .seq a b=>loopsOf a++loopsOf b
 | .cond _ a b=>loopsOf a++loopsOf b
 | .block _ b=>loopsOf b
 | .loop b=>b::loopsOf b
 | .rangeFunc _ _ a b=>loopsOf a++loopsOf b
 | .scope b=>loopsOf b
 | _=>[]
def codeOf (P:Program) (f:Nat):Code:=match P.funcs[f]? with
 | some fn=>fn.body.getD .skip
 | none=>.skip
def lkf (P:Program) (fl:Nat):Code:=((loopsOf (codeOf P (fl / 4096))).find? fun b=>labOf b==fl % 4096).getD .skip
section exec
variable (P:Program) {ρ:Type}
def setPs:List AV→List Nat→List AV→List AV
 | tm,p::ps,x::xs=>setPs (tm.set p x) ps xs
 | tm,_,_=>tm
def c2Of (nf:Cfg) (nest:Bool) (ev:Operand→AV) (hp:List AObj) (o:Oper) (p:AV×List AObj):Bool :=
 match o.op with
 | .store _ _ _=>true
 | .buildSlice _ _ _=>!nest
 | .call c=>(match c.callee with
  | .builtin .len=>false
  | .builtin .min=>false
  | .builtin .max=>false
  | .builtin .append=>(match nest,c.args.toList.map ev with
   | false,.nilS::_=>false
   | _,_=>true)
  | .value f=>(match ev f with
   | .fn g caps=>if !nf.ok g then true else if plainRes P g&&!nf.shared g&&(deepArgs hp (c.args.toList.map ev++caps)).isSome then
     ((expand hp ((c.args.toList.map ev++caps).flatMap refsOf)).any fun id=>mtOf (hget hp id))&&!(free3 p.1&&(p.2.drop hp.length).all fun o=>match o with | .cells _ _ c=>freeC c | _=>false)
    else !(nf.ro g)
   | _=>true)
  | _=>true)
 | _=>false
def isFamO:AObj→Bool
 | .fam _ _ _=>true
 | _=>false
def noClash (ms:List Nat) (k:Nat) (s:Stp) (recs:List Stp):Bool :=
 recs.zipIdx.all fun q=>(ms.getD k 0).testBit q.2 || !(clash q.1 s || clash s q.1)
def stpOf (nf:Cfg) (nest:Bool) (tmK:List AV) (U:List Nat) (hp:List AObj) (o:Oper) (p:AV×List AObj):Stp :=
 ⟨c2Of P nf nest (oev tmK) (hide U 0 hp) o p,c2Of P nf nest (oev tmK) (hide U 0 hp) o p&&(U.any fun id=>isFamO (hget hp id)),(p.2.drop hp.length).any isRO,U,hp.length,p.2.length,[]⟩
def recK (U:List Nat) (hp:List AObj):List Nat:=U.filter fun id=>match hget hp id with | .cells false _ (.g _)=>true | _=>false
def sameK (K:List Nat) (hp hp':List AObj):Bool:=K.all fun id=>sameO (hget hp id) (hget hp' id)
def loadR (ev:Operand→AV) (hp:List AObj) (o:Oper):Option (Nat×M AV) :=
 match o.op with
 | .load t a=>(match ev a with
  | .ptr id r off=>(match hget hp id with
   | .cells false _ (.g _)=>some (id,loadM P hp t (.ptr id r off))
   | _=>none)
  | _=>none)
 | _=>none
def ldStp (id n:Nat):Stp:=⟨false,false,false,[id],n,n,[]⟩
def roOf (hp:List AObj) (U:List Nat):List Nat :=
 (List.range hp.length).filter fun id=>match hget hp id with | .cells _ _ (.r f _)=>U.contains f&&!U.contains id | _=>false
def withRO (hp:List AObj) (U:List Nat):List Nat:=if U.any fun id=>isFamO (hget hp id) then U++roOf hp U else U
def reachAll (st:St) (tmK:List AV):List Nat:=withRO st.hp (reach st.hp (st.hp.length+st.hp.length+st.tm.length+1000) (tmK.flatMap ids2) [])
def regD (nf:Cfg) (nest:Bool) (ops:Array Oper) (ms:List Nat):List Oper→Nat→List Stp→St→(St→M ρ)→M ρ
 | [],_,_,st,κ=>κ st
 | o::rest,k,recs,st,κ=>guardV ops st.tm o fun b tm =>
  if b then
   let tmK:=killFrom (rdOper ops o) 0 tm
   match pureE P (oev tmK) o with
   | some t=>t.bind fun v=>regD nf nest ops ms rest (k+1) (recs++[⟨false,false,false,[],st.hp.length,st.hp.length,[]⟩]) ⟨put tm o.dst v,st.hp⟩ κ
   | none =>
   match loadR P (oev tmK) st.hp o with
   | some (id,t)=>t.bind fun v=>if decide (id<st.hp.length)&&noClash ms k (ldStp id st.hp.length) recs then regD nf nest ops ms rest (k+1) (recs++[ldStp id st.hp.length]) ⟨put tm o.dst v,st.hp⟩ κ else .fail
   | none =>
   let U:=reachAll st tmK
   if (U.all fun id=>decide (id<st.hp.length)&&withinO (fun i=>U.contains i) (hget st.hp id))&&tmK.all (within fun i=>U.contains i) then
    (opM P nf nest ⟨tmK,hide U 0 st.hp⟩ o).bind fun p =>
     let s:Stp:=stpOf P nf nest tmK U st.hp o p
     if decide (s.n≤s.n')&&within (uOf s) p.1&&((List.range s.n').all fun i=>!(uOf s i) || withinP (uOf s) (hget p.2 i))&&(!s.fam || (List.range s.n).all fun id=>!isRO (hget st.hp id) || U.contains id) then
      if noClash ms k s recs then regD nf nest ops ms rest (k+1) (recs++[s]) ⟨put tm o.dst p.1,mergeU U 0 st.hp p.2⟩ κ
      else .chk (noClash ms k { s with K:=recK U st.hp } recs&&sameK (recK U st.hp) st.hp p.2) (regD nf nest ops ms rest (k+1) (recs++[{ s with K:=recK U st.hp }]) ⟨put tm o.dst p.1,mergeU U 0 st.hp p.2⟩ κ)
     else .fail
   else .fail
  else regD nf nest ops ms rest (k+1) (recs++[⟨false,false,false,[],st.hp.length,st.hp.length,[]⟩]) ⟨put tm o.dst .none_,st.hp⟩ κ
def callsTo (p:FuncId→Bool) (o:Oper):Bool :=
 match o.op with
 | .call c=>(match c.callee with
  | .value f=>(match oev [] f with
   | .fn g _=>p g
   | _=>false)
  | _=>false)
 | _=>false
def isArr:AObj→Bool
 | .cells true _ _=>true
 | _=>false
def fzS (nf:Cfg) (ops:Array Oper) (st:St):St :=
 ⟨st.tm,match ops.toList.filter (callsTo nf.fz) with
  | _::_::_=>freezeAll st.hp ((List.range st.hp.length).filter fun id=>isArr (hget st.hp id))
  | _=>st.hp⟩
def execC (nf:Cfg) (nest gc:Bool) (fi res:Nat):Code→Nat→St→(Out→St→M ρ)→M ρ
 | .skip,_,st,κ=>κ .normal st
 | .region _ ops draw,_,st,κ=>if draw then (match lastB ops with
  | true=>regD P nf nest ops.pop (masks ops.pop.toList) ops.pop.toList 0 [] (fzS nf ops st) fun st'=>opsM P nf nest ops [lget default ops.toList (ops.size-1)] st' fun st'=>κ .normal st'
  | false=>regD P nf nest ops (masks ops.toList) ops.toList 0 [] (fzS nf ops st) fun st'=>κ .normal st') else opsM P nf nest ops ops.toList st fun st'=>κ .normal st'
 | .seq a b,aft,st,κ=>execC nf nest gc fi res a (reads res b ||| aft) st fun
  | .normal,st'=>execC nf nest gc fi res b aft st' κ
  | e,st'=>κ e st'
 | .cond c a b,aft,st,κ=>match oev st.tm c with
  | .bool t=>.ask t fun t=>if t then execC nf nest gc fi res a aft ⟨setO st.tm c t,st.hp⟩ κ else execC nf nest gc fi res b aft ⟨setO st.tm c t,st.hp⟩ κ
  | _=>.fail
 | .block id b,aft,st,κ=>execC nf nest gc fi res b aft st fun
  | .exit i,st'=>if i=id then κ .normal st' else κ (.exit i) st'
  | e,st'=>κ e st'
 | .loop b,aft,st,κ=>.loop nest gc (flOf fi b) ((ana res b 0).ue ||| aft) (aft ||| reads res b) b st κ
 | .rangeFunc f ps a b,aft,st,κ =>
  match oev st.tm f with
  | .fn g caps=>if !nf.ok g then .fail else
   let l:=st.hp.length
   .scall (.fn g caps) [.yld l] (st.hp++[.loop nest st.tm ps.toList a b aft true .normal]) fun _ hp =>
    match hget hp l with
    | .loop _ _ _ _ _ _ ready pend=>if ready || decide (pend≠.normal) then κ pend ⟨st.tm,lset hp l .dead⟩ else .fail
    | _=>.fail
  | _=>.fail
 | .exit id,_,st,κ=>κ (.exit id) st
 | .ret,_,st,κ=>κ .ret st
 | _,_,_,_=>.fail
def resMask (fn:Func):Nat:=fn.results.toList.foldl (fun s r=>s ||| (match r with | .tmp t=>bit t | .cell a _=>bit a)) 0
def resM (tm:List AV) (hp:List AObj):List ResultVar→M (List AV)
 | []=>.done []
 | .tmp t::rs=>(resM tm hp rs).bind fun vs=>.done (lget .none_ tm t::vs)
 | .cell a t::rs=>(loadM P hp t (lget .none_ tm a)).bind fun v=>(resM tm hp rs).bind fun vs=>.done (v::vs)
def tupOf:List AV→AV
 | [v]=>v
 | vs=>.tup vs
def bodyM (nf:Cfg) (gc:Bool) (f:FuncId) (args:List AV) (hp:List AObj):M (AV×List AObj) :=
 match P.funcs[f]? with
 | some fn=>match fn.body with
  | some c =>
   if nf.ok f&&decide (args.length≤fn.ntmps) then
   execC P nf (nf.nest f) gc f (resMask fn) c (resMask fn) ⟨args++List.replicate (fn.ntmps-args.length) .none_,hp⟩ fun
    | .exit _,_=>.fail
    | _,st=>(resM P st.tm st.hp fn.results.toList).bind fun vs=>.done (tupOf vs,st.hp)
   else .fail
  | none=>.fail
 | none=>.fail
def pack1 (hp:List AObj) (seen:List Nat):AV→Option (AV×List Nat)
 | .ref id r off n m=>match hget hp id with
  | .cells true true (.i k l)=>if r=0 then (if seen.contains id then some (.ref (seen.idxOf id) 0 off n m,seen) else some (.ref seen.length 0 off n m,seen++[id])) else none
  | .cells true true (.b l)=>if r=0 then (if seen.contains id then some (.ref (seen.idxOf id) 0 off n m,seen) else some (.ref seen.length 0 off n m,seen++[id])) else none
  | .cells true true (.m k l)=>if r=0 then (if seen.contains id then some (.ref (seen.idxOf id) 0 off n m,seen) else some (.ref seen.length 0 off n m,seen++[id])) else none
  | .cells true true (.g l)=>if r=0&&l.all isData then (if seen.contains id then some (.ref (seen.idxOf id) 0 off n m,seen) else some (.ref seen.length 0 off n m,seen++[id])) else none
  | _=>match rowAt hp id r with
   | some c=>some (.sl n (dataC hp ((c.drop off).take (n*m))),seen)
   | none=>none
 | v=>if isData v then some (v,seen) else none
def packL (hp:List AObj) (seen:List Nat):List AV→Option (List AV×List Nat)
 | []=>some ([],seen)
 | v::vs=>match pack1 hp seen v with
  | some (v',s)=>match packL hp s vs with
   | some (vs',s')=>some (v'::vs',s')
   | none=>none
  | none=>none
def pack2 (hp:List AObj) (seen:List Nat):AV→Option (AV×List Nat)
 | .agg cs=>match packL hp seen cs with
  | some (cs',s)=>some (.agg cs',s)
  | none=>none
 | v=>pack1 hp seen v
def packL2 (hp:List AObj) (seen:List Nat):List AV→Option (List AV×List Nat)
 | []=>some ([],seen)
 | v::vs=>match pack2 hp seen v with
  | some (v',s)=>match packL2 hp s vs with
   | some (vs',s')=>some (v'::vs',s')
   | none=>none
  | none=>none
def rowsOf (hp:List AObj):List Nat→List Cells
 | []=>[]
 | id::ids=>(match hget hp id with | .cells _ _ c=>c | _=>.g [])::rowsOf hp ids
def pack (v:AV) (hp:List AObj):M Ans :=
 match v with
 | .tup vs=>match packL2 hp [] vs with
  | some (vs',s)=>.chk (vs.all (okD hp)) (.done ⟨.tup vs',rowsOf hp s⟩)
  | none=>.fail
 | v=>match pack2 hp [] v with
  | some (v',s)=>.chk (okD hp v) (.done ⟨v',rowsOf hp s⟩)
  | none=>.fail
def callT (nf:Cfg) (f:FuncId) (args:List AV):M Ans:=(bodyM P nf true f args []).bind fun p=>pack p.1 p.2
def scallT (nf:Cfg) (f:AV) (args:List AV) (hp:List AObj):M (AV×List AObj) :=
 match f with
 | .fn g caps=>bodyM P nf false g (args++caps) hp
 | .yld l=>match hget hp l with
  | .loop ns tm ps a b aft true _ =>
   if ps.length=args.length then
   execC P nf ns false 0 0 a (reads 0 b ||| aft) ⟨setPs tm ps args,hp⟩ fun
    | .normal,st=>(match hget st.hp l with
     | .loop ns2 tm2 ps2 a2 b2 aft2 true .normal=>execC P nf ns false 0 0 b aft ⟨st.tm,lset st.hp l (.loop ns2 tm2 ps2 a2 b2 aft2 false .normal)⟩ fun e st' =>
      (match hget st'.hp l with
      | .loop ns tm ps a b aft false _=>.done (.bool (decide (e=.normal)),lset st'.hp l (.loop ns tm ps a b aft (decide (e=.normal)) e))
      | _=>.fail)
     | _=>.fail)
    | _,_=>.fail
   else .fail
  | _=>.fail
 | _=>.fail
def roundT (nf:Cfg) (nest gc:Bool) (fl res keep aft:Nat) (body:Code) (st:St):M (Out×St) :=
 execC P nf nest gc (fl / 4096) res body aft (nrm gc keep st) fun e st'=>.done (e,st')
end exec
def M.ev {ρ:Type} (call:FuncId→List AV→Option Ans) (scall:AV→List AV→List AObj→Option (AV×List AObj)) (loop:Bool→Bool→Nat→Nat→Nat→Code→St→Option (Out×St)) (t:M ρ):Option ρ :=
 M.rec (motive:=fun _=>Option ρ) (fun r=>some r) none (fun b _ ih=>ih b) (fun b _ ih=>Bool.rec (motive:=fun _=>Option ρ) none ih b)
  (fun f a _ ih=>Option.rec (motive:=fun _=>Option ρ) none (fun r=>ih r) (call f a))
  (fun f a h _ ih=>Option.rec (motive:=fun _=>Option ρ) none (fun r=>ih r.1 r.2) (scall f a h))
  (fun ns g fl kp af b st _ ih=>Option.rec (motive:=fun _=>Option ρ) none (fun r=>ih r.1 r.2) (loop ns g fl kp af b st)) t
structure Runner where
 call:FuncId→List AV→Option Ans
 scall:AV→List AV→List AObj→Option (AV×List AObj)
 loop:Bool→Bool→Nat→Nat→Nat→Code→St→Option (Out×St)
def Runner.none_:Runner:=⟨fun _ _=>none,fun _ _ _=>none,fun _ _ _ _ _ _ _=>none⟩
def Runner.next (P:Program) (nf:Cfg) (R:Runner):Runner where
 call f a:=(callT P nf f a).ev R.call R.scall R.loop
 scall f a h:=(scallT P nf f a h).ev R.call R.scall R.loop
 loop ns g fl kp af b st:=match (roundT P nf ns g fl 0 kp af b st).ev R.call R.scall R.loop with
  | some (.normal,st')=>R.loop ns g fl kp af b st'
  | r=>r
end
end Go.Proofs.Yticbdgmcofjkeaa.Ai
namespace Go.Proofs.Yticbdgmcofjkeaa.Ai
open Go
abbrev CRel:=FuncId→List AV→Ans→Prop
abbrev SRel:=AV→List AV→List AObj→AV→List AObj→Prop
abbrev LRel:=Bool→Bool→Nat→Nat→Nat→Code→St→Out→St→Prop
inductive Runs (C:CRel) (S:SRel) (L:LRel) {ρ:Type}:M ρ→ρ→Prop where
 | done (r:ρ):Runs C S L (.done r) r
 | ask {b:Bool} {k:Bool→M ρ} {r:ρ} (h:Runs C S L (k b) r):Runs C S L (.ask b k) r
 | chk {b:Bool} {k:M ρ} {r:ρ} (hb:b=true) (h:Runs C S L k r):Runs C S L (.chk b k) r
 | call {f:FuncId} {a:List AV} {k:Ans→M ρ} {x:Ans} {r:ρ} (hc:C f a x) (h:Runs C S L (k x) r):Runs C S L (.call f a k) r
 | scall {f:AV} {a:List AV} {hp:List AObj} {k:AV→List AObj→M ρ} {v:AV} {hp':List AObj} {r:ρ} (hc:S f a hp v hp') (h:Runs C S L (k v hp') r):Runs C S L (.scall f a hp k) r
 | loop {ns gc:Bool} {fl kp af:Nat} {b:Code} {st:St} {k:Out→St→M ρ} {o:Out} {st':St} {r:ρ} (hc:L ns gc fl kp af b st o st') (h:Runs C S L (k o st') r):Runs C S L (.loop ns gc fl kp af b st k) r
theorem Runs.mono {C C':CRel} {S S':SRel} {L L':LRel} (hC:∀ f a x,C f a x→C' f a x) (hS:∀ f a h v h',S f a h v h'→S' f a h v h')
  (hL:∀ ns gc fl kp af b st o st',L ns gc fl kp af b st o st'→L' ns gc fl kp af b st o st') {ρ:Type} {t:M ρ} {r:ρ} (h:Runs C S L t r):Runs C' S' L' t r:=by
 induction h with
 | done r=>exact .done r
 | ask _ ih=>exact .ask ih
 | chk hb _ ih=>exact .chk hb ih
 | call hc _ ih=>exact .call (hC _ _ _ hc) ih
 | scall hc _ ih=>exact .scall (hS _ _ _ _ _ hc) ih
 | loop hc _ ih=>exact .loop (hL _ _ _ _ _ _ _ _ _ hc) ih
@[simp] theorem M.bind_done {ρ σ:Type} (r:ρ) (f:ρ→M σ):(M.done r).bind f=f r:=rfl
@[simp] theorem M.bind_fail {ρ σ:Type} (f:ρ→M σ):(M.fail).bind f=.fail:=rfl
@[simp] theorem M.bind_ask {ρ σ:Type} (b:Bool) (k:Bool→M ρ) (f:ρ→M σ):(M.ask b k).bind f=.ask b fun c=>(k c).bind f:=rfl
@[simp] theorem M.bind_chk {ρ σ:Type} (b:Bool) (k:M ρ) (f:ρ→M σ):(M.chk b k).bind f=.chk b (k.bind f):=rfl
@[simp] theorem M.bind_call {ρ σ:Type} (g:FuncId) (a:List AV) (k:Ans→M ρ) (f:ρ→M σ):(M.call g a k).bind f=.call g a fun x=>(k x).bind f:=rfl
@[simp] theorem M.bind_scall {ρ σ:Type} (g:AV) (a:List AV) (h:List AObj) (k:AV→List AObj→M ρ) (f:ρ→M σ):(M.scall g a h k).bind f=.scall g a h fun v h'=>(k v h').bind f:=rfl
@[simp] theorem M.bind_loop {ρ σ:Type} (ns gc:Bool) (fl kp af:Nat) (b:Code) (st:St) (k:Out→St→M ρ) (f:ρ→M σ) :
  (M.loop ns gc fl kp af b st k).bind f=.loop ns gc fl kp af b st fun o st'=>(k o st').bind f:=rfl
section
variable {C:CRel} {S:SRel} {L:LRel}
theorem Runs.of_bind {ρ σ:Type} {t:M ρ} {f:ρ→M σ} {r:σ} (h:Runs C S L (t.bind f) r):∃ x,Runs C S L t x∧Runs C S L (f x) r:=by
 induction t with
 | done x=>exact ⟨x,.done x,h⟩
 | fail=>cases h
 | ask b k ih=>cases h with | ask h=>obtain ⟨x,h1,h2⟩:=ih b h;exact ⟨x,.ask h1,h2⟩
 | chk b k ih=>cases h with | chk hb h=>obtain ⟨x,h1,h2⟩:=ih h;exact ⟨x,.chk hb h1,h2⟩
 | call g a k ih=>cases h with | call hc h=>obtain ⟨x,h1,h2⟩:=ih _ h;exact ⟨x,.call hc h1,h2⟩
 | scall g a hp k ih=>cases h with | scall hc h=>obtain ⟨x,h1,h2⟩:=ih _ _ h;exact ⟨x,.scall hc h1,h2⟩
 | loop ns gc fl kp af b st k ih=>cases h with | loop hc h=>obtain ⟨x,h1,h2⟩:=ih _ _ h;exact ⟨x,.loop hc h1,h2⟩
theorem Runs.bind {ρ σ:Type} {t:M ρ} {f:ρ→M σ} {x:ρ} {r:σ} (h1:Runs C S L t x) (h2:Runs C S L (f x) r):Runs C S L (t.bind f) r:=by
 induction h1 with
 | done x=>exact h2
 | ask _ ih=>exact .ask (ih h2)
 | chk hb _ ih=>exact .chk hb (ih h2)
 | call hc _ ih=>exact .call hc (ih h2)
 | scall hc _ ih=>exact .scall hc (ih h2)
 | loop hc _ ih=>exact .loop hc (ih h2)
theorem Runs.done_inv {ρ:Type} {x r:ρ} (h:Runs C S L (.done x) r):r=x:=by cases h;rfl
theorem Runs.fail_inv {ρ:Type} {r:ρ} (h:Runs C S L (.fail) r):False:=by cases h
theorem Runs.ask_inv {ρ:Type} {b:Bool} {k:Bool→M ρ} {r:ρ} (h:Runs C S L (.ask b k) r):Runs C S L (k b) r:=by cases h;assumption
theorem Runs.chk_inv {ρ:Type} {b:Bool} {k:M ρ} {r:ρ} (h:Runs C S L (.chk b k) r):b=true∧Runs C S L k r:=by cases h;exact ⟨‹_›,‹_›⟩
end
structure Rels where
 C:CRel
 S:SRel
 L:LRel
def Rels.next (P:Program) (nf:Cfg) (R:Rels):Rels where
 C f a x:=R.C f a x∨Runs R.C R.S R.L (callT P nf f a) x
 S f a h v h':=R.S f a h v h'∨Runs R.C R.S R.L (scallT P nf f a h) (v,h')
 L ns gc fl kp af b st o st':=R.L ns gc fl kp af b st o st'∨(o≠.normal∧Runs R.C R.S R.L (roundT P nf ns gc fl 0 kp af b st) (o,st')) ∨
  ∃ st1,Runs R.C R.S R.L (roundT P nf ns gc fl 0 kp af b st) (.normal,st1)∧R.L ns gc fl kp af b st1 o st'
def Rels.base (B:CRel):Rels:=⟨B,fun _ _ _ _ _=>False,fun _ _ _ _ _ _ _ _ _=>False⟩
def rels (P:Program) (nf:Cfg) (B:CRel):Nat→Rels
 | 0=>Rels.base B
 | n+1=>(rels P nf B n).next P nf
section
variable (P:Program) (nf:Cfg) (B:CRel)
theorem rels_le {n m:Nat} (hm:n≤m):(∀ f a x,(rels P nf B n).C f a x→(rels P nf B m).C f a x)∧(∀ f a h v h',(rels P nf B n).S f a h v h'→(rels P nf B m).S f a h v h') ∧
  (∀ ns gc fl kp af b st o st',(rels P nf B n).L ns gc fl kp af b st o st'→(rels P nf B m).L ns gc fl kp af b st o st'):=by
 induction hm with
 | refl=>exact ⟨fun _ _ _ h=>h,fun _ _ _ _ _ h=>h,fun _ _ _ _ _ _ _ _ _ h=>h⟩
 | step _ ih=>exact ⟨fun f a x h=>.inl (ih.1 _ _ _ h),fun f a h v h' k=>.inl (ih.2.1 _ _ _ _ _ k),fun _ _ _ _ _ _ _ _ _ k=>.inl (ih.2.2 _ _ _ _ _ _ _ _ _ k)⟩
def CallR:CRel:=fun f a x=>∃ n,(rels P nf B n).C f a x
def SCallR:SRel:=fun f a h v h'=>∃ n,(rels P nf B n).S f a h v h'
def LoopR:LRel:=fun ns gc fl kp af b st o st'=>∃ n,(rels P nf B n).L ns gc fl kp af b st o st'
def RunsR {ρ:Type} (t:M ρ) (r:ρ):Prop:=Runs (CallR P nf B) (SCallR P nf B) (LoopR P nf B) t r
theorem RunsR.level {ρ:Type} {t:M ρ} {r:ρ} (h:RunsR P nf B t r):∃ n,Runs (rels P nf B n).C (rels P nf B n).S (rels P nf B n).L t r:=by
 have up:∀ {n m:Nat},n≤m→∀ {ρ:Type} {t:M ρ} {r:ρ},Runs (rels P nf B n).C (rels P nf B n).S (rels P nf B n).L t r→Runs (rels P nf B m).C (rels P nf B m).S (rels P nf B m).L t r :=
  fun hm _ _ _ h=>h.mono (rels_le P nf B hm).1 (rels_le P nf B hm).2.1 (rels_le P nf B hm).2.2
 unfold RunsR at h
 induction h with
 | done r=>exact ⟨0,.done r⟩
 | ask _ ih=>obtain ⟨n,h⟩:=ih;exact ⟨n,.ask h⟩
 | chk hb _ ih=>obtain ⟨n,h⟩:=ih;exact ⟨n,.chk hb h⟩
 | call hc _ ih =>
  obtain ⟨n,h⟩:=ih;obtain ⟨m,hc⟩:=hc
  exact ⟨max n m,.call ((rels_le P nf B (Nat.le_max_right n m)).1 _ _ _ hc) (up (Nat.le_max_left n m) h)⟩
 | scall hc _ ih =>
  obtain ⟨n,h⟩:=ih;obtain ⟨m,hc⟩:=hc
  exact ⟨max n m,.scall ((rels_le P nf B (Nat.le_max_right n m)).2.1 _ _ _ _ _ hc) (up (Nat.le_max_left n m) h)⟩
 | loop hc _ ih =>
  obtain ⟨n,h⟩:=ih;obtain ⟨m,hc⟩:=hc
  exact ⟨max n m,.loop ((rels_le P nf B (Nat.le_max_right n m)).2.2 _ _ _ _ _ _ _ _ _ hc) (up (Nat.le_max_left n m) h)⟩
variable {P nf B}
end
inductive Told where
 | bit (b:Bool)
 | call (x:Ans)
 | scall (v:AV) (hp:List AObj)
 | loop (o:Out) (st:St)
inductive Must where
 | bit (b c:Bool)
 | call (f:FuncId) (a:List AV) (x:Ans)
 | scall (f:AV) (a:List AV) (hp:List AObj) (v:AV) (hp':List AObj)
 | loop (ns gc:Bool) (fl kp af:Nat) (b:Code) (st:St) (o:Out) (st':St)
noncomputable def M.told {ρ:Type} (t:M ρ):List Told→Option (List Must×ρ) :=
 M.rec (motive:=fun _=>List Told→Option (List Must×ρ)) (fun r ts=>match ts with | []=>some ([],r) | _=>none) (fun _=>none)
  (fun b _ ih ts=>match ts with
   | .bit c::ts=>(ih c ts).map fun p=>(.bit b c::p.1,p.2)
   | _=>none)
  (fun b _ ih ts=>(ih ts).map fun p=>(.bit b true::p.1,p.2))
  (fun f a _ ih ts=>match ts with
   | .call x::ts=>(ih x ts).map fun p=>(.call f a x::p.1,p.2)
   | _=>none)
  (fun f a h _ ih ts=>match ts with
   | .scall v h'::ts=>(ih v h' ts).map fun p=>(.scall f a h v h'::p.1,p.2)
   | _=>none)
  (fun ns gc fl kp af b st _ ih ts=>match ts with
   | .loop o st'::ts=>(ih o st' ts).map fun p=>(.loop ns gc fl kp af b st o st'::p.1,p.2)
   | _=>none) t
def Must.ok (C:CRel) (S:SRel) (L:LRel):Must→Prop
 | .bit b c=>b=c
 | .call f a x=>C f a x
 | .scall f a hp v hp'=>S f a hp v hp'
 | .loop ns gc fl kp af b st o st'=>L ns gc fl kp af b st o st'
end Go.Proofs.Yticbdgmcofjkeaa.Ai
namespace Go.Proofs.Yticbdgmcofjkeaa.Ai
open Go Go.RowKit
abbrev Map:=Nat→Nat→Option Nat
def noMap:Map:=fun _ _=>none
inductive Rel:Map→(Nat→Prop)→World→AV→Value→Prop where
 | undef {β:Map} {F:Nat→Prop} {W:World} (v:Value):Rel β F W .undef v
 | none_ {β:Map} {F:Nat→Prop} {W:World}:Rel β F W .none_ Go.undef
 | bool {β:Map} {F:Nat→Prop} {W:World} (b:Bool):Rel β F W (.bool b) (.bool b)
 | int {β:Map} {F:Nat→Prop} {W:World} (k:IntKind) (n:Int):Rel β F W (.int k n) (.int k n)
 | str {β:Map} {F:Nat→Prop} {W:World} (s:ByteArray):Rel β F W (.str s) (.string s)
 | nilS {β:Map} {F:Nat→Prop} {W:World}:Rel β F W .nilS (.slice none 0 0)
 | sl0 {β:Map} {F:Nat→Prop} {W:World} (c:Cells) (A:Option Addr) (cap:Nat) (hA:A=none→cap=0):Rel β F W (.sl 0 c) (.slice A 0 cap)
 | nz {β:Map} {F:Nat→Prop} {W:World} (a:Addr) (cap:Nat):Rel β F W .nz (.slice (some a) 0 cap)
 | sl {β:Map} {F:Nat→Prop} {W:World} {n cap:Nat} {c:Cells} {b o:Nat} (u:Nat→Value) (hn:n≤cap) (hF:F b) (hc:∀ j,j<c.len→W.cell? ⟨b,o+j,none⟩=some (u j)) (hr:∀ j,j<c.len→Rel noMap F W (c.get j) (u j)) :
   Rel β F W (.sl n c) (.slice (some ⟨b,o,none⟩) n cap)
 | ref {β:Map} {F:Nat→Prop} {W:World} {id r off n m cap b z:Nat} {t:TypeId} (hn:n≤cap) (hm:cap≤maxLen) (hb:β id r=some b) (hz:∃ C,W.heap[b]?=some (.cells C t (0,0))∧C.size=z) (hfit:off+cap*m≤z):Rel β F W (.ref id r off n m) (.slice (some ⟨b,off,none⟩) n cap)
 | ptr {β:Map} {F:Nat→Prop} {W:World} {id r off b:Nat} (hb:β id r=some b):Rel β F W (.ptr id r off) (.pointer (some ⟨b,off,none⟩))
 | fptr {β:Map} {F:Nat→Prop} {W:World} {c:Cells} {b o off:Nat} (u:Nat→Value) (hF:F b) (hc:∀ j,j<c.len→W.cell? ⟨b,o+j,none⟩=some (u j)) (hr:∀ j,j<c.len→Rel noMap F W (c.get j) (u j)) :
   Rel β F W (.fptr c off) (.pointer (some ⟨b,o+off,none⟩))
 | nilP {β:Map} {F:Nat→Prop} {W:World}:Rel β F W .nilP (.pointer none)
 | fn {β:Map} {F:Nat→Prop} {W:World} {f:FuncId} {cs:List AV} {vs:Array Value} (hf:f<1048576) (hl:cs.length=vs.size) (hr:∀ j,j<cs.length→Rel β F W (cs.getD j .undef) (vs.getD j Go.undef)):Rel β F W (.fn f cs) (.func (.func f) #[] vs)
 | bfn {β:Map} {F:Nat→Prop} {W:World} {f:FuncId} {cs:List AV} {vs:Array Value} (hl:cs.length=vs.size) (hr:∀ j,j<cs.length→Rel β F W (cs.getD j .undef) (vs.getD j Go.undef)):Rel β F W (.fn (f+1048576) cs) (.func (.func f) #[.agg vs] #[])
 | nilF {β:Map} {F:Nat→Prop} {W:World}:Rel β F W .nilF .nilFunc
 | yld {β:Map} {F:Nat→Prop} {W:World} {l r:Nat} (hb:β l 0=some r):Rel β F W (.yld l) (.func (.yield r) #[] #[])
 | agg {β:Map} {F:Nat→Prop} {W:World} {cs:List AV} {vs:Array Value} (hl:cs.length=vs.size) (hr:∀ j,j<cs.length→Rel β F W (cs.getD j .undef) (vs.getD j Go.undef)):Rel β F W (.agg cs) (.agg vs)
 | tup {β:Map} {F:Nat→Prop} {W:World} {cs:List AV} {vs:Array Value} (hl:cs.length=vs.size) (hr:∀ j,j<cs.length→Rel β F W (cs.getD j .undef) (vs.getD j Go.undef)):Rel β F W (.tup cs) (.tuple vs)
structure Le (β:Map) (F:Nat→Prop) (W:World) (β':Map) (F':Nat→Prop) (W':World):Prop where
 map:∀ id r b,β id r=some b→β' id r=some b
 fro:∀ b,F b→F' b
 keep:∀ b,F b→W'.heap[b]?=W.heap[b]?
 size:W.heap.size≤W'.heap.size
 kdef:∀ (k:Nat) (ds:Option (List Deferred)),W.heap[k]?=some (Obj.deferred ds)→W'.heap[k]?=some (Obj.deferred ds)
 kloop:∀ (k:Nat) (r:Loop),W.heap[k]?=some (Obj.loop r)→∃ r':Loop,W'.heap[k]?=some (Obj.loop r')
 kcell:∀ (k:Nat) (C:Array Value) (t:TypeId),W.heap[k]?=some (Obj.cells C t (0,0))→∃ C',W'.heap[k]?=some (Obj.cells C' t (0,0))∧C'.size=C.size
theorem Le.refl (β:Map) (F:Nat→Prop) (W:World):Le β F W β F W:=⟨fun _ _ _ h=>h,fun _ h=>h,fun _ _=>rfl,Nat.le_refl _,fun _ _ h=>h,fun _ r h=>⟨r,h⟩,fun _ C _ h=>⟨C,h,rfl⟩⟩
theorem Le.trans {β β' β'':Map} {F F' F'':Nat→Prop} {W W' W'':World} (h:Le β F W β' F' W') (k:Le β' F' W' β'' F'' W''):Le β F W β'' F'' W'' :=
 ⟨fun id r b e=>k.map _ _ _ (h.map _ _ _ e),fun b e=>k.fro _ (h.fro _ e),fun b e=>(k.keep _ (h.fro _ e)).trans (h.keep _ e),Nat.le_trans h.size k.size,
  fun i ds e=>k.kdef _ _ (h.kdef _ _ e),fun i r e=>by obtain ⟨r',e'⟩:=h.kloop _ _ e;exact k.kloop _ _ e',fun i C t e=>by
   obtain ⟨C',e',z⟩:=h.kcell _ _ _ e;obtain ⟨C'',e'',z'⟩:=k.kcell _ _ _ e';exact ⟨C'',e'',z'.trans z⟩⟩
theorem cell_of_block {W W':World} {b:Nat} (h:W'.heap[b]?=W.heap[b]?) (o:Nat):W'.cell? ⟨b,o,none⟩=W.cell? ⟨b,o,none⟩:=by
 simp only [World.cell?,h]
theorem Le.none {β β':Map} {F F':Nat→Prop} {W W':World} (hl:Le β F W β' F' W'):Le noMap F W noMap F' W' :=
 ⟨fun _ _ _ e=>(by cases e),hl.fro,hl.keep,hl.size,hl.kdef,hl.kloop,hl.kcell⟩
theorem Rel.mono {β β':Map} {F F':Nat→Prop} {W W':World} (hl:Le β F W β' F' W') {a:AV} {v:Value} (h:Rel β F W a v):Rel β' F' W' a v:=by
 induction h generalizing β' with
 | undef v=>exact .undef v
 | none_=>exact .none_
 | bool b=>exact .bool b
 | int k n=>exact .int k n
 | str s=>exact .str s
 | nilS=>exact .nilS
 | nz a cap=>exact .nz a cap
 | sl0 c A cap hA=>exact .sl0 c A cap hA
 | sl u hn hF hc hr ih=>exact .sl u hn (hl.fro _ hF) (fun j hj=>(cell_of_block (hl.keep _ hF) _).trans (hc j hj)) (fun j hj=>ih j hj hl.none)
 | ref hn hm hb hz hfit =>
  obtain ⟨C,e,z⟩:=hz
  obtain ⟨C',e',z'⟩:=hl.kcell _ _ _ e
  exact .ref hn hm (hl.map _ _ _ hb) ⟨C',e',z'.trans z⟩ hfit
 | ptr hb=>exact .ptr (hl.map _ _ _ hb)
 | fptr u hF hc hr ih=>exact .fptr u (hl.fro _ hF) (fun j hj=>(cell_of_block (hl.keep _ hF) _).trans (hc j hj)) (fun j hj=>ih j hj hl.none)
 | nilP=>exact .nilP
 | fn hf h _ ih=>exact .fn hf h (fun j hj=>ih j hj hl)
 | bfn h _ ih=>exact .bfn h (fun j hj=>ih j hj hl)
 | nilF=>exact .nilF
 | yld hb=>exact .yld (hl.map _ _ _ hb)
 | agg h _ ih=>exact .agg h (fun j hj=>ih j hj hl)
 | tup h _ ih=>exact .tup h (fun j hj=>ih j hj hl)
theorem Rel.up {β:Map} {F:Nat→Prop} {W:World} {a:AV} {v:Value} (h:Rel noMap F W a v):Rel β F W a v :=
 h.mono ⟨fun _ _ _ e=>(by cases e),fun _ x=>x,fun _ _=>rfl,Nat.le_refl _,fun _ _ x=>x,fun _ r x=>⟨r,x⟩,fun _ C _ x=>⟨C,x,rfl⟩⟩
theorem Rel.data {β:Map} {F:Nat→Prop} {W:World} {a:AV} {v:Value} (hd:isData a=true) (h:Rel β F W a v):Rel noMap F W a v:=by
 cases h with
 | bool b=>exact .bool b
 | int k n=>exact .int k n
 | str s=>exact .str s
 | nilS=>exact .nilS
 | nz a cap=>exact .nz a cap
 | sl0 c A cap hA=>exact .sl0 c A cap hA
 | sl u hn hF hc hr=>exact .sl u hn hF hc hr
 | nilP=>exact .nilP
 | nilF=>exact .nilF
 | _=>cases hd
def RelL (β:Map) (F:Nat→Prop) (W:World) (cs:List AV) (vs:Array Value):Prop :=
 cs.length=vs.size∧∀ j,j<cs.length→Rel β F W (cs.getD j .undef) (vs.getD j Go.undef)
theorem RelL.mono {β β':Map} {F F':Nat→Prop} {W W':World} (hl:Le β F W β' F' W') {a:List AV} {v:Array Value} (h:RelL β F W a v):RelL β' F' W' a v :=
 ⟨h.1,fun j hj=>(h.2 j hj).mono hl⟩
def TRel (β:Map) (F:Nat→Prop) (W:World) (tm:List AV) (ts:Array Value):Prop :=
 tm.length=ts.size∧∀ j,Rel β F W (lget .none_ tm j) (ts.getD j Go.undef)
theorem TRel.mono {β β':Map} {F F':Nat→Prop} {W W':World} (hl:Le β F W β' F' W') {a:List AV} {v:Array Value} (h:TRel β F W a v):TRel β' F' W' a v :=
 ⟨h.1,fun j=>(h.2 j).mono hl⟩
def isFam:AObj→Bool
 | .fam _ _ _=>true
 | _=>false
def wfC (hp:List AObj) (c:Cells):Prop :=
 match c with
 | .r f pos=>f<hp.length∧∃ mt k rows,hget hp f=.fam mt k rows∧rows.length<lim∧∀ j,j<pos.length→pos.getD j 0<rows.length∨pos.getD j 0=lim
 | _=>True
def isDead:AObj→Bool
 | .dead=>true
 | _=>false
def stOf (ready:Bool) (pend:Out):LoopState :=
 match ready,pend with
 | true,_=>.ready
 | false,.normal=>.busy
 | false,_=>.done
def jumpOf:Out→Option Code
 | .normal=>none
 | .ret=>some .ret
 | .exit i=>some (.exit i)
def ORel (β:Map) (F:Nat→Prop) (W:World) (hp:List AObj) (id r b:Nat):Prop :=
 match hget hp id with
 | .dead=>True
 | .cells _ mt c=>r=0∧(mt=true→¬ F b)∧(mt=false→F b)∧∃ C t,W.heap[b]?=some (.cells C t (0,0))∧c.len≤C.size∧wfC hp c ∧
   ∀ j,j<c.len→okAV hp c j=true→Rel β F W (getAV hp c j) (C.getD j Go.undef)
 | .fam mt k rows=>r<rows.length∧(mt=true→¬ F b)∧(mt=false→F b)∧∃ C t,W.heap[b]?=some (.cells C t (0,0))∧(rows.getD r []).length≤C.size ∧
   ∀ j,j<(rows.getD r []).length→C.getD j Go.undef=.int k ((rows.getD r []).getD j 0)
 | .loop _ tm ps as_ bd _ ready pend=>r=0∧¬ F b∧∃ rec:Loop,W.heap[b]?=some (.loop rec)∧TRel β F W tm rec.tmps∧rec.params.toList=ps∧rec.assign=as_∧rec.body=bd ∧
   rec.state=stOf ready pend∧rec.pending=jumpOf pend∧okCode as_=true∧okCode bd=true
structure Env where
 N:Nat→Prop
 w0:World
 F0:Nat→Prop
structure Keeps (E:Env) (W:World):Prop where
 os:W.os=E.w0.os
 tape:W.tape=E.w0.tape
 output:W.output=E.w0.output
 size:E.w0.heap.size≤W.heap.size
 block:∀ k,E.N k→W.heap[k]?=E.w0.heap[k]?
structure HInv (E:Env) (β:Map) (F:Nat→Prop) (hp:List AObj) (W:World):Prop where
 base:∀ b,E.N b→b<E.w0.heap.size
 fin:∀ b,F b→E.N b→E.F0 b
 below:Keeps E W
 lt:∀ id r b,β id r=some b→¬ E.N b∧b<W.heap.size
 fcell:∀ b,F b→∃ C t fr,W.heap[b]?=some (Obj.cells C t fr)
 obj:∀ id r b,β id r=some b→ORel β F W hp id r b
 inj:∀ id r id' r' b,β id r=some b→β id' r'=some b→isDead (hget hp id)=false→isDead (hget hp id')=false→id=id'∧r=r'
 fresh:∀ id r,hp.length≤id→β id r=none
theorem HInv.flt {E:Env} {β:Map} {F:Nat→Prop} {hp:List AObj} {W:World} (h:HInv E β F hp W):∀ b,F b→b<W.heap.size:=fun b hb=>by
 obtain ⟨C,t,fr,e⟩:=h.fcell b hb
 exact (Array.getElem?_eq_some_iff.1 e).1
theorem Le.fcell {β β':Map} {F F':Nat→Prop} {W W':World} (hl:Le β F W β' F' W') (h:∀ b,F b→∃ C t fr,W.heap[b]?=some (Obj.cells C t fr)):∀ b,F b→∃ C t fr,W'.heap[b]?=some (Obj.cells C t fr):=fun b hb=>by
 obtain ⟨C,t,fr,e⟩:=h b hb
 exact ⟨C,t,fr,(hl.keep b hb).trans e⟩
theorem hget_lt {hp:List AObj} {id:Nat} (h:isDead (hget hp id)=false):id<hp.length:=by
 unfold hget at h
 rw [lget_eq] at h
 by_cases hl:id<hp.length
 ·exact hl
 ·rw [List.getD_eq_getElem?_getD,List.getElem?_eq_none (by omega)] at h;cases h
theorem hget_append_lt {hp:List AObj} (l:List AObj) {id:Nat} (h:id<hp.length):hget (hp++l) id=hget hp id:=by
 unfold hget
 rw [lget_eq,lget_eq]
 simp [List.getD_eq_getElem?_getD,List.getElem?_append_left h]
theorem hget_append_new (hp:List AObj) (o:AObj):hget (hp++[o]) hp.length=o:=by
 unfold hget
 rw [lget_eq]
 simp [List.getD_eq_getElem?_getD]
theorem hget_beyond {hp:List AObj} {id:Nat} (h:hp.length≤id):hget hp id=.dead:=by
 unfold hget
 rw [lget_eq,List.getD_eq_getElem?_getD,List.getElem?_eq_none h]
 rfl
theorem hget_set_same {hp:List AObj} {id:Nat} (o:AObj) (h:id<hp.length):hget (lset hp id o) id=o:=by
 unfold hget
 rw [lget_eq,lset_eq]
 simp [List.getD_eq_getElem?_getD,h]
theorem hget_set_ne {hp:List AObj} {id id':Nat} (o:AObj) (h:id'≠id):hget (lset hp id o) id'=hget hp id':=by
 unfold hget
 rw [lget_eq,lget_eq,lset_eq]
 simp [List.getD_eq_getElem?_getD,Ne.symm h]
theorem lset_length {α:Type} (l:List α) (n:Nat) (v:α):(lset l n v).length=l.length:=by rw [lset_eq];simp
def FamUp (hp hp':List AObj):Prop :=
 ∀ f mt k rows,hget hp f=.fam mt k rows→∃ mt' rows',hget hp' f=.fam mt' k rows'∧rows.length≤rows'.length∧(rows.length<lim→rows'.length<lim) ∧
  ∀ x,x<rows.length→(rows'.getD x []).length=(rows.getD x []).length
theorem FamUp.of_same {hp hp':List AObj} (h:∀ f,isFam (hget hp f)=true→hget hp' f=hget hp f):FamUp hp hp' :=
 fun f mt k rows e=>⟨mt,rows,(h f (by rw [e];rfl)).trans e,Nat.le_refl _,fun x=>x,fun _ _=>rfl⟩
theorem FamUp.wf {hp hp':List AObj} (h:FamUp hp hp') (hlen:hp.length≤hp'.length) {c:Cells} (hw:wfC hp c):wfC hp' c:=by
 cases c with
 | r f pos =>
  obtain ⟨hlt,mt,k,rows,hf,hl,hr⟩:=hw
  obtain ⟨mt',rows',hf',h1,h2,h3⟩:=h f mt k rows hf
  exact ⟨Nat.lt_of_lt_of_le hlt hlen,mt',k,rows',hf',h2 hl,fun j hj=>(hr j hj).imp (fun x=>Nat.lt_of_lt_of_le x h1) id⟩
 | _=>trivial
theorem FamUp.get {hp hp':List AObj} (h:FamUp hp hp') {c:Cells} (hw:wfC hp c) {j:Nat} (ho:okAV hp' c j=true):okAV hp c j=true∧getAV hp' c j=getAV hp c j:=by
 cases c with
 | r f pos =>
  obtain ⟨_,mt,k,rows,hf,hl,hr⟩:=hw
  obtain ⟨mt',rows',hf',h1,h2,h3⟩:=h f mt k rows hf
  simp only [okAV,hf',Bool.and_eq_true,decide_eq_true_eq] at ho
  have hlt:pos.getD j 0<rows.length:=by
   rcases hr j ho.1 with x | x
   ·exact x
   ·have:=h2 hl;omega
  refine ⟨?_,?_⟩
  ·simp only [okAV,hf,Bool.and_eq_true,decide_eq_true_eq]
   exact ⟨ho.1,hlt⟩
  ·simp only [getAV,hf,hf',h3 _ hlt]
 | _=>exact ⟨ho,rfl⟩
theorem ORel.keep {β β':Map} {F F':Nat→Prop} {W W':World} {hp hp':List AObj} {id r b:Nat} (h:ORel β F W hp id r b) (hl:Le β F W β' F' W')
  (hb:W'.heap[b]?=W.heap[b]?) (ho:hget hp' id=hget hp id) (hfam:FamUp hp hp') (hlen:hp.length≤hp'.length)
  (hF:¬ F b→isDead (hget hp id)=false→¬ F' b):ORel β' F' W' hp' id r b:=by
 unfold ORel at h ⊢
 rw [ho]
 cases hq:hget hp id with
 | dead=>trivial
 | cells arr mt c =>
  rw [hq] at h hF
  obtain ⟨h0,h1,h2,C,t,h3,h4,hw,h5⟩:=h
  exact ⟨h0,fun e=>hF (h1 e) rfl,fun e=>hl.fro _ (h2 e),C,t,hb.trans h3,h4,hfam.wf hlen hw,fun j hj hk=>by
   obtain ⟨q1,q2⟩:=hfam.get hw hk
   rw [q2]
   exact (h5 j hj q1).mono hl⟩
 | fam mt k rows =>
  rw [hq] at h hF
  obtain ⟨h0,h1,h2,C,t,h3,h4,h5⟩:=h
  exact ⟨h0,fun e=>hF (h1 e) rfl,fun e=>hl.fro _ (h2 e),C,t,hb.trans h3,h4,h5⟩
 | loop ns tm ps a c aft rdy p =>
  rw [hq] at h hF
  obtain ⟨h0,h1,rec,h3,h4,h5⟩:=h
  exact ⟨h0,hF h1 rfl,rec,hb.trans h3,h4.mono hl,h5⟩
def ext (β:Map) (id b:Nat):Map:=fun i r=>if i=id∧r=0 then some b else β i r
theorem heap_alloc_lt (W:World) (o:Obj) {k:Nat} (h:k<W.heap.size):(W.alloc o).heap[k]?=W.heap[k]?:=Below.heap_alloc W o k h
theorem heap_alloc_at (W:World) (o:Obj):(W.alloc o).heap[W.heap.size]?=some o:=by
 show (W.heap.push o)[W.heap.size]?=_
 simp
theorem HInv.newN {E:Env} {β:Map} {F:Nat→Prop} {hp:List AObj} {W:World} (h:HInv E β F hp W):¬ E.N W.heap.size:=fun e=>by
 have h1:=h.base _ e
 have h2:=h.below.size
 omega
theorem HInv.keepsAlloc {E:Env} {β:Map} {F:Nat→Prop} {hp:List AObj} {W:World} (h:HInv E β F hp W) (O:Obj):Keeps E (W.alloc O) :=
 ⟨h.below.os,h.below.tape,h.below.output,Nat.le_trans h.below.size (by simp),fun k hk=>(heap_alloc_lt W O (Nat.lt_of_lt_of_le (h.base k hk) h.below.size)).trans (h.below.block k hk)⟩
theorem le_alloc (β:Map) (F:Nat→Prop) (W:World) (o:Obj) (id:Nat) (hid:β id 0=none) (hF:∀ b,F b→b<W.heap.size):Le β F W (ext β id W.heap.size) F (W.alloc o) where
 map i r b e:=by
  unfold ext
  split
  ·rename_i h;obtain ⟨rfl,rfl⟩:=h;rw [hid] at e;cases e
  ·exact e
 fro b h:=h
 keep b h:=heap_alloc_lt W o (hF b h)
 size:=by simp
 kdef k ds h:=(heap_alloc_lt W o (Array.getElem?_eq_some_iff.1 h).1).trans h
 kloop k r h:=⟨r,(heap_alloc_lt W o (Array.getElem?_eq_some_iff.1 h).1).trans h⟩
 kcell k C t h:=⟨C,(heap_alloc_lt W o (Array.getElem?_eq_some_iff.1 h).1).trans h,rfl⟩
theorem HInv.alloc {E:Env} {β:Map} {F:Nat→Prop} {hp:List AObj} {W:World} (h:HInv E β F hp W) (o:AObj) (O:Obj)
  (ho:ORel (ext β hp.length W.heap.size) F (W.alloc O) (hp++[o]) hp.length 0 W.heap.size) :
  HInv E (ext β hp.length W.heap.size) F (hp++[o]) (W.alloc O)∧Le β F W (ext β hp.length W.heap.size) F (W.alloc O):=by
 have hle:=le_alloc β F W O hp.length (h.fresh _ _ (Nat.le_refl _)) h.flt
 refine ⟨⟨h.base,h.fin,h.keepsAlloc O,?_,hle.fcell h.fcell,?_,?_,?_⟩,hle⟩
 ·intro id r b e
  unfold ext at e
  split at e
  ·cases e;exact ⟨h.newN,by simp⟩
  ·have:=h.lt _ _ _ e;exact ⟨this.1,by simp;omega⟩
 ·intro id r b e
  unfold ext at e
  split at e
  ·rename_i hq;obtain ⟨rfl,rfl⟩:=hq;cases e;exact ho
  ·rename_i hq
   have hlt:=h.lt _ _ _ e
   have hid:id<hp.length:=by
    rcases Nat.lt_or_ge id hp.length with hx | hx
    ·exact hx
    ·rw [h.fresh id r hx] at e;cases e
   exact (h.obj _ _ _ e).keep hle (heap_alloc_lt W O hlt.2) (hget_append_lt _ hid) (FamUp.of_same fun f hf=>hget_append_lt _ (hget_lt (by cases hq:hget hp f <;> simp_all [isFam,isDead]))) (by simp) (fun hn _=>hn)
 ·intro id r id' r' b e e' d d'
  unfold ext at e e'
  split at e <;> split at e'
  ·rename_i a c;exact ⟨a.1.trans c.1.symm,a.2.trans c.2.symm⟩
  ·cases e;have:=h.lt _ _ _ e';omega
  ·cases e';have:=h.lt _ _ _ e;omega
  ·have hlt:∀ {i r b},β i r=some b→i<hp.length:=fun {i r b} e=>by
    rcases Nat.lt_or_ge i hp.length with hx | hx
    ·exact hx
    ·rw [h.fresh i r hx] at e;cases e
   rw [hget_append_lt _ (hlt e)] at d
   rw [hget_append_lt _ (hlt e')] at d'
   exact h.inj _ _ _ _ _ e e' d d'
 ·intro id r hid
  unfold ext
  rw [if_neg (by simp at hid;omega)]
  exact h.fresh _ _ (by simp at hid;omega)
theorem HInv.drew {E:Env} {β:Map} {F:Nat→Prop} {hp:List AObj} {W:World} (h:HInv E β F hp W):HInv E β F hp W.drew :=
 ⟨h.base,h.fin,⟨h.below.os,h.below.tape,h.below.output,h.below.size,h.below.block⟩,h.lt,h.fcell,fun id r b e=>(h.obj _ _ _ e).keep (Le.mk (fun _ _ _ x=>x) (fun _ x=>x) (fun _ _=>rfl) (Nat.le_refl _) (fun _ _ x=>x) (fun _ r x=>⟨r,x⟩) (fun _ C _ x=>⟨C,x,rfl⟩)) rfl rfl (FamUp.of_same fun _ _=>rfl) (Nat.le_refl _) (fun x _=>x),h.inj,h.fresh⟩
theorem le_drew (β:Map) (F:Nat→Prop) (W:World):Le β F W β F W.drew:=⟨fun _ _ _ x=>x,fun _ x=>x,fun _ _=>rfl,Nat.le_refl _,fun _ _ x=>x,fun _ r x=>⟨r,x⟩,fun _ C _ x=>⟨C,x,rfl⟩⟩
structure Turn (W W':World) (b:Nat):Prop where
 os:W'.os=W.os
 tape:W'.tape=W.tape
 output:W'.output=W.output
 size:W'.heap.size=W.heap.size
 other:∀ k,k≠b→W'.heap[k]?=W.heap[k]?
 kdef:∀ ds,W.heap[b]?≠some (Obj.deferred ds)
 kloop:∀ r:Loop,W.heap[b]?=some (Obj.loop r)→∃ r':Loop,W'.heap[b]?=some (Obj.loop r')
 kcell:∀ (C:Array Value) (t:TypeId),W.heap[b]?=some (Obj.cells C t (0,0))→∃ C',W'.heap[b]?=some (Obj.cells C' t (0,0))∧C'.size=C.size
theorem Turn.le {W W':World} {b:Nat} (h:Turn W W' b) (β:Map) (F:Nat→Prop) (hF:¬ F b):Le β F W β F W' where
 map _ _ _ e:=e
 fro _ e:=e
 keep k hk:=h.other k (fun e=>hF (e▸hk))
 size:=Nat.le_of_eq h.size.symm
 kdef k ds e:=by
  by_cases hk:k=b
  ·subst hk;exact absurd e (h.kdef ds)
  ·exact (h.other k hk).trans e
 kloop k r e:=by
  by_cases hk:k=b
  ·subst hk;exact h.kloop r e
  ·exact ⟨r,(h.other k hk).trans e⟩
 kcell k C t e:=by
  by_cases hk:k=b
  ·subst hk;exact h.kcell C t e
  ·exact ⟨C,(h.other k hk).trans e,rfl⟩
theorem Turn.below {E:Env} {W W':World} {b:Nat} (h:Turn W W' b) (hb:¬ E.N b) (k:Keeps E W):Keeps E W' :=
 ⟨h.os.trans k.os,h.tape.trans k.tape,h.output.trans k.output,Nat.le_trans k.size (Nat.le_of_eq h.size.symm),fun i hi=>(h.other i (fun e=>hb (e▸hi))).trans (k.block i hi)⟩
theorem HInv.turn {E:Env} {β:Map} {F:Nat→Prop} {hp:List AObj} {W W':World} (h:HInv E β F hp W) {id r b:Nat} (hb:β id r=some b) (hd:isDead (hget hp id)=false) (hF:¬ F b) (ht:Turn W W' b)
  (o:AObj) (hnf:isFam (hget hp id)=false) (ho:isDead o=false→ORel β F W' (lset hp id o) id r b) (hr:∀ r',r'≠r→β id r'=none) :
  HInv E β F (lset hp id o) W'∧Le β F W β F W':=by
 have hle:=ht.le β F hF
 have hlt:=hget_lt hd
 have hdd:∀ i,isDead (hget (lset hp id o) i)=false→isDead (hget hp i)=false:=by
  intro i hi
  by_cases e:i=id
  ·subst e;exact hd
  ·rw [hget_set_ne _ e] at hi;exact hi
 refine ⟨⟨h.base,h.fin,ht.below (h.lt _ _ _ hb).1 h.below,fun i r' b' e=>⟨(h.lt _ _ _ e).1,by rw [ht.size];exact (h.lt _ _ _ e).2⟩,hle.fcell h.fcell,?_,?_,?_⟩,hle⟩
 ·intro i r' b' e
  by_cases hi:i=id
  ·subst hi
   have:r'=r:=by
    rcases Classical.em (r'=r) with x | x
    ·exact x
    ·rw [hr r' x] at e;cases e
   subst this
   rw [hb] at e;cases e
   cases hq:isDead o with
   | false=>exact ho hq
   | true =>
    unfold ORel
    rw [hget_set_same o hlt]
    cases o <;> simp_all [isDead]
  ·cases hq:isDead (hget hp i) with
   | true =>
    unfold ORel
    rw [hget_set_ne _ hi]
    cases hz:hget hp i <;> simp_all [isDead]
   | false =>
    have hbb:b'≠b:=fun x=>hi (h.inj _ _ _ _ _ (x▸e) hb hq hd).1
    refine (h.obj _ _ _ e).keep hle (ht.other _ hbb) (hget_set_ne _ hi) (FamUp.of_same fun f hf=>hget_set_ne _ (fun x=>?_)) (by rw [lset_length];exact Nat.le_refl _) (fun x _=>x)
    subst x;rw [hnf] at hf;cases hf
 ·exact fun i r1 i' r1' b' e e' d d'=>h.inj _ _ _ _ _ e e' (hdd _ d) (hdd _ d')
 ·intro i r1 hi
  rw [lset_length] at hi
  exact h.fresh _ _ hi
def addF (F:Nat→Prop) (β:Map) (id:Nat):Nat→Prop:=fun x=>F x∨∃ r,β id r=some x
theorem le_addF (β:Map) (F:Nat→Prop) (W:World) (id:Nat):Le β F W β (addF F β id) W :=
 ⟨fun _ _ _ x=>x,fun _ x=>.inl x,fun _ _=>rfl,Nat.le_refl _,fun _ _ x=>x,fun _ r x=>⟨r,x⟩,fun _ C _ x=>⟨C,x,rfl⟩⟩
theorem HInv.freeze {E:Env} {β:Map} {F:Nat→Prop} {hp:List AObj} {W:World} (h:HInv E β F hp W) {id:Nat} {o':AObj} (ho:frozenOf (hget hp id)=some o') :
  HInv E β (addF F β id) (lset hp id o') W:=by
 have hle:=le_addF β F W id
 have hnd:isDead (hget hp id)=false:=by cases hq:hget hp id <;> simp_all [frozenOf,isDead]
 have hlt:=hget_lt hnd
 have hfu:FamUp hp (lset hp id o'):=by
  intro f mt k rows hf
  by_cases e:f=id
  ·subst e
   rw [hf] at ho
   cases ho
   exact ⟨false,rows,hget_set_same _ hlt,Nat.le_refl _,fun x=>x,fun _ _=>rfl⟩
  ·exact ⟨mt,rows,(hget_set_ne _ e).trans hf,Nat.le_refl _,fun x=>x,fun _ _=>rfl⟩
 have hdd:∀ i,isDead (hget (lset hp id o') i)=false→isDead (hget hp i)=false:=by
  intro i hi
  by_cases e:i=id
  ·subst e;exact hnd
  ·rw [hget_set_ne _ e] at hi;exact hi
 refine ⟨h.base,?_,h.below,h.lt,?_,?_,?_,?_⟩
 ·rintro b (e | ⟨r,e⟩) hn
  ·exact h.fin b e hn
  ·exact absurd hn (h.lt _ _ _ e).1
 ·rintro b (e | ⟨r,e⟩)
  ·exact h.fcell b e
  ·have hq:=h.obj _ _ _ e
   unfold ORel at hq
   cases ht:hget hp id with
   | cells a mt c=>rw [ht] at hq;obtain ⟨_,_,_,C,t,h1,_⟩:=hq;exact ⟨C,t,_,h1⟩
   | fam mt k rows=>rw [ht] at hq;obtain ⟨_,_,_,C,t,h1,_⟩:=hq;exact ⟨C,t,_,h1⟩
   | dead=>rw [ht] at ho;cases ho
   | loop=>rw [ht] at ho;cases ho
 ·intro i r b e
  by_cases hi:i=id
  ·subst hi
   have hq:=h.obj _ _ _ e
   unfold ORel at hq ⊢
   rw [hget_set_same _ hlt]
   cases ht:hget hp i with
   | cells a mt c =>
    rw [ht] at hq ho
    cases ho
    obtain ⟨h0,_,_,C,t,h1,h2,h3,h4⟩:=hq
    exact ⟨h0,by simp,fun _=>.inr ⟨r,e⟩,C,t,h1,h2,hfu.wf (by rw [lset_length];exact Nat.le_refl _) h3,fun j hj hk=>by
     obtain ⟨q1,q2⟩:=hfu.get h3 hk
     rw [q2]
     exact (h4 j hj q1).mono hle⟩
   | fam mt k rows =>
    rw [ht] at hq ho
    cases ho
    obtain ⟨h0,_,_,C,t,h1,h2,h3⟩:=hq
    exact ⟨h0,by simp,fun _=>.inr ⟨r,e⟩,C,t,h1,h2,h3⟩
   | dead=>rw [ht] at ho;cases ho
   | loop=>rw [ht] at ho;cases ho
  ·cases hd:isDead (hget hp i) with
   | true =>
    unfold ORel
    rw [hget_set_ne _ hi]
    cases hz:hget hp i <;> simp_all [isDead]
   | false =>
    refine (h.obj _ _ _ e).keep hle rfl (hget_set_ne _ hi) hfu (by rw [lset_length];exact Nat.le_refl _) fun hn _=>?_
    rintro (x | ⟨r',x⟩)
    ·exact hn x
    ·exact hi (h.inj _ _ _ _ _ e x hd hnd).1
 ·exact fun i r1 i' r1' b' e e' d d'=>h.inj _ _ _ _ _ e e' (hdd _ d) (hdd _ d')
 ·intro i r1 hi
  rw [lset_length] at hi
  exact h.fresh _ _ hi
theorem HInv.allocCells {E:Env} {β:Map} {F:Nat→Prop} {hp:List AObj} {W:World} (h:HInv E β F hp W) (arr:Bool) {c:Cells} (hc:∀ f pos,c≠.r f pos) (Cs:Array Value) (t:TypeId)
  (hlen:c.len≤Cs.size) (hrel:∀ j,j<c.len→Rel β F W (c.get j) (Cs.getD j Go.undef)) :
  HInv E (ext β hp.length W.heap.size) F (hp++[.cells arr true c]) (W.alloc (.cells Cs t))∧Le β F W (ext β hp.length W.heap.size) F (W.alloc (.cells Cs t)):=by
 refine h.alloc _ _ ?_
 have hle:=le_alloc β F W (.cells Cs t) hp.length (h.fresh _ _ (Nat.le_refl _)) h.flt
 unfold ORel
 rw [hget_append_new]
 refine ⟨rfl,fun _ e=>?_,by simp,Cs,t,heap_alloc_at _ _,hlen,?_,?_⟩
 ·have:=h.flt _ e;omega
 ·cases c <;> first | trivial | exact absurd rfl (hc _ _)
 ·intro j hj _
  have:getAV (hp++[.cells arr true c]) c j=c.get j:=by cases c <;> first | rfl | exact absurd rfl (hc _ _)
  rw [this]
  exact (hrel j hj).mono hle
theorem ext_new (β:Map) (id b:Nat):ext β id b id 0=some b:=by simp [ext]
section
variable {P:Program} {C:CRel} {S:SRel} {L:LRel} {β:Map} {F:Nat→Prop} {W:World}
theorem add_none (g o i:Nat):(⟨g,o,none⟩:Addr).add i=⟨g,o+i,none⟩:=by unfold Addr.add;split <;> simp_all
theorem absV1_rel (v:Value):Rel β F W (absV1 v) v:=by
 unfold absV1
 split
 ·exact .bool _
 ·exact .int _ _
 ·exact .str _
 ·exact .nilS
 ·exact .nilP
 ·exact .nilF
 ·exact .undef _
theorem absV_rel (v:Value):Rel β F W (absV v) v:=by
 unfold absV
 split
 ·rename_i cs
  refine .agg (by simp) fun j hj=>?_
  simp only [List.length_map,Array.length_toList] at hj
  have:(List.map absV1 cs.toList).getD j .undef=absV1 (cs.getD j Go.undef):=by
   simp [List.getD_eq_getElem?_getD,hj]
  rw [this]
  exact absV1_rel _
 ·rename_i vs
  split
  ·rename_i h
   have:vs=#[]:=by apply Array.eq_empty_of_size_eq_zero h
   subst this
   exact .none_
  ·exact .undef _
 ·exact absV1_rel _
theorem ev_rel {tm:List AV} {a:Act} (h:TRel β F W tm a.tmps) (x:Operand):Rel β F W (oev tm x) (a.eval x):=by
 cases x with
 | tmp t=>exact h.2 t
 | const v=>exact absV_rel v
 | global g=>exact .undef _
 | func f =>
  show Rel β F W (cond (Nat.blt f 1048576) (.fn f []) .undef) _
  cases hf:Nat.blt f 1048576 with
  | true=>exact .fn (by simpa [Nat.blt_eq] using hf) (by simp) (fun j hj=>absurd hj (by simp))
  | false=>exact .undef _
theorem info_of_under {t:TypeId} {d:TypeDesc} (h:P.underlying t=some d):∃ i,P.info? t=some i∧tsize P t=i.size:=by
 unfold Program.underlying at h
 cases hi:P.info? t with
 | none=>simp [hi] at h
 | some i=>exact ⟨i,rfl,by simp [tsize,hi]⟩
theorem run_sizeOf' {t:TypeId} {d:TypeDesc} (h:P.underlying t=some d) (w:World):(sizeOf t).run P w=.ok (tsize P t) w:=by
 obtain ⟨i,hi,hs⟩:=info_of_under h
 simp [sizeOf,typeInfo,hi,hs]
theorem taggO_some {t:TypeId} {b:Bool} (h:taggO P t=some b):∃ d,P.underlying t=some d∧∀ w,(isAgg t).run P w=.ok b w:=by
 unfold taggO at h
 cases hu:P.underlying t with
 | none=>simp [hu] at h
 | some d =>
  refine ⟨d,rfl,fun w=>?_⟩
  cases d <;> simp_all [isAgg,run_underlying hu]
theorem run_sizeOf_tagg {t:TypeId} {b:Bool} (h:taggO P t=some b) (w:World):(sizeOf t).run P w=.ok (tsize P t) w:=by
 obtain ⟨d,hu,_⟩:=taggO_some h
 exact run_sizeOf' hu w
theorem guard_plain {op:BinOp} {t:TypeId} {xo yo:Operand} {x y:Value} (h1:∀ vs,x≠.agg vs) (h2:x≠.nilIface):(eqGuard op t xo yo x y).run P W=.ok () W:=by
 unfold eqGuard
 cases op <;> simp
 all_goals
  split
  ·exact absurd rfl h2
  ·rename_i cs _;exact absurd rfl (h1 cs)
  ·rfl
def Gives (P:Program) (β:Map) (F:Nat→Prop) (W:World) (s:Sem Value) (v:AV):Prop:=∃ u,s.run P W=.ok u W∧Rel β F W v u
theorem bin_int {op:BinOp} {t:TypeId} {k k':IntKind} {a b:Int} {v:AV} (h:Runs C S L (binM P t op (.int k a) (.int k' b)) v) :
    Gives P β F W (binOp op t (.int k a) (.int k' b)) v:=by
  have hI:∀ n:Int,Rel β F W (.int k (wr k n)) (.int k (k.wrap n)):=fun n=>by rw [wr_eq];exact .int _ _
  cases op <;> simp only [binM] at h
  case shl =>
    obtain ⟨hb,h⟩:=h.chk_inv
    have hb':¬ b<0:=by have:=of_decide_eq_true hb;omega
    cases h.done_inv
    exact ⟨_,by simp [binOp,Op.shift,hb'],hI _⟩
  case shr =>
    obtain ⟨hb,h⟩:=h.chk_inv
    have hb':¬ b<0:=by have:=of_decide_eq_true hb;omega
    cases h.done_inv
    exact ⟨_,by simp [binOp,Op.shift,hb'],.int _ _⟩
  all_goals
    split at h
    · rename_i hk
      subst hk
      first
        | (cases h.done_inv;exact ⟨_,by simp [binOp,Op.intArith,Op.intBits,Op.intCmp],hI _⟩)
        | (cases h.done_inv;exact ⟨_,by simp [binOp,Op.intArith,Op.intBits,Op.intCmp],.bool _⟩)
        | (obtain ⟨hb,h⟩:=h.chk_inv
           have hb':b≠0:=by intro e;subst e;simp at hb
           cases h.done_inv
           exact ⟨_,by simp [binOp,Op.intDiv,hb'],hI _⟩)
        | (obtain ⟨hb,h⟩:=h.chk_inv
           have hb':b≠0:=by intro e;subst e;simp at hb
           cases h.done_inv
           exact ⟨_,by simp [binOp,Op.intDiv,hb'],.int _ _⟩)
    · exact h.fail_inv.elim
theorem bin_sound {op:BinOp} {t:TypeId} {x y v:AV} {X Y:Value} (h:Runs C S L (binM P t op x y) v) (hx:Rel β F W x X) (hy:Rel β F W y Y) (xo yo:Operand) :
  Gives P β F W (do eqGuard op t xo yo X Y;binOp op t X Y) v:=by
 have key:(∀ vs,X≠.agg vs)→X≠.nilIface→Gives P β F W (binOp op t X Y) v→Gives P β F W (do eqGuard op t xo yo X Y;binOp op t X Y) v:=by
  rintro h1 h2 ⟨u,hu,hr⟩
  exact ⟨u,by simp only [Sem.run_bind,guard_plain (P:=P) (W:=W) (op:=op) (t:=t) (xo:=xo) (yo:=yo) (y:=Y) h1 h2,Result.andThen_ok,hu],hr⟩
 have eqs:∀ {d:TypeDesc} {q:Bool},P.underlying t=some d→(Op.equal t X Y).run P W=.ok q W→(∀ k n,X≠.int k n)→(∀ k n,X≠.float k n)→(∀ k n m,X≠.complex k n m)→(∀ s,X≠.string s) →
   Gives P β F W (binOp .eql t X Y) (.bool q)∧Gives P β F W (binOp .neq t X Y) (.bool (!q)):=by
  intro d q hd hq h1 h2 h3 h4
  cases X <;> first | exact absurd rfl (h1 _ _) | exact absurd rfl (h2 _ _) | exact absurd rfl (h3 _ _ _) | exact absurd rfl (h4 _) | exact ⟨⟨_,by simp [binOp,hq],.bool _⟩,⟨_,by simp [binOp,hq],.bool _⟩⟩
 unfold binM at h
 split at h
 ·cases hx;cases hy
  exact key (by simp) (by simp) (bin_int h)
 ·cases hx;cases hy
  rename_i a b
  refine key (by simp) (by simp) ?_
  split at h
  ·rename_i hu
   cases h.done_inv
   exact (eqs (q:=a==b) hu (run_equal_bool W t _ _ hu) (by simp) (by simp) (by simp) (by simp)).1
  ·rename_i hu
   cases h.done_inv
   exact (eqs (q:=a==b) hu (run_equal_bool W t _ _ hu) (by simp) (by simp) (by simp) (by simp)).2
  ·exact h.fail_inv.elim
 ·cases hx;cases hy
  refine key (by simp) (by simp) ?_
  split at h
  ·rename_i hu
   cases h.done_inv
   exact (eqs (q:=true) hu (run_equal_slice_nil W t _ none 0 0 hu) (by simp) (by simp) (by simp) (by simp)).1
  ·rename_i hu
   cases h.done_inv
   exact (eqs (q:=true) hu (run_equal_slice_nil W t _ none 0 0 hu) (by simp) (by simp) (by simp) (by simp)).2
  ·exact h.fail_inv.elim
 ·cases hx;cases hy
  refine key (by simp) (by simp) ?_
  split at h
  ·rename_i hu
   cases h.done_inv
   exact (eqs (q:=false) hu (run_equal_slice_nil W t _ (some _) _ _ hu) (by simp) (by simp) (by simp) (by simp)).1
  ·rename_i hu
   cases h.done_inv
   exact (eqs (q:=false) hu (run_equal_slice_nil W t _ (some _) _ _ hu) (by simp) (by simp) (by simp) (by simp)).2
  ·exact h.fail_inv.elim
 ·cases hy
  cases hx
  split at h
  ·rename_i hu
   cases h.done_inv
   refine key (by simp) (by simp) ?_
   exact (eqs (q:=false) hu (run_equal_slice_nil W t _ (some _) _ _ hu) (by simp) (by simp) (by simp) (by simp)).1
  ·rename_i hu
   cases h.done_inv
   refine key (by simp) (by simp) ?_
   exact (eqs (q:=false) hu (run_equal_slice_nil W t _ (some _) _ _ hu) (by simp) (by simp) (by simp) (by simp)).2
  ·exact h.fail_inv.elim
 ·cases hy
  split at h
  ·rename_i hu
   obtain ⟨hn,h⟩:=h.chk_inv
   have hn:=of_decide_eq_true hn
   cases h.done_inv
   cases hx with
   | sl0=>omega
   | sl =>
    refine key (by simp) (by simp) ?_
    exact (eqs (q:=false) hu (run_equal_slice_nil W t _ (some _) _ _ hu) (by simp) (by simp) (by simp) (by simp)).1
  ·rename_i hu
   obtain ⟨hn,h⟩:=h.chk_inv
   have hn:=of_decide_eq_true hn
   cases h.done_inv
   cases hx with
   | sl0=>omega
   | sl =>
    refine key (by simp) (by simp) ?_
    exact (eqs (q:=false) hu (run_equal_slice_nil W t _ (some _) _ _ hu) (by simp) (by simp) (by simp) (by simp)).2
  ·exact h.fail_inv.elim
 ·exact h.fail_inv.elim
theorem un_sound {op:UnOp} {x v:AV} {X:Value} (h:Runs C S L (unM op x) v) (hx:Rel β F W x X):Gives P β F W (Op.unary op X) v:=by
 unfold unM at h
 split at h
 ·cases hx;cases h.done_inv
  exact ⟨_,by simp only [Op.unary,Op.intArith,Sem.run_pure];rfl,by rw [wr_eq];exact Rel.int _ _⟩
 ·cases hx;cases h.done_inv
  exact ⟨_,by simp only [Op.unary,Op.intBits,Sem.run_pure];rfl,by rw [wr_eq];exact Rel.int _ _⟩
 ·cases hx;cases h.done_inv
  exact ⟨_,by simp [Op.unary],.bool _⟩
 ·exact h.fail_inv.elim
theorem minmax_sound {mx:Bool} {x y v:AV} {X Y:Value} (h:Runs C S L (minmaxM mx x y) v) (hx:Rel β F W x X) (hy:Rel β F W y Y) (ts:Array TypeId) (ty:TypeId) :
  Gives P β F W (if mx then Builtin.max_ ts ty #[X,Y] else Builtin.min_ ts ty #[X,Y]) v:=by
 unfold minmaxM at h
 split at h
 ·rename_i k a k' b
  split at h
  ·rename_i hk
   subst hk
   cases hx;cases hy;cases h.done_inv
   cases mx with
   | true =>
    have e:(if b>a then b else a)=max a b:=by omega
    exact ⟨.int k (if b>a then b else a),by simp [Builtin.max_,Builtin.max2],by rw [e];exact .int _ _⟩
   | false =>
    have e:(if b<a then b else a)=min a b:=by omega
    exact ⟨.int k (if b<a then b else a),by simp [Builtin.min_,Builtin.min2],by rw [e];exact .int _ _⟩
  ·exact h.fail_inv.elim
 ·exact h.fail_inv.elim
theorem len_sound {t:TypeId} {x v:AV} {X:Value} (h:Runs C S L (lenM P t x) v) (hx:Rel β F W x X) (ts:Array TypeId) (ty:TypeId) (h0:ts[0]?=some t) (vs:Array Value) (h1:vs[0]?=some X) :
  Gives P β F W (Builtin.len_ ts ty vs) v:=by
 unfold lenM at h
 split at h
 ·rename_i hu
  cases hx;cases h.done_inv
  exact ⟨_,by simp [Builtin.len_,h0,h1,run_underlying hu,goInt],.int _ _⟩
 ·rename_i hu
  cases h.done_inv
  cases hx <;> exact ⟨_,by simp [Builtin.len_,h0,h1,run_underlying hu,goInt],.int _ _⟩
 ·rename_i hu
  cases h.done_inv
  cases hx
  exact ⟨_,by simp [Builtin.len_,h0,h1,run_underlying hu,goInt],.int _ _⟩
 ·rename_i hu
  cases h.done_inv
  exact ⟨_,by cases X <;> simp [Builtin.len_,h0,h1,run_underlying hu,goInt],.int _ _⟩
 ·exact h.fail_inv.elim
end
end Go.Proofs.Yticbdgmcofjkeaa.Ai
namespace Go.Proofs.Yticbdgmcofjkeaa.Ai
open Go Go.RowKit
namespace Cells
def isR:Cells→Bool
 | r _ _=>true
 | _=>false
theorem len_take (c:Cells) (n:Nat):(c.take n).len=min n c.len:=by cases c <;> simp [Cells.take,Cells.len]
theorem len_drop (c:Cells) (n:Nat):(c.drop n).len=c.len-n:=by cases c <;> simp [Cells.drop,Cells.len]
theorem get_take (c:Cells) {n j:Nat} (h:j<n):(c.take n).get j=c.get j:=by
 cases c <;> simp [Cells.take,Cells.get,List.getD_eq_getElem?_getD,List.getElem?_take,h]
theorem get_drop (c:Cells) (n j:Nat):(c.drop n).get j=c.get (n+j):=by
 cases c <;> simp [Cells.drop,Cells.get,List.getD_eq_getElem?_getD,List.getElem?_drop]
theorem isR_take (c:Cells) (n:Nat):(c.take n).isR=c.isR:=by cases c <;> rfl
theorem isR_drop (c:Cells) (n:Nat):(c.drop n).isR=c.isR:=by cases c <;> rfl
end Cells
section
variable {P:Program} {C:CRel} {S:SRel} {L:LRel} {β:Map} {F:Nat→Prop} {W:World}
theorem getAV_plain (hp:List AObj) {c:Cells} (h:c.isR=false) (j:Nat):getAV hp c j=c.get j:=by cases c <;> first | rfl | cases h
theorem okAV_plain (hp:List AObj) {c:Cells} (h:c.isR=false) (j:Nat):okAV hp c j=decide (j<c.len):=by cases c <;> first | rfl | cases h
structure Behind (β:Map) (F:Nat→Prop) (W:World) (hp:List AObj) (c:Cells) (b:Nat) (Cs:Array Value) (t:TypeId):Prop where
 at_:W.heap[b]?=some (.cells Cs t (0,0))
 len:c.len≤Cs.size
 rel:∀ j,j<c.len→okAV hp c j=true→Rel β F W (getAV hp c j) (Cs.getD j Go.undef)
theorem HInv.behind {E:Env} {hp:List AObj} (h:HInv E β F hp W) {id r b:Nat} (hb:β id r=some b) {c:Cells} (hr:rowAt hp id r=some c) (ho:rowOk hp id r=true) :
  ∃ Cs t,Behind β F W hp c b Cs t:=by
 have hq:=h.obj _ _ _ hb
 unfold ORel at hq
 unfold rowAt at hr
 unfold rowOk at ho
 cases ht:hget hp id with
 | dead=>rw [ht] at hr;cases hr
 | cells a mt c' =>
  rw [ht] at hr hq
  obtain ⟨h0,_,_,Cs,t,h1,h2,_,h3⟩:=hq
  subst h0
  simp at hr
  subst hr
  exact ⟨Cs,t,h1,h2,h3⟩
 | fam mt k rows =>
  rw [ht] at hr hq
  obtain ⟨h0,_,_,Cs,t,h1,h2,h3⟩:=hq
  simp at hr
  subst hr
  exact ⟨Cs,t,h1,h2,fun j hj _=>by rw [h3 j hj];exact .int _ _⟩
 | loop=>rw [ht] at hr;cases hr
theorem Behind.cell {hp:List AObj} {c:Cells} {b:Nat} {Cs:Array Value} {t:TypeId} (h:Behind β F W hp c b Cs t) {j:Nat} (hj:j<c.len):W.cell? ⟨b,j,none⟩=some (Cs.getD j Go.undef):=by
 rw [cell_of_row W b j Cs t (0,0) h.at_]
 have:j<Cs.size:=Nat.lt_of_lt_of_le hj h.len
 simp [this]
theorem rel_list {l:List AV} {u:Nat→Value} (h:∀ j,j<l.length→Rel β F W (l.getD j .undef) (u j)):Rel β F W (.agg l) (.agg ((List.range l.length).map u).toArray):=by
 refine .agg (by simp) fun j hj=>?_
 have:(((List.range l.length).map u).toArray).getD j Go.undef=u j:=by simp [hj]
 rw [this]
 exact h j hj
theorem run_loadVar_agg {t:TypeId} (ht:taggO P t=some true) {b o:Nat} {l:List AV} (u:Nat→Value) (hl:l.length=tsize P t) (hc:∀ j,j<l.length→W.cell? ⟨b,o+j,none⟩=some (u j))
  (hr:∀ j,j<l.length→Rel β F W (l.getD j .undef) (u j)):Gives P β F W (loadVar t ⟨b,o,none⟩) (.agg l):=by
 obtain ⟨d,hu,ha⟩:=taggO_some ht
 refine ⟨_,?_,rel_list hr⟩
 have hc':∀ j,j<tsize P t→W.cell? ((⟨b,o,none⟩:Addr).add j)=some (u j):=fun j hj=>by rw [add_none];exact hc j (by omega)
 simp only [loadVar,Sem.run_bind,ha,Result.andThen_ok,if_true,run_sizeOf' hu,run_loadCells W _ _ u hc',Sem.run_pure,hl]
theorem run_loadVar_one {t:TypeId} (ht:taggO P t=some false) {b o:Nat} {u:Value} (hc:W.cell? ⟨b,o,none⟩=some u):(loadVar t ⟨b,o,none⟩).run P W=.ok u W:=by
 obtain ⟨d,hu,ha⟩:=taggO_some ht
 simp [loadVar,ha,hc]
theorem load_sound {E:Env} {hp:List AObj} (hI:HInv E β F hp W) {t:TypeId} {a v:AV} {A:Value} (h:Runs C S L (loadM P hp t a) v) (ha:Rel β F W a A):Gives P β F W (Instr.loadAt t A) v:=by
 have key:∀ {ad:Addr},Gives P β F W (loadVar t ad) v→Gives P β F W (Instr.loadAt t (.pointer (some ad))) v:=fun {ad} ⟨u,h1,h2⟩=>⟨u,by simpa [Instr.loadAt,Instr.sureAddr] using h1,h2⟩
 unfold loadM at h
 split at h
 ·rename_i id r off
  cases ha with
  | ptr hb =>
  rename_i b
  split at h
  ·rename_i c hrow
   split at h
   ·rename_i ht
    replace h:=h.chk_inv;obtain ⟨hk,h⟩:=h
    simp only [Bool.and_eq_true,decide_eq_true_eq] at hk
    obtain ⟨Cs,ty,hB⟩:=hI.behind hb hrow hk.1
    refine key ?_
    split at h
    ·rename_i l
     cases h.done_inv
     have hlen:((l.drop off).take (tsize P t)).length=tsize P t:=by simp [Cells.len] at hk ⊢;omega
     refine run_loadVar_agg ht (fun j=>Cs.getD (off+j) Go.undef) hlen (fun j hj=>hB.cell (by rw [hlen] at hj;simp [Cells.len] at hk ⊢;omega)) fun j hj=>?_
     rw [hlen] at hj
     have hq:off+j<l.length:=by simp [Cells.len] at hk;omega
     have:=hB.rel (off+j) hq (decide_eq_true hq)
     simp only [getAV,Cells.get] at this
     simpa [List.getD_eq_getElem?_getD,List.getElem?_take,hj] using this
    ·rename_i k l
     cases h.done_inv
     have hlen:(((l.drop off).take (tsize P t)).map (AV.int k)).length=tsize P t:=by simp [Cells.len] at hk ⊢;omega
     refine run_loadVar_agg ht (fun j=>Cs.getD (off+j) Go.undef) hlen (fun j hj=>hB.cell (by rw [hlen] at hj;simp [Cells.len] at hk ⊢;omega)) fun j hj=>?_
     rw [hlen] at hj
     have hq:off+j<l.length:=by simp [Cells.len] at hk;omega
     have:=hB.rel (off+j) hq (decide_eq_true hq)
     simp only [getAV,Cells.get] at this
     have hq:off+j<l.length:=by simp [Cells.len] at hk;omega
     simpa [List.getD_eq_getElem?_getD,List.getElem?_take,hj,hq] using this
    ·exact h.fail_inv.elim
   ·rename_i ht
    replace h:=h.chk_inv;obtain ⟨hk,h⟩:=h
    simp only [Bool.and_eq_true] at hk
    obtain ⟨Cs,ty,hB⟩:=hI.behind hb hrow hk.1
    cases h.done_inv
    have hl:off<c.len:=by
     have:=hk.2
     unfold okAV at this
     split at this
     ·split at this
      ·simp at this;exact this.1
      ·cases this
     ·simpa using this
    exact key ⟨_,run_loadVar_one ht (hB.cell hl),hB.rel _ hl hk.2⟩
   ·exact h.fail_inv.elim
  ·exact h.fail_inv.elim
 ·rename_i c off
  cases ha with
  | fptr u hF hc hr =>
  rename_i b o
  refine key ?_
  split at h
  ·rename_i ht
   replace h:=h.chk_inv;obtain ⟨hk,h⟩:=h
   simp only [decide_eq_true_eq] at hk
   split at h
   ·rename_i l
    cases h.done_inv
    have hlen:((l.drop off).take (tsize P t)).length=tsize P t:=by simp [Cells.len] at hk ⊢;omega
    refine run_loadVar_agg ht (fun j=>u (off+j)) hlen (fun j hj=>by rw [Nat.add_assoc];exact hc _ (by rw [hlen] at hj;simp [Cells.len] at hk ⊢;omega)) fun j hj=>?_
    rw [hlen] at hj
    have:=(hr (off+j) (by simp [Cells.len] at hk ⊢;omega)).up (β:=β)
    simp only [Cells.get] at this
    simpa [List.getD_eq_getElem?_getD,List.getElem?_take,hj] using this
   ·rename_i k l
    cases h.done_inv
    have hlen:(((l.drop off).take (tsize P t)).map (AV.int k)).length=tsize P t:=by simp [Cells.len] at hk ⊢;omega
    refine run_loadVar_agg ht (fun j=>u (off+j)) hlen (fun j hj=>by rw [Nat.add_assoc];exact hc _ (by rw [hlen] at hj;simp [Cells.len] at hk ⊢;omega)) fun j hj=>?_
    rw [hlen] at hj
    have:=(hr (off+j) (by simp [Cells.len] at hk ⊢;omega)).up (β:=β)
    simp only [Cells.get] at this
    have hq:off+j<l.length:=by simp [Cells.len] at hk;omega
    simpa [List.getD_eq_getElem?_getD,List.getElem?_take,hj,hq] using this
   ·exact h.fail_inv.elim
  ·rename_i ht
   split at h
   ·exact h.fail_inv.elim
   ·replace h:=h.chk_inv;obtain ⟨hk,h⟩:=h
    simp only [decide_eq_true_eq] at hk
    cases h.done_inv
    exact ⟨_,run_loadVar_one ht (hc off hk),(hr off hk).up⟩
  ·exact h.fail_inv.elim
 ·exact h.fail_inv.elim
theorem part_sound {t:TypeId} {cs:List AV} {off:Nat} {v:AV} (h:part P t cs off=some v) {vs:Array Value} (hr:Rel β F W (.agg cs) (.agg vs)):Gives P β F W (Go.part t vs off) v:=by
 cases hr with
 | agg hl hr =>
 unfold part at h
 split at h
 ·rename_i ht
  obtain ⟨d,hu,ha⟩:=taggO_some ht
  split at h
  ·rename_i hle
   cases h
   refine ⟨.agg (vs.extract off (off+tsize P t)),by simp [Go.part,ha,run_sizeOf' hu],.agg (by simp;omega) fun j hj=>?_⟩
   have hj':j<tsize P t:=by simp at hj;omega
   have:=hr (off+j) (by omega)
   have e1:((cs.drop off).take (tsize P t)).getD j .undef=cs.getD (off+j) .undef:=by
    simp [List.getD_eq_getElem?_getD,List.getElem?_take,hj']
   have e2:(vs.extract off (off+tsize P t)).getD j Go.undef=vs.getD (off+j) Go.undef:=by
    have:off+j<vs.size:=by omega
    simp only [Array.getD_eq_getD_getElem?,Array.getElem?_extract]
    rw [if_pos (by omega)]
   rw [e1,e2]
   exact this
  ·cases h
 ·rename_i ht
  obtain ⟨d,hu,ha⟩:=taggO_some ht
  have hlt:off<cs.length:=(List.getElem?_eq_some_iff.1 h).1
  have:=hr off hlt
  have e1:cs.getD off .undef=v:=by simp [List.getD_eq_getElem?_getD,h]
  have e2:vs[off]?=some (vs.getD off Go.undef):=by
   have:off<vs.size:=by omega
   simp [this]
  rw [e1] at this
  generalize vs.getD off Go.undef=q at e2 this
  exact ⟨q,by simp [Go.part,ha,e2],this⟩
 ·cases h
theorem field_sound {t:TypeId} {f:Nat} {fd:Field} (hf:fieldOf P t f=some fd) {cs:List AV} {v:AV} (h:part P fd.type cs fd.offset=some v) {X:Value} (hx:Rel β F W (.agg cs) X):Gives P β F W (Instr.field t X f) v:=by
 unfold fieldOf at hf
 split at hf
 ·rename_i fs hu
  cases hx with
  | agg hl hr =>
  obtain ⟨u,h1,h2⟩:=part_sound h (.agg hl hr)
  exact ⟨u,by simp only [Instr.field,Sem.run_bind,run_underlying hu,Result.andThen_ok,hf,asAgg,Sem.run_pure,h1],h2⟩
 ·cases hf
theorem extract_sound {vs:List AV} {i:Nat} {v:AV} (h:vs[i]?=some v) {X:Value} (hx:Rel β F W (.tup vs) X):Gives P β F W (Instr.extract X i) v:=by
 cases hx with
 | tup hl hr =>
 rename_i us
 have hlt:i<vs.length:=(List.getElem?_eq_some_iff.1 h).1
 have:=hr i hlt
 have e1:vs.getD i .undef=v:=by simp [List.getD_eq_getElem?_getD,h]
 have e2:us[i]?=some (us.getD i Go.undef):=by
  have:i<us.size:=by omega
  simp [this]
 rw [e1] at this
 generalize us.getD i Go.undef=q at e2 this
 exact ⟨q,by simp [Instr.extract,e2],this⟩
theorem convert_sound {src dst:TypeId} {k k':IntKind} {n:Int} {d:TypeDesc} (h1:P.underlying src=some d) (h2:P.underlying dst=some (.int k)) {X:Value} (hx:Rel β F W (.int k' n) X) :
  Gives P β F W (convert src dst X) (.int k (wr k n)):=by
 cases hx
 exact ⟨_,by simp only [convert,Sem.run_bind,run_underlying h1,run_underlying h2,Result.andThen_ok,Conv.intToInt,Sem.run_pure];rfl,by rw [wr_eq];exact .int _ _⟩
theorem run_sizeOf_pos {t:TypeId} (h:0<tsize P t) (w:World):(sizeOf t).run P w=.ok (tsize P t) w:=by
 unfold tsize at h ⊢
 cases hi:P.info? t with
 | none=>simp [hi] at h
 | some i=>simp [sizeOf,typeInfo,hi]
theorem fieldPlace_run (a:Addr) (fd:Field) (h0:0<tsize P fd.type):(fieldPlace a fd).run P W=.ok (a.add fd.offset) W:=by
 simp only [fieldPlace,Sem.run_bind,run_sizeOf_pos h0,Result.andThen_ok]
 rw [if_neg (by omega)]
 rfl
theorem fieldAddr_sound {t:TypeId} {f:Nat} {fd:Field} (hf:fieldOf P t f=some fd) (h0:0<tsize P fd.type) {b o:Nat} :
  (Instr.fieldAt t (.pointer (some ⟨b,o,none⟩)) f).run P W=.ok (.pointer (some ⟨b,o+fd.offset,none⟩)) W:=by
 unfold fieldOf at hf
 split at hf
 ·rename_i fs hs
  simp only [Instr.fieldAt,Sem.run_bind,run_underlying hs,Result.andThen_ok,hf,Instr.sureAddr,Sem.run_pure,fieldPlace_run _ _ h0,add_none]
 ·cases hf
theorem index_run_slice {t e:TypeId} {k:IntKind} {i:Int} (hu:P.underlying t=some (.slice e)) (he:0<tsize P e) {b o n c:Nat} (h0:0≤i) (h1:i<n) :
  (Instr.indexAt t (.slice (some ⟨b,o,none⟩) n c) (.int k i)).run P W=.ok (.pointer (some ⟨b,o+i.toNat*tsize P e,none⟩)) W:=by
 have hh:0≤i∧i<(n:Int):=⟨h0,h1⟩
 simp only [Instr.indexAt,Sem.run_bind,run_underlying hu,Result.andThen_ok,asIntOf,Sem.run_pure,Sem.run_ite,if_pos hh,run_sizeOf_pos he,add_none]
theorem index_run_array {t e:TypeId} {k:IntKind} {i:Int} {n:Nat} (hu:P.underlying t=some (.array n e)) (he:0<tsize P e) {b o:Nat} (h0:0≤i) (h1:i<n) :
  (Instr.indexAt t (.pointer (some ⟨b,o,none⟩)) (.int k i)).run P W=.ok (.pointer (some ⟨b,o+i.toNat*tsize P e,none⟩)) W:=by
 have hh:0≤i∧i<(n:Int):=⟨h0,h1⟩
 simp only [Instr.indexAt,Sem.run_bind,run_underlying hu,Result.andThen_ok,asIntOf,Sem.run_pure,Sem.run_ite,if_pos hh,run_sizeOf_pos he,add_none,Instr.sureAddr]
theorem index_sound {t:TypeId} {x ix v:AV} (h:Runs C S L (indexM P t x ix) v) {X I:Value} (hx:Rel β F W x X) (hi:Rel β F W ix I):Gives P β F W (Instr.indexAt t X I) v:=by
 unfold indexM at h
 split at h
 ·cases hi
  split at h
  ·rename_i hu
   replace h:=h.chk_inv;obtain ⟨hk,h⟩:=h
   simp only [Bool.and_eq_true,decide_eq_true_eq] at hk
   cases h.done_inv
   cases hx with
   | ref hn hm hb hz hf=>exact ⟨_,index_run_slice hu hk.2 hk.1.1 hk.1.2,.ptr hb⟩
  ·rename_i hu
   replace h:=h.chk_inv;obtain ⟨hk,h⟩:=h
   simp only [Bool.and_eq_true,decide_eq_true_eq] at hk
   cases h.done_inv
   cases hx with
   | sl0=>omega
   | sl u hn hF hc hr=>exact ⟨_,index_run_slice hu hk.2 hk.1.1 hk.1.2,.fptr u hF hc hr⟩
  ·rename_i hu
   replace h:=h.chk_inv;obtain ⟨hk,h⟩:=h
   simp only [Bool.and_eq_true,decide_eq_true_eq] at hk
   cases h.done_inv
   cases hx with
   | ptr hb=>exact ⟨_,index_run_array hu hk.2 hk.1.1 hk.1.2,.ptr hb⟩
  ·rename_i hu
   replace h:=h.chk_inv;obtain ⟨hk,h⟩:=h
   simp only [Bool.and_eq_true,decide_eq_true_eq] at hk
   cases h.done_inv
   cases hx with
   | fptr u hF hc hr=>exact ⟨_,index_run_array hu hk.2 hk.1.1 hk.1.2,by rw [Nat.add_assoc];exact .fptr u hF hc hr⟩
  ·exact h.fail_inv.elim
 ·exact h.fail_inv.elim
theorem part_tagg {t:TypeId} {cs:List AV} {off:Nat} {v:AV} (h:part P t cs off=some v):∃ b,taggO P t=some b:=by
 unfold part at h
 split at h
 ·exact ⟨_,‹_›⟩
 ·exact ⟨_,‹_›⟩
 ·cases h
theorem valIndex_sound {t:TypeId} {x ix v:AV} (h:Runs C S L (valIndexM P t x ix) v) {X I:Value} (hx:Rel β F W x X) (hi:Rel β F W ix I):Gives P β F W (Instr.index t X I) v:=by
 unfold valIndexM at h
 split at h
 ·rename_i hu
  replace h:=h.chk_inv;obtain ⟨hk,h⟩:=h
  simp only [Bool.and_eq_true,decide_eq_true_eq] at hk
  split at h
  ·rename_i hp
   cases h.done_inv
   cases hi
   cases hx with
   | agg hl hr =>
   obtain ⟨u,h1,h2⟩:=part_sound hp (.agg hl hr)
   obtain ⟨bb,hb⟩:=part_tagg hp
   exact ⟨u,by simp only [Instr.index,Sem.run_bind,asIntOf,Sem.run_pure,Result.andThen_ok,run_underlying hu,Sem.run_ite,if_pos hk,run_sizeOf_tagg hb,h1],h2⟩
  ·exact h.fail_inv.elim
 ·exact h.fail_inv.elim
def RelO (β:Map) (F:Nat→Prop) (W:World):Option AV→Option Value→Prop
 | none,none=>True
 | some a,some v=>Rel β F W a v
 | _,_=>False
theorem relO_map {tm:List AV} {a:Act} (h:TRel β F W tm a.tmps) (x:Option Operand):RelO β F W (x.map (oev tm)) (x.map a.eval):=by
 cases x with
 | none=>trivial
 | some x=>exact ev_rel h x
theorem relO_int {d:Nat} {x:Option AV} {X:Option Value} (h:RelO β F W x X) {l:Int} (e:optInt d x=some l):(x=none∧X=none∧l=d)∨∃ k,x=some (.int k l)∧X=some (.int k l):=by
 unfold optInt at e
 split at e
 ·cases e
  cases X with
  | none=>exact .inl ⟨rfl,rfl,rfl⟩
  | some v=>cases h
 ·cases e
  cases X with
  | none=>cases h
  | some v =>
   have h:Rel β F W _ v:=h
   cases h
   exact .inr ⟨_,rfl,rfl⟩
 ·cases e
theorem run_sliceBound' (k:IntKind) {i:Int} {y:Nat} (c:BoundsCode) (h0:0≤i) (h1:i≤y):(Instr.sliceBound (.int k i) y c).run P W=.ok i.toNat W:=by
 simp [Instr.sliceBound,asIntOf,h0,h1]
theorem run_bounds {isS:Bool} {len cap:Nat} {lo hi mx:Option AV} {Lo Hi Mx:Option Value} (hl:RelO β F W lo Lo) (hh:RelO β F W hi Hi) (hm:RelO β F W mx Mx) {l h q:Int}
  (e1:optInt 0 lo=some l) (e2:optInt len hi=some h) (e3:maxInt h hi mx=some q) (h0:0≤l) (h1:l≤h) (h2:h≤q) (h3:q≤len) (hc:len≤cap) :
  ∃ m,(Instr.sliceBounds isS len cap Lo Hi Mx).run P W=.ok (l.toNat,h.toNat,m) W∧h.toNat≤m∧m≤cap:=by
 cases mx with
 | none =>
  cases Mx with
  | some v=>cases hm
  | none =>
  refine ⟨cap,?_,by omega,Nat.le_refl _⟩
  rcases relO_int hh e2 with ⟨_,rfl,rfl⟩ | ⟨k,_,rfl⟩
  ·rcases relO_int hl e1 with ⟨_,rfl,rfl⟩ | ⟨k,_,rfl⟩
   ·simp [Instr.sliceBounds]
   ·simp [Instr.sliceBounds,run_sliceBound' k _ h0 (show l≤len by omega)]
  ·rcases relO_int hl e1 with ⟨_,rfl,rfl⟩ | ⟨k2,_,rfl⟩
   ·simp [Instr.sliceBounds,run_sliceBound' k _ (show 0≤h by omega) (show h≤cap by omega)]
   ·simp [Instr.sliceBounds,run_sliceBound' k _ (show 0≤h by omega) (show h≤cap by omega),run_sliceBound' k2 _ h0 (show l≤h.toNat by omega)]
 | some mxv =>
  cases Mx with
  | none=>cases hm
  | some Mv =>
  cases hi with
  | none=>simp [maxInt] at e3
  | some hv =>
   have e3:optInt 0 (some mxv)=some q:=e3
   rcases relO_int hm e3 with ⟨x,_⟩ | ⟨k,_,hk⟩
   ·cases x
   ·cases hk
    rcases relO_int hh e2 with ⟨x,_⟩ | ⟨k2,_,hk2⟩
    ·cases x
    ·subst hk2
     refine ⟨q.toNat,?_,by omega,by omega⟩
     rcases relO_int hl e1 with ⟨_,rfl,rfl⟩ | ⟨k3,_,rfl⟩
     ·simp [Instr.sliceBounds,run_sliceBound' k _ (show 0≤q by omega) (show q≤cap by omega),run_sliceBound' k2 _ (show 0≤h by omega) (show h≤q.toNat by omega)]
     ·simp [Instr.sliceBounds,run_sliceBound' k _ (show 0≤q by omega) (show q≤cap by omega),run_sliceBound' k2 _ (show 0≤h by omega) (show h≤q.toNat by omega),run_sliceBound' k3 _ h0 (show l≤h.toNat by omega)]
theorem run_slice_val {t e:TypeId} (hu:P.underlying t=some (.slice e)) (he:0<tsize P e) {A:Option Addr} {n cap l h m:Nat} {Lo Hi Mx:Option Value}
  (hb:(Instr.sliceBounds true n cap Lo Hi Mx).run P W=.ok (l,h,m) W) :
  (Instr.sliceAt t (.slice A n cap) Lo Hi Mx).run P W=.ok (.slice (if m=l then A else A.map (·.add (l*tsize P e))) (h-l) (m-l)) W:=by
 simp only [Instr.sliceAt,Instr.slice,Sem.run_bind,run_underlying hu,Result.andThen_ok,hb,run_sizeOf_pos he,Sem.run_pure]
theorem slice_sound {E:Env} {hp:List AObj} (hI:HInv E β F hp W) {t:TypeId} {x v:AV} {lo hi mx:Option AV} (h:Runs C S L (sliceM P hp t x lo hi mx) v)
    {X:Value} {Lo Hi Mx:Option Value} (hx:Rel β F W x X) (hl:RelO β F W lo Lo) (hh:RelO β F W hi Hi) (hm:RelO β F W mx Mx):Gives P β F W (Instr.sliceAt t X Lo Hi Mx) v:=by
  unfold sliceM at h
  split at h
  · rename_i e id r off n m hu
    split at h
    · rename_i l hh' e1 e2
      split at h
      · rename_i q e3
        replace h:=h.chk_inv;obtain ⟨hk,h⟩:=h
        simp only [Bool.and_eq_true,decide_eq_true_eq] at hk
        obtain ⟨⟨⟨⟨⟨k0,k1⟩,k2⟩,k3⟩,k4⟩,k5⟩:=hk
        replace h:=h.ask_inv
        subst k4
        cases hx with
        | ref hn hcm hb hz hfit =>
        rename_i cap b z ty
        obtain ⟨m,hbd,m1,m2⟩:=run_bounds (P:=P) (isS:=true) (cap:=cap) hl hh hm e1 e2 e3 k0 k1 k2 k3 hn
        have hr:=run_slice_val hu k5 (A:=some ⟨b,off,none⟩) hbd
        by_cases hlt:l<hh'
        · rw [decide_eq_true hlt] at h
          simp only [if_true] at h
          cases h.done_inv
          have hne:m≠l.toNat:=by omega
          refine ⟨_,hr,?_⟩
          simp only [if_neg hne,Option.map_some,add_none]
          refine .ref (by omega) (by omega) hb hz ?_
          have:(m-l.toNat)*tsize P e=m*tsize P e-l.toNat*tsize P e:=Nat.sub_mul _ _ _
          have h1:m*tsize P e≤cap*tsize P e:=Nat.mul_le_mul_right _ m2
          have h2:l.toNat*tsize P e≤m*tsize P e:=Nat.mul_le_mul_right _ (by omega)
          omega
        · rw [decide_eq_false hlt] at h
          simp only [Bool.false_eq_true,if_false] at h
          cases h.done_inv
          refine ⟨_,hr,?_⟩
          have:hh'.toNat-l.toNat=0:=by omega
          rw [this]
          exact .sl0 _ _ _ (fun h=>by split at h <;> simp at h)
      · exact h.fail_inv.elim
    · exact h.fail_inv.elim
  · rename_i e n c hu
    split at h
    · rename_i l hh' e1 e2
      split at h
      · rename_i q e3
        replace h:=h.chk_inv;obtain ⟨hk,h⟩:=h
        simp only [Bool.and_eq_true,decide_eq_true_eq] at hk
        obtain ⟨⟨⟨⟨⟨k0,k1⟩,k2⟩,k3⟩,k4⟩,k5⟩:=hk
        cases h.done_inv
        cases hx with
        | sl0 c A cap hA =>
          obtain ⟨m,hbd,m1,m2⟩:=run_bounds (P:=P) (isS:=true) (cap:=cap) hl hh hm e1 e2 e3 k0 k1 k2 k3 (Nat.zero_le _)
          refine ⟨_,run_slice_val hu k5 hbd,?_⟩
          have:hh'.toNat-l.toNat=0:=by omega
          rw [this]
          exact .sl0 _ _ _ (fun h=>by
            have h1:A=none:=by split at h <;> simpa using h
            have:=hA h1
            omega)
        | sl u hn hF hc hr =>
          rename_i cap b o
          obtain ⟨m,hbd,m1,m2⟩:=run_bounds (P:=P) (isS:=true) (cap:=cap) hl hh hm e1 e2 e3 k0 k1 k2 k3 hn
          refine ⟨_,run_slice_val hu k5 hbd,?_⟩
          by_cases hlt:l<hh'
          · have hne:m≠l.toNat:=by omega
            simp only [if_neg hne,Option.map_some,add_none]
            have hlen:∀ j,j<((c.drop (l.toNat*tsize P e)).take ((hh'.toNat-l.toNat)*tsize P e)).len→j<(hh'.toNat-l.toNat)*tsize P e∧l.toNat*tsize P e+j<c.len:=by
              intro j hj
              rw [Cells.len_take,Cells.len_drop] at hj
              omega
            exact .sl (fun j=>u (l.toNat*tsize P e+j)) (by omega) hF (fun j hj=>by rw [Nat.add_assoc];exact hc _ (hlen j hj).2)
              (fun j hj=>by rw [Cells.get_take _ (hlen j hj).1,Cells.get_drop];exact hr _ (hlen j hj).2)
          · have:hh'.toNat-l.toNat=0:=by omega
            rw [this]
            exact .sl0 _ _ _ (fun h=>by split at h <;> simp at h)
      · exact h.fail_inv.elim
    · exact h.fail_inv.elim
  · rename_i e hu
    split at h
    · rename_i l hh' e1 e2
      split at h
      · rename_i q e3
        replace h:=h.chk_inv;obtain ⟨hk,h⟩:=h
        simp only [Bool.and_eq_true,decide_eq_true_eq] at hk
        obtain ⟨⟨⟨k0,k1⟩,k2⟩,k3⟩:=hk
        cases h.done_inv
        cases hx
        subst k0 k1 k2
        obtain ⟨m,hbd,m1,m2⟩:=run_bounds (P:=P) (isS:=true) (cap:=0) hl hh hm e1 e2 e3 (by omega) (by omega) (by omega) (by omega) (Nat.zero_le _)
        refine ⟨_,run_slice_val hu k3 hbd,?_⟩
        have:m=0:=by omega
        subst this
        exact .nilS
      · exact h.fail_inv.elim
    · exact h.fail_inv.elim
  · rename_i n e id r off hu
    split at h
    · rename_i l hh' c e1 e2 hrow
      replace h:=h.chk_inv;obtain ⟨hk,h⟩:=h
      simp only [Bool.and_eq_true,decide_eq_true_eq] at hk
      obtain ⟨⟨⟨⟨⟨⟨k0,k1⟩,k2⟩,k3⟩,k4⟩,k5⟩,k6⟩:=hk
      cases h.done_inv
      cases hx with
      | ptr hb =>
      rename_i b
      obtain ⟨Cs,ty,hB⟩:=hI.behind hb hrow k3
      obtain ⟨m,hbd,m1,m2⟩:=run_bounds (P:=P) (isS:=false) (len:=n) (cap:=n) (q:=hh') hl hh hm e1 e2 rfl k0 (by omega) (Int.le_refl _) k2 (Nat.le_refl _)
      refine ⟨.slice (some (if m=l.toNat then ⟨b,off,none⟩ else (⟨b,off,none⟩:Addr).add (l.toNat*tsize P e))) (hh'.toNat-l.toNat) (m-l.toNat),?_,?_⟩
      · simp only [Instr.sliceAt,Sem.run_bind,run_underlying hu,Result.andThen_ok,Instr.sureAddr,Sem.run_pure,hbd,run_sizeOf_pos k6]
      · have hne:m≠l.toNat:=by omega
        simp only [if_neg hne,add_none]
        refine .ref (by omega) (by simp only [maxLen,lim] at *;omega) hb ⟨Cs,hB.at_,rfl⟩ ?_
        have:(m-l.toNat)*tsize P e=m*tsize P e-l.toNat*tsize P e:=Nat.sub_mul _ _ _
        have h1:m*tsize P e≤n*tsize P e:=Nat.mul_le_mul_right _ m2
        have h2:l.toNat*tsize P e≤m*tsize P e:=Nat.mul_le_mul_right _ (by omega)
        have h3:=hB.len
        omega
    · exact h.fail_inv.elim
  · exact h.fail_inv.elim
end
end Go.Proofs.Yticbdgmcofjkeaa.Ai
namespace Go.Proofs.Yticbdgmcofjkeaa.Ai
open Go Go.RowKit
theorem fold_size (off:Nat):∀ (vs:List Value) (k:Nat) (cells:Array Value),((vs.zipIdx k).foldl (fun (cs:Array Value) (p:Value×Nat)=>cs.setIfInBounds (off+p.2) p.1) cells).size=cells.size
 | [],k,cells=>by simp
 | v::vs,k,cells=>by
  rw [List.zipIdx_cons,List.foldl_cons,fold_size off vs (k+1)]
  simp
theorem fold_get (off:Nat):∀ (vs:List Value) (k:Nat) (cells:Array Value) (j:Nat),off+k+vs.length≤cells.size →
  ((vs.zipIdx k).foldl (fun (cs:Array Value) (p:Value×Nat)=>cs.setIfInBounds (off+p.2) p.1) cells).getD j Go.undef =
   if off+k≤j∧j<off+k+vs.length then vs.getD (j-(off+k)) Go.undef else cells.getD j Go.undef
 | [],k,cells,j,_=>by
  have:¬ (off+k≤j∧j<off+k):=by omega
  simp [this]
 | v::vs,k,cells,j,h=>by
  simp only [List.length_cons] at h
  rw [List.zipIdx_cons,List.foldl_cons,fold_get off vs (k+1) _ j (by simp;omega)]
  by_cases h1:off+(k+1)≤j∧j<off+(k+1)+vs.length
  ·rw [if_pos h1,if_pos (by simp only [List.length_cons];omega)]
   have:j-(off+k)=(j-(off+(k+1)))+1:=by omega
   rw [this]
   simp
  ·rw [if_neg h1]
   by_cases h2:j=off+k
   ·subst h2
    rw [if_pos (by simp only [List.length_cons];omega)]
    have:off+k<cells.size:=by omega
    simp [Array.getD_eq_getD_getElem?,this]
   ·rw [if_neg (by simp only [List.length_cons];omega)]
    simp [Array.getD_eq_getD_getElem?,Array.getElem?_setIfInBounds,Ne.symm h2]
section
variable {P:Program} {C:CRel} {S:SRel} {L:LRel} {β:Map} {F:Nat→Prop} {W:World}
theorem cells_rel {a:AV} {V:Value} (hu:isUndef a=false) (h:Rel β F W a V):RelL β F W (cellsOf a) V.cells:=by
 have one:∀ {a:AV} {V:Value},Rel β F W a V→cellsOf a=[a]→V.cells=#[V]→RelL β F W (cellsOf a) V.cells:=by
  intro a V h e1 e2
  rw [e1,e2]
  refine ⟨rfl,fun j hj=>?_⟩
  have:j=0:=by simp at hj;omega
  subst this
  simpa using h
 cases h with
 | agg hl hr=>exact ⟨hl,hr⟩
 | undef=>cases hu
 | none_=>cases hu
 | tup=>cases hu
 | bool b=>exact one (.bool b) rfl rfl
 | int k n=>exact one (.int k n) rfl rfl
 | str s=>exact one (.str s) rfl rfl
 | nilS=>exact one .nilS rfl rfl
 | nz a cap=>exact one (.nz a cap) rfl rfl
 | sl0 c A cap hA=>exact one (.sl0 c A cap hA) rfl rfl
 | sl u hn hF hc hr=>exact one (.sl u hn hF hc hr) rfl rfl
 | ref hn hm hb hz hf=>exact one (.ref hn hm hb hz hf) rfl rfl
 | ptr hb=>exact one (.ptr hb) rfl rfl
 | fptr u hF hc hr=>exact one (.fptr u hF hc hr) rfl rfl
 | nilP=>exact one .nilP rfl rfl
 | fn hf hl hr=>exact one (.fn hf hl hr) rfl rfl
 | bfn hl hr=>exact one (.bfn hl hr) rfl rfl
 | nilF=>exact one .nilF rfl rfl
 | yld hb=>exact one (.yld hb) rfl rfl
theorem solid_one {a:AV} {V:Value} (hs:solid a=true) (h:Rel β F W a V):V.oneCell'=true:=by
 cases h <;> first | rfl | cases hs
theorem cellsOf_one {a:AV} (h:∀ cs,a≠.agg cs):cellsOf a=[a]:=by cases a <;> first | rfl | exact absurd rfl (h _)
theorem absV1_not (v:Value):∀ cs,absV1 v≠.agg cs:=by intro cs;unfold absV1;split <;> simp
theorem absV_not {v:Value} (h:∀ cs,v≠.agg cs):∀ cs,absV v≠.agg cs:=by
 intro cs
 unfold absV
 split
 ·exact absurd rfl (h _)
 ·split <;> simp
 ·exact absV1_not _ cs
theorem zero_rel (z:Value):RelL β F W (cellsOf (absV z)) z.cells:=by
 have hr:=absV_rel (β:=β) (F:=F) (W:=W) z
 by_cases h:∃ cs,z=.agg cs
 ·obtain ⟨cs,rfl⟩:=h
  exact cells_rel rfl hr
 ·have h':∀ cs,z≠.agg cs:=fun cs e=>h ⟨cs,e⟩
  have hz:z.cells=#[z]:=by cases z <;> first | rfl | exact absurd rfl (h' _)
  rw [cellsOf_one (absV_not h'),hz]
  refine ⟨rfl,fun j hj=>?_⟩
  have:j=0:=by simp at hj;omega
  subst this
  simpa using hr
def RelP (β:Map) (F:Nat→Prop) (W:World):List (Nat×AV)→List (Nat×Value)→Prop
 | [],[]=>True
 | (i,a)::as_,(j,v)::vs=>i=j∧Rel β F W a v∧RelP β F W as_ vs
 | _,_=>False
theorem relP_map {tm:List AV} {a:Act} (h:TRel β F W tm a.tmps):∀ l:List (Nat×Operand),RelP β F W (l.map fun p=>(p.1,oev tm p.2)) (l.map fun p=>(p.1,a.eval p.2))
 | []=>trivial
 | p::l=>⟨rfl,ev_rel h p.2,relP_map h l⟩
theorem relL_nil:RelL β F W [] #[]:=⟨rfl,fun j hj=>absurd hj (by simp)⟩
theorem fill_sound {place place':Nat→Option (Nat×Nat)} (hp:∀ i q,place i=some q→place' i=some q):∀ (parts:List (Nat×AV)) (Parts:List (Nat×Value)) {cs cs':List AV} {Cs:Array Value},
  RelP β F W parts Parts→RelL β F W cs Cs→fillAll place cs parts=some cs'→∃ Cs',Instr.fill place' Cs Parts=some Cs'∧RelL β F W cs' Cs'∧cs'.length=cs.length
 | [],[],cs,cs',Cs,_,hc,h=>by cases h;exact ⟨Cs,rfl,hc,rfl⟩
 | [],_::_,_,_,_,h,_,_=>h.elim
 | _::_,[],_,_,_,h,_,_=>h.elim
 | (i,a)::rest,(j,v)::Rest,cs,cs',Cs,hP,hc,h=>by
  obtain ⟨rfl,hr,hP⟩:=hP
  unfold fillAll at h
  split at h
  ·cases h
  ·rename_i off size hpl
   split at h
   ·cases h
   ·rename_i hno
    simp only [Bool.or_eq_true,bne_iff_ne,ne_eq,Bool.not_eq_true',decide_eq_false_iff_not,not_or,Bool.not_eq_true,Classical.not_not] at hno
    obtain ⟨⟨hu,hsz⟩,hle⟩:=hno
    obtain ⟨hvl,hvr⟩:=cells_rel hu hr
    have hz:v.cells.size=size:=by omega
    have hcl:=hc.1
    have hfit:¬ (v.cells.size≠size∨off+v.cells.size>Cs.size):=by omega
    have key:RelL β F W (cs.take off++cellsOf a++cs.drop (off+size)) (v.cells.zipIdx.foldl (fun cs (c,j)=>cs.setIfInBounds (off+j) c) Cs):=by
     rw [←Array.foldl_toList,Array.toList_zipIdx]
     refine ⟨?_,fun j hj=>?_⟩
     ·rw [fold_size];simp;omega
     ·have hj':j<cs.length:=by simp at hj;omega
      rw [fold_get off v.cells.toList 0 Cs j (by simp;omega)]
      simp only [Nat.add_zero,Array.length_toList]
      by_cases h1:off≤j∧j<off+v.cells.size
      ·rw [if_pos h1]
       have e1:(cs.take off++cellsOf a++cs.drop (off+size)).getD j .undef=(cellsOf a).getD (j-off) .undef:=by
        have:min off cs.length=off:=by omega
        simp only [List.getD_eq_getElem?_getD,List.append_assoc]
        rw [List.getElem?_append_right (by simp;omega),List.getElem?_append_left (by simp;omega)]
        simp [this]
       have e2:v.cells.toList.getD (j-off) Go.undef=v.cells.getD (j-off) Go.undef:=by simp [List.getD_eq_getElem?_getD,Array.getD_eq_getD_getElem?]
       rw [e1,e2]
       exact hvr _ (by omega)
      ·rw [if_neg h1]
       have e1:(cs.take off++cellsOf a++cs.drop (off+size)).getD j .undef=cs.getD j .undef:=by
        have hm:min off cs.length=off:=by omega
        simp only [List.getD_eq_getElem?_getD,List.append_assoc]
        by_cases h2:j<off
        ·rw [List.getElem?_append_left (by simp;omega)]
         simp [List.getElem?_take,h2]
        ·rw [List.getElem?_append_right (by simp;omega),List.getElem?_append_right (by simp;omega)]
         simp only [List.getElem?_drop,List.length_take,hm]
         congr 2
         omega
       rw [e1]
       exact hc.2 j hj'
    obtain ⟨Cs',h1,h2,h3⟩:=fill_sound hp rest Rest hP key h
    refine ⟨Cs',?_,h2,h3.trans (by simp;omega)⟩
    unfold Instr.fill
    rw [hp _ _ hpl]
    simp only [Bool.or_eq_true,decide_eq_true_eq,if_neg hfit]
    exact h1
theorem tzero_some {t:TypeId} {l:List AV} (h:tzero P t=some l):∃ i z,P.info? t=some i∧i.zero=some z∧l=cellsOf (absV z):=by
 unfold tzero at h
 cases hi:P.info? t with
 | none=>simp [hi] at h
 | some i =>
  cases hz:i.zero with
  | none=>simp [hi,hz] at h
  | some z=>simp [hi,hz] at h;exact ⟨i,z,rfl,hz,h.symm⟩
theorem tsize_info {t:TypeId} {i:TypeInfo} (h:P.info? t=some i):tsize P t=i.size:=by simp [tsize,h]
theorem tbytes_info {t:TypeId} {i:TypeInfo} (h:P.info? t=some i):tbytes P t=i.bytes:=by simp [tbytes,h]
theorem mapM_all {α γ:Type} {g:α→Option γ} {k:α→γ}:∀ (l:List α),(∀ x∈l,g x=some (k x))→l.mapM g=some (l.map k)
 | [],_=>by simp
 | x::l,h=>by
  have h1:=h x (by simp)
  have h2:=mapM_all l fun y hy=>h y (by simp [hy])
  simp [List.mapM_cons,h1,h2]
theorem build_sound {t:TypeId} {parts:List (Nat×AV)} {Parts:Array (Nat×Value)} {v:AV} (hP:RelP β F W parts Parts.toList) (h:Runs C S L (buildM P t parts) v):Gives P β F W (Instr.build t Parts) v:=by
 unfold buildM at h
 split at h
 ·rename_i z fs hz hu
  split at h
  ·rename_i cs hf
   split at h
   ·rename_i hall
    cases h.done_inv
    obtain ⟨i,zv,hi,hzv,rfl⟩:=tzero_some hz
    have hm:fs.toList.mapM (fun f=>(P.info? f.type).map fun i=>(f.offset,i.size))=some (fs.toList.map fun f=>(f.offset,tsize P f.type)):=by
     refine mapM_all _ fun f hf=>?_
     obtain ⟨j,hj⟩:=Option.isSome_iff_exists.1 (List.all_eq_true.1 hall f hf)
     simp [hj,tsize_info hj]
    obtain ⟨Cs,h1,h2,_⟩:=fill_sound (place':=((fs.toList.map fun f=>(f.offset,tsize P f.type)).toArray[·]?)) (by
     intro i q hq
     simpa using hq) _ _ hP (zero_rel zv) hf
    refine ⟨.agg Cs,run_build W t Parts Cs ?_,.agg h2.1 h2.2⟩
    unfold Program.built
    simp only [hi,hu,hzv,hm]
    exact h1
   ·exact h.fail_inv.elim
  ·exact h.fail_inv.elim
 ·rename_i z n e hz hu
  split at h
  ·rename_i cs hf
   split at h
   ·rename_i he
    cases h.done_inv
    obtain ⟨i,zv,hi,hzv,rfl⟩:=tzero_some hz
    obtain ⟨ie,hie⟩:=Option.isSome_iff_exists.1 he
    obtain ⟨Cs,h1,h2,_⟩:=fill_sound (place':=fun i=>some (i*ie.size,ie.size)) (by
     intro i q hq
     rw [←tsize_info hie]
     exact hq) _ _ hP (zero_rel zv) hf
    refine ⟨.agg Cs,run_build W t Parts Cs ?_,.agg h2.1 h2.2⟩
    unfold Program.built
    simp only [hi,hu,hzv,hie]
    exact h1
   ·exact h.fail_inv.elim
  ·exact h.fail_inv.elim
 ·exact h.fail_inv.elim
def Does (P:Program) (E:Env) (β:Map) (F:Nat→Prop) (W:World) (s:Sem Value) (v:AV) (hp':List AObj):Prop :=
 ∃ u W' β' F',s.run P W=.ok u W'∧Rel β' F' W' v u∧HInv E β' F' hp' W'∧Le β F W β' F' W'
theorem Gives.does {E:Env} {hp:List AObj} (hI:HInv E β F hp W) {s:Sem Value} {v:AV} (h:Gives P β F W s v):Does P E β F W s v hp:=by
 obtain ⟨u,h1,h2⟩:=h
 exact ⟨u,W,β,F,h1,h2,hI,Le.refl _ _ _⟩
theorem relL_get {l:List AV} {Cs:Array Value} (h:RelL β F W l Cs) {j:Nat} (hj:j<(Cells.g l).len):Rel β F W ((Cells.g l).get j) (Cs.getD j Go.undef):=h.2 j hj
theorem alloc_sound {E:Env} {hp:List AObj} (hI:HInv E β F hp W) {t:TypeId} {z:List AV} (hz:tzero P t=some z) :
  Does P E β F W (Instr.alloc t true (.tuple #[])) (.ptr hp.length 0 0) (hp++[.cells false true (.g z)]):=by
 obtain ⟨i,zv,hi,hzv,rfl⟩:=tzero_some hz
 have hr:=zero_rel (β:=β) (F:=F) (W:=W) zv
 obtain ⟨h1,h2⟩:=hI.allocCells false (c:=.g (cellsOf (absV zv))) (by simp) zv.cells t (Nat.le_of_eq hr.1) (fun j hj=>relL_get hr hj)
 exact ⟨_,_,_,_,by simp [Instr.alloc,zeroValue,typeInfo,hi,hzv,newVar,newRow],.ptr (ext_new _ _ _),h1,h2⟩
theorem box_sound {E:Env} {hp:List AObj} (hI:HInv E β F hp W) {t:TypeId} {x:AV} {X:Value} (hx:Rel β F W x X) (hu:isUndef x=false) :
  Does P E β F W (Instr.box t X) (.ptr hp.length 0 0) (hp++[.cells false true (.g (cellsOf x))]):=by
 have hr:=cells_rel hu hx
 obtain ⟨h1,h2⟩:=hI.allocCells false (c:=.g (cellsOf x)) (by simp) X.cells t (Nat.le_of_eq hr.1) (fun j hj=>relL_get hr hj)
 exact ⟨_,_,_,_,by simp [Instr.box,newVar,newRow],.ptr (ext_new _ _ _),h1,h2⟩
theorem reps_length (z:List AV) (n:Nat):(reps z n).length=n*z.length:=by
 induction n with
 | zero=>simp [reps]
 | succ n ih=>simp [reps,ih,Nat.add_mul,Nat.add_comm]
theorem reps_get (z:List AV):∀ (n j:Nat),j<n*z.length→(reps z n).getD j .undef=z.getD (j % z.length) .undef
 | 0,j,h=>by simp at h
 | n+1,j,h=>by
  simp only [reps,List.getD_eq_getElem?_getD]
  by_cases hj:j<z.length
  ·rw [List.getElem?_append_left hj,Nat.mod_eq_of_lt hj]
  ·have hz:0<z.length:=by
    rcases Nat.eq_zero_or_pos z.length with e | e
    ·rw [e] at h;simp at h
    ·exact e
   rw [List.getElem?_append_right (by omega)]
   have:=reps_get z n (j-z.length) (by rw [Nat.add_mul,Nat.one_mul] at h;omega)
   rw [List.getD_eq_getElem?_getD,List.getD_eq_getElem?_getD] at this
   have e:j % z.length=(j-z.length) % z.length:=Nat.mod_eq_sub_mod (by omega)
   rw [this,e]
theorem made_get (z:Array Value) (n j:Nat) (hj:j<n) (hz:0<z.size):((Array.range n).map (z[· % z.size]!)).getD j Go.undef=z.getD (j % z.size) Go.undef:=by
 have:j % z.size<z.size:=Nat.mod_lt _ hz
 simp [hj,this,Array.getD_eq_getD_getElem?]
theorem reps_rel {z:List AV} {Z:Array Value} (h:RelL β F W z Z) {n m:Nat} (hm:n*z.length≤m) (hz:0<z.length) :
  ∀ j,j<(reps z n).length→Rel β F W ((reps z n).getD j .undef) (((Array.range m).map (Z[· % Z.size]!)).getD j Go.undef):=by
 intro j hj
 rw [reps_length] at hj
 rw [reps_get z n j hj,made_get Z m j (by omega) (by rw [←h.1];exact hz),←h.1]
 exact h.2 _ (Nat.mod_lt _ hz)
theorem frz_sound {E:Env} {hp hp':List AObj} (hI:HInv E β F hp W) {v v':AV} (h:frz hp v=some (v',hp')) {V:Value} (hv:Rel β F W v V) :
  ∃ F',HInv E β F' hp' W∧Le β F W β F' W∧Rel β F' W v' V∧hp'.length=hp.length∧isData v'=true:=by
 have data:∀ {v v':AV} {hp'},(if isData v then some (v,hp) else none)=some (v',hp')→Rel β F W v V→∃ F',HInv E β F' hp' W∧Le β F W β F' W∧Rel β F' W v' V∧hp'.length=hp.length∧isData v'=true:=by
  intro v v' hp' h hv
  split at h
  ·rename_i hd
   cases h;exact ⟨F,hI,Le.refl _ _ _,hv,rfl,hd⟩
  ·cases h
 unfold frz at h
 split at h
 ·rename_i id off n m
  have go:∀ {mt:Bool} {c:Cells},hget hp id=.cells true mt c→c.isR=false→(∀ j,j<c.len→isData (c.get j)=true)→some (AV.sl n ((c.drop off).take (n*m)),lset hp id (.cells true false c))=some (v',hp') →
    ∃ F',HInv E β F' hp' W∧Le β F W β F' W∧Rel β F' W v' V∧hp'.length=hp.length∧isData v'=true:=by
   intro mt c hg hc hdat h
   cases h
   cases hv with
   | ref hn hm hb hz hfit =>
   rename_i cap b z ty
   have hf:=hI.freeze (id:=id) (o':=.cells true false c) (by rw [hg];rfl)
   have hle:=le_addF β F W id
   refine ⟨addF F β id,hf,hle,?_,lset_length _ _ _,rfl⟩
   obtain ⟨Cs,t,hB⟩:=hI.behind (c:=c) hb (by simp [rowAt,hg]) (by simp [rowOk,hg])
   have hlen:∀ j,j<((c.drop off).take (n*m)).len→j<n*m∧off+j<c.len:=by
    intro j hj
    rw [Cells.len_take,Cells.len_drop] at hj
    omega
   refine .sl (fun j=>Cs.getD (off+j) Go.undef) hn (.inr ⟨0,hb⟩) (fun j hj=>hB.cell (hlen j hj).2) fun j hj=>?_
   rw [Cells.get_take _ (hlen j hj).1,Cells.get_drop]
   have:=hB.rel _ (hlen j hj).2 (by rw [okAV_plain hp hc];exact decide_eq_true (hlen j hj).2)
   rw [getAV_plain hp hc] at this
   exact (this.data (hdat _ (hlen j hj).2)).mono hle.none
  split at h
  ·rename_i mt c hg
   split at h
   ·cases h
   ·split at h
    ·rename_i l hall
     exact go hg rfl (fun j hj=>by
      have hq:j<l.length:=hj
      have e:(Cells.g l).get j=l[j]:=by simp [Cells.get,List.getD_eq_getElem?_getD,hq]
      rw [e]
      exact List.all_eq_true.1 hall _ (List.getElem_mem hq)) h
    ·cases h
   ·rename_i h1 h2
    exact go hg (by
     revert h1
     cases c <;> intro h1 <;> first | rfl | exact absurd rfl (h1 _ _)) (by
     rename_i h2
     revert h1 h2
     cases c <;> intro h1 h2 j hj <;> first | rfl | exact absurd rfl (h1 _ _) | exact absurd rfl (h2 _)) h
  ·cases h
 ·exact data h hv
theorem frzL_sound {E:Env}:∀ (vs:List AV) {F:Nat→Prop} {hp hp':List AObj} {vs':List AV},HInv E β F hp W→frzL hp vs=some (vs',hp')→∀ {u:Nat→Value},(∀ j,j<vs.length→Rel β F W (vs.getD j .undef) (u j)) →
  ∃ F',HInv E β F' hp' W∧Le β F W β F' W∧vs'.length=vs.length∧(∀ j,j<vs'.length→Rel β F' W (vs'.getD j .undef) (u j))∧hp'.length=hp.length∧vs'.all isData=true
 | [],F,hp,hp',vs',hI,h,u,hr=>by
  cases h
  exact ⟨F,hI,Le.refl _ _ _,rfl,fun j hj=>absurd hj (by simp),rfl,rfl⟩
 | v::vs,F,hp,hp',vs',hI,h,u,hr=>by
  unfold frzL at h
  split at h
  ·rename_i v1 hp1 h1
   split at h
   ·rename_i vs1 hp2 h2
    cases h
    obtain ⟨F1,hI1,hl1,hv1,he1,hd1⟩:=frz_sound hI h1 (hr 0 (by simp))
    obtain ⟨F2,hI2,hl2,hn2,hv2,he2,hd2⟩:=frzL_sound vs hI1 h2 (u:=fun j=>u (j+1)) (fun j hj=>by
     have:=hr (j+1) (by simp;omega)
     exact (by simpa using this:Rel β F W (vs.getD j .undef) (u (j+1))).mono hl1)
    refine ⟨F2,hI2,hl1.trans hl2,by simp [hn2],?_,he2.trans he1,by simp [hd1,hd2]⟩
    intro j hj
    cases j with
    | zero=>exact hv1.mono hl2
    | succ j=>simpa using hv2 j (by simp at hj;omega)
   ·cases h
  ·cases h
theorem ofAVs_plain (e:Cells) (vs:List AV):∀ f pos,ofAVs e vs≠.r f pos:=by
 intro f pos
 unfold ofAVs
 repeat' split
 all_goals simp
theorem ofAVs_len (e:Cells) (vs:List AV):(ofAVs e vs).len=vs.length:=by
 unfold ofAVs
 repeat' split
 all_goals simp [Cells.len]
theorem ofAVs_get (e:Cells) (vs:List AV) (hf:vs.all fitsR=true) {j:Nat} (hj:j<vs.length) {u:Value} (h:Rel β F W (vs.getD j .undef) u):Rel β F W ((ofAVs e vs).get j) u:=by
 have hget:vs.getD j .undef=vs[j]:=by simp [List.getD_eq_getElem?_getD,hj]
 rw [hget] at h
 have hfj:=List.all_eq_true.1 hf vs[j] (List.getElem_mem hj)
 unfold ofAVs
 split
 ·rename_i k _
  split
  ·rename_i hall
   have:=List.all_eq_true.1 hall vs[j] (List.getElem_mem hj)
   simp only [Cells.get]
   have e:(vs.map intOf).getD j 0=intOf vs[j]:=by simp [List.getD_eq_getElem?_getD,hj]
   rw [e]
   cases hq:vs[j] <;> rw [hq] at this h <;> simp_all [isInt,intOf]
  ·simpa [Cells.get,List.getD_eq_getElem?_getD,hj] using h
 ·rename_i k _
  split
  ·rename_i hall
   have:=List.all_eq_true.1 hall vs[j] (List.getElem_mem hj)
   simp only [Cells.get]
   have e:(vs.map rowOf).getD j []=rowOf vs[j]:=by simp [List.getD_eq_getElem?_getD,hj]
   rw [e]
   cases hq:vs[j] with
   | nilS =>
    rw [hq] at h
    cases h
    exact .sl0 _ _ _ (fun _=>rfl)
   | sl n c =>
    rw [hq] at h this hfj
    cases c with
    | i k' l =>
     simp only [isRow,beq_iff_eq] at this
     subst this
     simp only [fitsR,decide_eq_true_eq] at hfj
     subst hfj
     exact h
    | _=>simp [isRow] at this
   | _=>rw [hq] at this;simp [isRow] at this
  ·simpa [Cells.get,List.getD_eq_getElem?_getD,hj] using h
 ·split
  ·rename_i hall
   have:=List.all_eq_true.1 hall vs[j] (List.getElem_mem hj)
   simp only [Cells.get]
   have e:(vs.map boolOf).getD j false=boolOf vs[j]:=by simp [List.getD_eq_getElem?_getD,hj]
   rw [e]
   cases hq:vs[j] <;> rw [hq] at this h <;> simp_all [isBool,boolOf]
  ·simpa [Cells.get,List.getD_eq_getElem?_getD,hj] using h
 ·simpa [Cells.get,List.getD_eq_getElem?_getD,hj] using h
theorem partsL_sound {E:Env} {nest:Bool} {hp hp':List AObj} {vs vs':List AV} (hI:HInv E β F hp W) (h:partsL nest hp vs=some (vs',hp')) {u:Nat→Value} (hr:∀ j,j<vs.length→Rel β F W (vs.getD j .undef) (u j)) :
  ∃ F',HInv E β F' hp' W∧Le β F W β F' W∧vs'.length=vs.length∧(∀ j,j<vs'.length→Rel β F' W (vs'.getD j .undef) (u j))∧hp'.length=hp.length:=by
 unfold partsL at h
 split at h
 ·cases h
  exact ⟨F,hI,Le.refl _ _ _,rfl,hr,rfl⟩
 ·obtain ⟨F',h1,h2,h3,h4,h5,_⟩:=frzL_sound vs hI h hr
  exact ⟨F',h1,h2,h3,h4,h5⟩
theorem frzL_length:∀ (vs:List AV) {hp hp':List AObj} {vs':List AV},frzL hp vs=some (vs',hp')→vs'.length=vs.length
 | [],hp,hp',vs',h=>by cases h;rfl
 | v::vs,hp,hp',vs',h=>by
  unfold frzL at h
  split at h
  ·split at h
   ·rename_i h2
    cases h
    simp [frzL_length vs h2]
   ·cases h
  ·cases h
theorem fillAll_length {place:Nat→Option (Nat×Nat)}:∀ (parts:List (Nat×AV)) {cs cs':List AV},fillAll place cs parts=some cs'→cs'.length=cs.length
 | [],cs,cs',h=>by cases h;rfl
 | (i,a)::rest,cs,cs',h=>by
  unfold fillAll at h
  split at h
  ·cases h
  ·split at h
   ·cases h
   ·rename_i hno
    simp only [Bool.or_eq_true,bne_iff_ne,ne_eq,Bool.not_eq_true',decide_eq_false_iff_not,not_or,Bool.not_eq_true,Classical.not_not] at hno
    have:=fillAll_length rest h
    simp at this
    omega
theorem partsL_length {nest:Bool} {hp hp':List AObj} {vs vs':List AV} (h:partsL nest hp vs=some (vs',hp')):vs'.length=vs.length:=by
 unfold partsL at h
 split at h
 ·cases h;rfl
 ·exact frzL_length _ h
theorem reps_relL {z:List AV} {Z:Array Value} (h:RelL β F W z Z) {n m:Nat} (hm:n*z.length=m) (hz:0<z.length):RelL β F W (reps z n) ((Array.range m).map (Z[· % Z.size]!)) :=
 ⟨by rw [reps_length];simp [hm],reps_rel h (Nat.le_of_eq hm) hz⟩
theorem buildSlice_sound {E:Env} {nest:Bool} {hp hp':List AObj} (hI:HInv E β F hp W) {t:TypeId} {len:Nat} {parts:List (Nat×AV)} {Parts:Array (Nat×Value)} {v:AV}
  (hP:RelP β F W parts Parts.toList) (h:Runs C S L (buildSliceM P nest hp t len parts) (v,hp')):Does P E β F W (Instr.buildSlice t len Parts) v hp':=by
 unfold buildSliceM at h
 split at h
 ·rename_i e hu
  split at h
  ·rename_i z hz
   split at h
   ·rename_i cs0 hf
    split at h
    ·rename_i cs hp1 hpl
     split at h
     ·rename_i hk
      replace h:=h.chk_inv;obtain ⟨hfit,h⟩:=h
      simp only [Bool.and_eq_true,decide_eq_true_eq] at hk
      obtain ⟨⟨k1,k2⟩,k3⟩:=hk
      cases h.done_inv
      obtain ⟨ie,zv,hi,hzv,rfl⟩:=tzero_some hz
      have hts:=tsize_info hi
      have hzr:=zero_rel (β:=β) (F:=F) (W:=W) zv
      have hend:∀ {Cs:Array Value},RelL β F W cs0 Cs→(Instr.buildSlice t len Parts).run P W=.ok (.slice (some ⟨W.heap.size,0,none⟩) len len) (W.alloc (.cells Cs e)) →
        Does P E β F W (Instr.buildSlice t len Parts) (.ref hp1.length 0 0 len (tsize P e)) (hp1++[.cells true true (ofAVs (emptyOf P e) cs)]):=by
       intro Cs h2 hrun
       obtain ⟨F',hI',hl',hn',hr',he'⟩:=partsL_sound hI hpl (u:=fun j=>Cs.getD j Go.undef) h2.2
       obtain ⟨g1,g2⟩:=hI'.allocCells true (c:=ofAVs (emptyOf P e) cs) (ofAVs_plain _ _) Cs e (by rw [ofAVs_len,hn',h2.1];exact Nat.le_refl _) (fun j hj=>by
        rw [ofAVs_len] at hj
        exact ofAVs_get _ _ hfit hj (hr' j hj))
       have hmx:len≤len*tsize P e:=Nat.le_mul_of_pos_right _ k2
       have hsz:Cs.size=len*tsize P e:=by rw [←k1,hn',h2.1]
       refine ⟨_,_,_,_,hrun,?_,g1,hl'.trans g2⟩
       exact .ref (Nat.le_refl _) (by simp only [maxLen];omega) (ext_new _ _ _) ⟨Cs,heap_alloc_at _ _,rfl⟩ (by omega)
      by_cases hl0:len=0
      ·subst hl0
       obtain ⟨Cs,h1,h2,h3⟩:=fill_sound (place':=fun i=>some (i*ie.size,ie.size)) (by
        intro i q hq
        rw [←hts]
        exact hq) _ _ hP (relL_nil (β:=β) (F:=F) (W:=W)) hf
       exact hend h2 (by simp [Instr.buildSlice,run_underlying hu,sizeOf,typeInfo,hi,newRow,Array.range_zero',h1])
      ·have hlz:len*(cellsOf (absV zv)).length=len*tsize P e:=by
        rw [←k1,partsL_length hpl,fillAll_length _ hf,reps_length]
       have hzl:(cellsOf (absV zv)).length=tsize P e:=Nat.eq_of_mul_eq_mul_left (Nat.pos_of_ne_zero hl0) hlz
       obtain ⟨Cs,h1,h2,h3⟩:=fill_sound (place':=fun i=>some (i*ie.size,ie.size)) (by
        intro i q hq
        rw [←hts]
        exact hq) _ _ hP (reps_relL hzr (m:=len*ie.size) (by rw [hzl,hts]) (by omega)) hf
       have hne:¬ len*ie.size=0:=by
        rw [←hts]
        exact Nat.mul_ne_zero hl0 (by omega)
       exact hend h2 (run_buildSlice W t e len Parts Cs ie zv hu hi hzv (by rw [←hts];omega) hne h1)
     ·exact h.fail_inv.elim
    ·exact h.fail_inv.elim
   ·exact h.fail_inv.elim
  ·exact h.fail_inv.elim
 ·exact h.fail_inv.elim
theorem repsC_plain (e:Cells) (z:List AV) (n:Nat):∀ f pos,repsC e z n≠.r f pos:=by
 intro f pos
 unfold repsC
 repeat' split
 all_goals simp
theorem repsC_len (e:Cells) (z:List AV) (n:Nat):(repsC e z n).len=n*z.length:=by
 unfold repsC
 repeat' split
 all_goals simp [Cells.len,reps_length]
theorem repsC_get (e:Cells) {z:List AV} {n j:Nat} (hj:j<n*z.length) {u:Value} (h:Rel β F W ((reps z n).getD j .undef) u):Rel β F W ((repsC e z n).get j) u:=by
 have h0:=h
 rw [reps_get z n j hj] at h
 unfold repsC
 split
 ·rename_i k _ k' a
  have hjn:j<n:=by simpa using hj
  split
  ·rename_i hk
   subst hk
   simp only [List.length_singleton,Nat.mod_one,List.getD_cons_zero] at h
   have:(List.replicate n a).getD j 0=a:=by simp [List.getD_eq_getElem?_getD,List.getElem?_replicate,hjn]
   simp only [Cells.get,this]
   exact h
  ·exact h0
 ·rename_i k _
  have hjn:j<n:=by simpa using hj
  simp only [List.length_singleton,Nat.mod_one,List.getD_cons_zero] at h
  have:(List.replicate n ([]:List Int)).getD j []=[]:=by simp [List.getD_eq_getElem?_getD,List.getElem?_replicate,hjn]
  simp only [Cells.get,this]
  cases h
  exact .sl0 _ _ _ (fun _=>rfl)
 ·rename_i _ a
  have hjn:j<n:=by simpa using hj
  simp only [List.length_singleton,Nat.mod_one,List.getD_cons_zero] at h
  have:(List.replicate n a).getD j false=a:=by simp [List.getD_eq_getElem?_getD,List.getElem?_replicate,hjn]
  simp only [Cells.get,this]
  exact h
 ·exact h0
theorem HInv.addFam {E:Env} {hp:List AObj} (h:HInv E β F hp W) (k:IntKind):HInv E β F (hp++[.fam true k []]) W:=by
 have hid:∀ {i r b},β i r=some b→i<hp.length:=fun {i r b} e=>by
  rcases Nat.lt_or_ge i hp.length with hx | hx
  ·exact hx
  ·rw [h.fresh i r hx] at e;cases e
 refine ⟨h.base,h.fin,h.below,h.lt,h.fcell,?_,?_,?_⟩
 ·intro id r b e
  exact (h.obj _ _ _ e).keep (Le.refl _ _ _) rfl (hget_append_lt _ (hid e)) (FamUp.of_same fun f hf=>hget_append_lt _ (hget_lt (by cases hq:hget hp f <;> simp_all [isFam,isDead]))) (by simp) (fun hn _=>hn)
 ·intro id r id' r' b e e' d d'
  rw [hget_append_lt _ (hid e)] at d
  rw [hget_append_lt _ (hid e')] at d'
  exact h.inj _ _ _ _ _ e e' d d'
 ·intro id r hi
  exact h.fresh _ _ (by simp at hi;omega)
theorem makeSlice_sound {E:Env} {nest:Bool} {hp hp':List AObj} (hI:HInv E β F hp W) {t:TypeId} {l c v:AV} {X Y:Value} (hx:Rel β F W l X) (hy:Rel β F W c Y)
  (h:Runs C S L (makeSliceM P nest hp t l c) (v,hp')):Does P E β F W (Instr.makeSlice t X Y) v hp':=by
 unfold makeSliceM at h
 split at h
 ·rename_i e kl ln kc cn hu
  cases hx;cases hy
  split at h
  ·rename_i z hz
   split at h
   ·rename_i hk
    simp only [Bool.and_eq_true,decide_eq_true_eq] at hk
    obtain ⟨k1,k2⟩:=hk
    replace h:=h.chk_inv;obtain ⟨hb,h⟩:=h
    simp only [Bool.and_eq_true,decide_eq_true_eq] at hb
    obtain ⟨⟨b0,b1⟩,b2⟩:=hb
    obtain ⟨ie,zv,hi,hzv,rfl⟩:=tzero_some hz
    have hts:=tsize_info hi
    have hbs:=tbytes_info hi
    have hzr:=zero_rel (β:=β) (F:=F) (W:=W) zv
    have hc0:0≤cn:=by omega
    have e1:cn*((tbytes P e+1:Nat):Int)=cn*(tbytes P e:Int)+cn:=by
     rw [Int.natCast_add,Int.mul_add];simp
    have e2:(0:Int)≤cn*(tbytes P e:Int):=Int.mul_nonneg hc0 (Int.natCast_nonneg _)
    rw [e1] at b2
    have b3:cn≤1099511627776:=by simp only [lim] at b2;omega
    have b4:(ie.bytes:Int)*cn≤281474976710656:=by
     rw [←hbs,Int.mul_comm];simp only [lim] at b2;omega
    have hrun:=run_make (P:=P) W t e ie zv hu hi hzv kl kc ln cn b0 b1 b4 (by omega)
    have hml:ln.toNat*(cellsOf (absV zv)).length≤cn.toNat*ie.size:=by
     rw [k1,hts]
     exact Nat.mul_le_mul_right _ (by omega)
    split at h
    ·rename_i k _ hem
     replace h:=h.chk_inv;obtain ⟨ht1,h⟩:=h
     have ht1:=of_decide_eq_true ht1
     cases h.done_inv
     have hI1:=hI.addFam k
     have hsz:(madeCells zv.cells (cn.toNat*ie.size)).size=cn.toNat:=by rw [size_madeCells,←hts,ht1,Nat.mul_one]
     have hle:=le_alloc β F W (.cells (madeCells zv.cells (cn.toNat*ie.size)) e) (hp++[AObj.fam true k []]).length (hI1.fresh _ _ (Nat.le_refl _)) hI1.flt
     obtain ⟨g1,g2⟩:=hI1.alloc (.cells true true (.r hp.length (List.replicate ln.toNat lim))) (.cells (madeCells zv.cells (cn.toNat*ie.size)) e) (by
      unfold ORel
      rw [hget_append_new]
      have hfg:hget (hp++[AObj.fam true k []]++[.cells true true (.r hp.length (List.replicate ln.toNat lim))]) hp.length=.fam true k []:=by
       rw [hget_append_lt _ (by simp),hget_append_new]
      refine ⟨rfl,fun _ e=>?_,by simp,_,e,heap_alloc_at _ _,?_,?_,?_⟩
      ·have:=hI1.flt _ e;omega
      ·simp only [Cells.len,List.length_replicate,hsz];omega
      ·refine ⟨by simp,true,k,[],hfg,by simp [lim],fun j hj=>.inr ?_⟩
       simp only [List.length_replicate] at hj
       simp [List.getD_eq_getElem?_getD,List.getElem?_replicate,hj]
      ·intro j hj hok
       simp only [okAV] at hok
       rw [hfg] at hok
       simp at hok)
     have hlen:hp.length+1=(hp++[AObj.fam true k []]).length:=by simp
     refine ⟨_,_,_,_,hrun,?_,by simpa using g1,g2⟩
     rw [hlen]
     exact .ref (by omega) (by simp only [maxLen];omega) (ext_new _ _ _) ⟨_,heap_alloc_at _ _,rfl⟩ (by rw [hsz,ht1];omega)
    ·cases h.done_inv
     obtain ⟨g1,g2⟩:=hI.allocCells true (c:=repsC (emptyOf P e) (cellsOf (absV zv)) ln.toNat) (repsC_plain _ _ _) (madeCells zv.cells (cn.toNat*ie.size)) e (by rw [repsC_len,size_madeCells];exact hml) (fun j hj=>by
      rw [repsC_len] at hj
      exact repsC_get _ hj (reps_rel hzr hml (by omega) j (by rw [reps_length];exact hj)))
     refine ⟨_,_,_,_,hrun,?_,g1,g2⟩
     exact .ref (by omega) (by simp only [maxLen];omega) (ext_new _ _ _) ⟨_,heap_alloc_at _ _,rfl⟩ (by rw [size_madeCells,hts];omega)
   ·exact h.fail_inv.elim
  ·exact h.fail_inv.elim
 ·exact h.fail_inv.elim
end
end Go.Proofs.Yticbdgmcofjkeaa.Ai
namespace Go.Proofs.Yticbdgmcofjkeaa.Ai
open Go Go.RowKit
namespace Cells
theorem toL_len (c:Cells):c.toL.length=c.len:=by cases c <;> simp [Cells.toL,Cells.len]
theorem toL_get {c:Cells} (hc:c.isR=false) {j:Nat} (hj:j<c.len):c.toL.getD j .undef=c.get j:=by
 cases c <;> simp_all [Cells.toL,Cells.get,Cells.len,List.getD_eq_getElem?_getD,Cells.isR]
theorem g_app {l m:List AV} {j:Nat}:(Cells.g (l++m)).get j=if j<l.length then l.getD j .undef else m.getD (j-l.length) .undef:=by
 simp only [Cells.get,List.getD_eq_getElem?_getD]
 split
 ·rename_i h;rw [List.getElem?_append_left h]
 ·rename_i h;rw [List.getElem?_append_right (by omega)]
theorem app_cases (c d:Cells):(∃ k l l',c=.i k l∧d=.i k l'∧c.app d=.i k (l++l'))∨(∃ k l l',c=.m k l∧d=.m k l'∧c.app d=.m k (l++l')) ∨
  (∃ l l',c=.b l∧d=.b l'∧c.app d=.b (l++l'))∨c.app d=.g (c.toL++d.toL):=by
 unfold Cells.app
 split
 ·split
  ·rename_i h;subst h;exact .inl ⟨_,_,_,rfl,rfl,rfl⟩
  ·exact .inr (.inr (.inr rfl))
 ·split
  ·rename_i h;subst h;exact .inr (.inl ⟨_,_,_,rfl,rfl,rfl⟩)
  ·exact .inr (.inr (.inr rfl))
 ·exact .inr (.inr (.inl ⟨_,_,rfl,rfl,rfl⟩))
 ·exact .inr (.inr (.inr rfl))
theorem app_isR (c d:Cells):(c.app d).isR=false:=by
 rcases app_cases c d with ⟨_,_,_,_,_,e⟩ | ⟨_,_,_,_,_,e⟩ | ⟨_,_,_,_,e⟩ | e <;> rw [e] <;> rfl
theorem app_len (c d:Cells):(c.app d).len=c.len+d.len:=by
 rcases app_cases c d with ⟨_,_,_,rfl,rfl,e⟩ | ⟨_,_,_,rfl,rfl,e⟩ | ⟨_,_,rfl,rfl,e⟩ | e <;> rw [e]
 ·simp [Cells.len]
 ·simp [Cells.len]
 ·simp [Cells.len]
 ·simp [Cells.len,toL_len]
theorem app_get {c d:Cells} (hc:c.isR=false) (hd:d.isR=false) {j:Nat} (hj:j<c.len+d.len):(c.app d).get j=if j<c.len then c.get j else d.get (j-c.len):=by
 rcases app_cases c d with ⟨_,_,_,rfl,rfl,e⟩ | ⟨_,_,_,rfl,rfl,e⟩ | ⟨_,_,rfl,rfl,e⟩ | e <;> rw [e]
 ·simp only [Cells.get,Cells.len,List.getD_eq_getElem?_getD]
  split
  ·rename_i h;rw [List.getElem?_append_left h]
  ·rename_i h;rw [List.getElem?_append_right (by omega)]
 ·simp only [Cells.get,Cells.len,List.getD_eq_getElem?_getD]
  split
  ·rename_i h;rw [List.getElem?_append_left h]
  ·rename_i h;rw [List.getElem?_append_right (by omega)]
 ·simp only [Cells.get,Cells.len,List.getD_eq_getElem?_getD]
  split
  ·rename_i h;rw [List.getElem?_append_left h]
  ·rename_i h;rw [List.getElem?_append_right (by omega)]
 ·rw [g_app,toL_len]
  split
  ·rename_i h;exact toL_get hc h
  ·rename_i h;exact toL_get hd (by omega)
theorem isR_ne {c:Cells} (h:c.isR=false):∀ f pos,c≠.r f pos:=by intro f pos e;subst e;cases h
theorem ne_isR {c:Cells} (h:∀ f pos,c≠.r f pos):c.isR=false:=by cases c <;> first | rfl | exact absurd rfl (h _ _)
end Cells
section
variable {P:Program} {C:CRel} {S:SRel} {L:LRel} {β:Map} {F:Nat→Prop} {W:World}
theorem HInv.kill {E:Env} {hp:List AObj} (h:HInv E β F hp W) {id:Nat} (hnf:isFam (hget hp id)=false):HInv E β F (lset hp id .dead) W:=by
 by_cases hlt:id<hp.length
 ·have hdd:∀ i,isDead (hget (lset hp id .dead) i)=false→isDead (hget hp i)=false∧i≠id:=by
   intro i hi
   by_cases e:i=id
   ·subst e;rw [hget_set_same _ hlt] at hi;cases hi
   ·rw [hget_set_ne _ e] at hi;exact ⟨hi,e⟩
  refine ⟨h.base,h.fin,h.below,h.lt,h.fcell,?_,?_,?_⟩
  ·intro i r b e
   by_cases hi:i=id
   ·subst hi
    unfold ORel
    rw [hget_set_same _ hlt]
    trivial
   ·refine (h.obj _ _ _ e).keep (Le.refl _ _ _) rfl (hget_set_ne _ hi) (FamUp.of_same fun f hf=>hget_set_ne _ (fun x=>?_)) (by rw [lset_length];exact Nat.le_refl _) (fun x _=>x)
    subst x;rw [hnf] at hf;cases hf
  ·exact fun i r i' r' b e e' d d'=>h.inj _ _ _ _ _ e e' (hdd _ d).1 (hdd _ d').1
  ·intro i r hi
   rw [lset_length] at hi
   exact h.fresh _ _ hi
 ·have:lset hp id .dead=hp:=by rw [lset_eq];exact List.set_eq_of_length_le (by omega)
  rw [this]
  exact h
theorem HInv.idLt {E:Env} {hp:List AObj} (h:HInv E β F hp W) {i r b:Nat} (e:β i r=some b):i<hp.length:=by
 rcases Nat.lt_or_ge i hp.length with hx | hx
 ·exact hx
 ·rw [h.fresh i r hx] at e;cases e
theorem HInv.adopt {E:Env} {hp:List AObj} {W':World} (h:HInv E β F hp W) {b:Nat} (hb:¬ E.N b) (hblt:b<W.heap.size) (hnF:¬ F b) (hfree:∀ i r,β i r=some b→isDead (hget hp i)=true)
  (ht:Turn W W' b) (o:AObj) (ho:ORel (ext β hp.length b) F W' (hp++[o]) hp.length 0 b):HInv E (ext β hp.length b) F (hp++[o]) W'∧Le β F W (ext β hp.length b) F W':=by
 have hl0:=ht.le β F hnF
 have hle:Le β F W (ext β hp.length b) F W':=⟨fun i r x e=>by
  have:=h.idLt e
  unfold ext
  rw [if_neg (by omega)]
  exact e,hl0.fro,hl0.keep,hl0.size,hl0.kdef,hl0.kloop,hl0.kcell⟩
 refine ⟨⟨h.base,h.fin,ht.below hb h.below,?_,hle.fcell h.fcell,?_,?_,?_⟩,hle⟩
 ·intro i r x e
  rw [ht.size]
  unfold ext at e
  split at e
  ·cases e;exact ⟨hb,hblt⟩
  ·exact h.lt _ _ _ e
 ·intro i r x e
  unfold ext at e
  split at e
  ·rename_i hq;obtain ⟨rfl,rfl⟩:=hq;cases e;exact ho
  ·have hid:=h.idLt e
   cases hd:isDead (hget hp i) with
   | true =>
    unfold ORel
    rw [hget_append_lt _ hid]
    cases hz:hget hp i <;> simp_all [isDead]
   | false =>
    have hne:x≠b:=fun q=>by subst q;rw [hfree _ _ e] at hd;cases hd
    exact (h.obj _ _ _ e).keep hle (ht.other _ hne) (hget_append_lt _ hid) (FamUp.of_same fun f hf=>hget_append_lt _ (hget_lt (by cases hq:hget hp f <;> simp_all [isFam,isDead]))) (by simp) (fun hn _=>hn)
 ·intro i r i' r' x e e' d d'
  unfold ext at e e'
  split at e <;> split at e'
  ·rename_i a c;exact ⟨a.1.trans c.1.symm,a.2.trans c.2.symm⟩
  ·cases e
   rw [hget_append_lt _ (h.idLt e'),hfree _ _ e'] at d'
   cases d'
  ·cases e'
   rw [hget_append_lt _ (h.idLt e),hfree _ _ e] at d
   cases d
  ·rw [hget_append_lt _ (h.idLt e)] at d
   rw [hget_append_lt _ (h.idLt e')] at d'
   exact h.inj _ _ _ _ _ e e' d d'
 ·intro i r hi
  unfold ext
  rw [if_neg (by simp at hi;omega)]
  exact h.fresh _ _ (by simp at hi;omega)
theorem turn_setRow {b:Nat} {Cs Cs':Array Value} {t:TypeId} (h:W.heap[b]?=some (.cells Cs t (0,0))) (hs:Cs'.size=Cs.size):Turn W (W.setRow b Cs') b where
 os:=rfl
 tape:=rfl
 output:=rfl
 size:=setRow_size _ _ _
 other k hk:=setRow_other _ _ _ _ hk
 kdef ds e:=by rw [h] at e;cases e
 kloop r e:=by rw [h] at e;cases e
 kcell C t' e:=by
  rw [h] at e
  cases e
  exact ⟨Cs',setRow_heap W b Cs Cs' t (0,0) h,hs⟩
theorem contents_sound {E:Env} {hp:List AObj} (hI:HInv E β F hp W) {x:AV} {X:Value} (hx:Rel β F W x X) {n size:Nat} {ys:Cells} (h:contents hp x=some (n,ys)) (hok:okContents hp x=true)
  (hfit:fitsRe ys=true) (hlen:ys.len=n*size) {tx e':TypeId} (hk:P.underlying tx=some (.slice e')) :
  ∃ news,Src P size tx X n news W∧(∀ j,j<ys.len→Rel β F W (ys.get j) (news.getD j Go.undef)):=by
 have hone:∀ {u:Nat→Value},(∀ j,j<ys.len→Rel β F W (ys.get j) (u j))→∀ v∈(List.range ys.len).map u,v.oneCell'=true:=by
  intro u hr v hv
  obtain ⟨j,hj,rfl⟩:=List.mem_map.1 hv
  have hj:=List.mem_range.1 hj
  have:=hr j hj
  refine solid_one ?_ this
  cases ys with
  | g l =>
   simp only [fitsRe,Bool.and_eq_true] at hfit
   have hq:j<l.length:=hj
   have e:(Cells.g l).get j=l[j]:=by simp [Cells.get,List.getD_eq_getElem?_getD,hq]
   rw [e]
   exact List.all_eq_true.1 hfit.2 _ (List.getElem_mem hq)
  | r f pos=>simp [fitsRe] at hfit
  | _=>rfl
 have go:∀ {b o cap:Nat} (u:Nat→Value),(∀ j,j<ys.len→W.cell? ⟨b,o+j,none⟩=some (u j))→(∀ j,j<ys.len→Rel β F W (ys.get j) (u j)) →
   ∃ news,Src P size tx (.slice (some ⟨b,o,none⟩) n cap) n news W∧(∀ j,j<ys.len→Rel β F W (ys.get j) (news.getD j Go.undef)):=by
  intro b o cap u hc hr
  refine ⟨(List.range ys.len).map u,Src.ofSlice W hk _ n cap _ (by simp [hlen]) ?_ (hone hr),?_⟩
  ·intro j v hv
   rw [add_none]
   have hj:j<ys.len:=by
    have:=(List.getElem?_eq_some_iff.1 hv).1
    simpa using this
   rw [List.getElem?_map,List.getElem?_range hj] at hv
   simp at hv
   rw [←hv]
   exact hc j hj
  ·intro j hj
   have:((List.range ys.len).map u).getD j Go.undef=u j:=by simp [List.getD_eq_getElem?_getD,hj]
   rw [this]
   exact hr j hj
 unfold contents at h
 split at h
 ·cases h
  cases hx
  exact ⟨[],Src.ofNil W hk 0,fun j hj=>absurd hj (by simp [Cells.len])⟩
 ·cases h
  cases hx with
  | nz a cap=>exact ⟨[],Src.ofSlice W hk a 0 cap [] (by simp) (by simp) (by simp),fun j hj=>absurd hj (by simp [Cells.len])⟩
 ·cases h
  cases hx with
  | sl0 c A cap hA =>
   have h0:ys.len=0:=by omega
   cases A with
   | none=>exact ⟨[],Src.ofNil W hk cap,fun j hj=>by omega⟩
   | some a=>exact ⟨[],Src.ofSlice W hk a 0 cap [] (by simp) (by simp) (by simp),fun j hj=>by omega⟩
  | sl u hn hF hc hr=>exact go u hc (fun j hj=>(hr j hj).up)
 ·rename_i id r off n' m
  cases hx with
  | ref hn hm hb hz hf =>
  split at h
  ·cases h
  ·rename_i c hnr hrow
   cases h
   obtain ⟨Cs,t,hB⟩:=hI.behind hb hrow hok
   have hlt:∀ j,j<((c.drop off).take (n*m)).len→j<n*m∧off+j<c.len:=by
    intro j hj
    rw [Cells.len_take,Cells.len_drop] at hj
    omega
   have hcr:c.isR=false:=Cells.ne_isR hnr
   refine go (fun j=>Cs.getD (off+j) Go.undef) (fun j hj=>hB.cell (hlt j hj).2) fun j hj=>?_
   rw [Cells.get_take _ (hlt j hj).1,Cells.get_drop]
   have:=hB.rel _ (hlt j hj).2 (by rw [okAV_plain hp hcr];exact decide_eq_true (hlt j hj).2)
   rw [getAV_plain hp hcr] at this
   exact this
  ·cases h
 ·cases h
theorem retype_sound {e ys:Cells} (hfit:fitsRe ys=true) {u:Nat→Value} (hr:∀ j,j<ys.len→Rel β F W (ys.get j) (u j)) :
  (retype e ys).len=ys.len∧(retype e ys).isR=false∧∀ j,j<ys.len→Rel β F W ((retype e ys).get j) (u j):=by
 cases ys with
 | g l =>
  simp only [fitsRe,Bool.and_eq_true] at hfit
  exact ⟨ofAVs_len e l,Cells.ne_isR (ofAVs_plain e l),fun j hj=>ofAVs_get e l hfit.1 hj (hr j hj)⟩
 | r f pos=>simp [fitsRe] at hfit
 | i k l=>exact ⟨rfl,rfl,hr⟩
 | m k l=>exact ⟨rfl,rfl,hr⟩
 | b l=>exact ⟨rfl,rfl,hr⟩
theorem run_append_room2 (t tx ty e:TypeId) (i:TypeInfo) (ht:P.underlying t=some (.slice e)) (hi:P.info? e=some i) {g sLen sCap:Nat} {cur:Array Value} {te:TypeId} (hg:W.heap[g]?=some (.cells cur te (0,0)))
    {x:Value} {n:Nat} {news:List Value} (hs:Src P i.size tx x n news W) (hroom:sLen+n≤sCap) (hfit:sLen*i.size+news.length≤cur.size) :
    (Builtin.append_ #[t,tx] ty #[.slice (some ⟨g,0,none⟩) sLen sCap,x]).run P W =
      .ok (.slice (some ⟨g,0,none⟩) (sLen+n) sCap) (W.setRow g (cur.toList.take (sLen*i.size)++news++cur.toList.drop (sLen*i.size+news.length)).toArray):=by
  have hst:=run_storeCells_at (P:=P) g (sLen*i.size) te news 0 cur W hg (by simpa using hfit) hs.one
  simp only [Nat.add_zero] at hst
  rcases hs.kind with ⟨e',hk⟩ | hk <;> simp [Builtin.append_,run_underlying ht,run_underlying hk,sizeOf,typeInfo,hi,hs.len,hroom,hs.cells,Addr.add_lit,hst]
theorem spliced_get {cur:Array Value} {o:Nat} {news:List Value} (hfit:o+news.length≤cur.size) (j:Nat) :
  ((cur.toList.take o++news++cur.toList.drop (o+news.length)).toArray).getD j Go.undef=if j<o then cur.getD j Go.undef else if j<o+news.length then news.getD (j-o) Go.undef else cur.getD j Go.undef:=by
 simp only [Array.getD_eq_getD_getElem?,List.getElem?_toArray,List.append_assoc,List.getD_eq_getElem?_getD]
 have hm:min o cur.size=o:=by omega
 by_cases h1:j<o
 ·rw [if_pos h1,List.getElem?_append_left (by simp;omega)]
  simp [List.getElem?_take,h1]
 ·rw [if_neg h1,List.getElem?_append_right (by simp;omega)]
  simp only [List.length_take,Array.length_toList,hm]
  by_cases h2:j<o+news.length
  ·rw [if_pos h2,List.getElem?_append_left (by omega)]
  ·rw [if_neg h2,List.getElem?_append_right (by omega),List.getElem?_drop]
   have:o+news.length+(j-o-news.length)=j:=by omega
   rw [this]
   simp
theorem spliced_size {cur:Array Value} {o:Nat} {news:List Value} (hfit:o+news.length≤cur.size):((cur.toList.take o++news++cur.toList.drop (o+news.length)).toArray).size=cur.size:=by
 simp;omega
theorem grown_get {olds news:List Value} {z:Array Value} {n j:Nat} (h:j<olds.length+news.length) :
  (((olds++news).toArray++Builtin.zeroCells z n)).getD j Go.undef=if j<olds.length then olds.getD j Go.undef else news.getD (j-olds.length) Go.undef:=by
 simp only [Array.getD_eq_getD_getElem?,List.getD_eq_getElem?_getD]
 rw [Array.getElem?_append_left (by simpa using h),List.getElem?_toArray]
 by_cases h1:j<olds.length
 ·rw [if_pos h1,List.getElem?_append_left h1]
 ·rw [if_neg h1,List.getElem?_append_right (by omega)]
theorem grow_sound {E:Env} {hp:List AObj} (hI:HInv E β F hp W) {t tx ty e:TypeId} (ht:P.underlying t=some (.slice e)) {z:List AV} (hz:tzero P e=some z) (hzl:z.length=tsize P e) (hpos:0<tsize P e)
    {b sn cap n:Nat} {Cs:Array Value} {te:TypeId} (hb:¬ E.N b) (hF:¬ F b) (hfree:∀ i r,β i r=some b→isDead (hget hp i)=true) (hat:W.heap[b]?=some (.cells Cs te (0,0))) (hcap:cap*tsize P e≤Cs.size) (hmx:cap≤maxLen)
    (hsn:sn≤cap) {X:Value} {news:List Value} (hs:Src P (tsize P e) tx X n news W) (hlim:(sn+n)*(tbytes P e+1)≤lim)
    {cells:Cells} (hlen:cells.len=(sn+n)*tsize P e)
    (hrel:∀ {β':Map} {F':Nat→Prop} {W':World} {id':Nat} {Cs':Array Value},Le β F W β' F' W'→(∀ j,j<sn*tsize P e→Cs'.getD j Go.undef=Cs.getD j Go.undef)→(∀ j,j<news.length→Cs'.getD (sn*tsize P e+j) Go.undef=news.getD j Go.undef) →
      wfC (hp++[.cells true true cells]) cells∧∀ j,j<cells.len→okAV (hp++[.cells true true cells]) cells j=true→Rel β' F' W' (getAV (hp++[.cells true true cells]) cells j) (Cs'.getD j Go.undef)) :
    Does P E β F W (Builtin.append_ #[t,tx] ty #[.slice (some ⟨b,0,none⟩) sn cap,X]) (.ref hp.length 0 0 (sn+n) (tsize P e)) (hp++[.cells true true cells]):=by
  obtain ⟨i,zv,hi,hzv,rfl⟩:=tzero_some hz
  have hts:=tsize_info hi
  have hbs:=tbytes_info hi
  have hnl:=hs.newsLen
  have hmul:(sn+n)*tsize P e=sn*tsize P e+n*tsize P e:=Nat.add_mul _ _ _
  have hlim2:(sn+n)*tbytes P e+(sn+n)≤1099511627776:=by rw [Nat.mul_add,Nat.mul_one] at hlim;exact hlim
  have hsz:sn*tsize P e≤cap*tsize P e:=Nat.mul_le_mul_right _ hsn
  by_cases hroom:sn+n≤cap
  · have hfit0:(sn+n)*tsize P e≤cap*tsize P e:=Nat.mul_le_mul_right _ hroom
    have hfit:sn*tsize P e+news.length≤Cs.size:=by omega
    have hrun:=run_append_room2 t tx ty e i ht hi hat (by rw [←hts];exact hs) hroom (by rw [←hts];exact hfit)
    rw [←hts] at hrun
    have hturn:=turn_setRow hat (spliced_size hfit)
    have hlt:=(Array.getElem?_eq_some_iff.1 hat).1
    have hl0:=hturn.le β F hF
    have hle:Le β F W (ext β hp.length b) F (W.setRow b (Cs.toList.take (sn*tsize P e)++news++Cs.toList.drop (sn*tsize P e+news.length)).toArray):=⟨fun i r x e=>by
      have:=hI.idLt e
      unfold ext
      rw [if_neg (by omega)]
      exact e,hl0.fro,hl0.keep,hl0.size,hl0.kdef,hl0.kloop,hl0.kcell⟩
    have hat':=setRow_heap W b Cs (Cs.toList.take (sn*tsize P e)++news++Cs.toList.drop (sn*tsize P e+news.length)).toArray te (0,0) hat
    obtain ⟨r1,r2⟩:=hrel (id':=0) hle (fun j hj=>by rw [spliced_get hfit,if_pos hj]) (fun j hj=>by
      rw [spliced_get hfit,if_neg (by omega),if_pos (by omega)]
      congr 1
      omega)
    obtain ⟨g1,g2⟩:=hI.adopt hb hlt hF hfree hturn (.cells true true cells) (by
      unfold ORel
      rw [hget_append_new]
      exact ⟨rfl,fun _=>hF,by simp,_,te,hat',by rw [spliced_size hfit];omega,r1,r2⟩)
    exact ⟨_,_,_,_,hrun,.ref hroom hmx (ext_new _ _ _) ⟨_,hat',spliced_size hfit⟩ (by omega),g1,g2⟩
  · have hm:sn+n≤maxLen:=by simp only [maxLen];omega
    have holds:(Builtin.firstCells i.size sn (.slice (some ⟨b,0,none⟩) sn cap)).run P W.drew=.ok (Cs.toList.take (sn*i.size)).toArray W.drew:=by
      refine run_firstCells_some W.drew i.size sn ⟨b,0,none⟩ sn cap _ (by simp;rw [←hts];omega) fun j v hv=>?_
      rw [add_none,cell_of_row W.drew b (0+j) Cs te (0,0) hat]
      rw [List.getElem?_take] at hv
      split at hv
      · simpa using hv
      · cases hv
    have hfits:=growslice_fits (need:=sn+n) (old:=cap) (bytes:=i.bytes) (by omega) (by rw [←hbs];omega)
    have hrun:=run_append_grow_src W t tx ty e i zv ht hi hzv (some ⟨b,0,none⟩) sn cap _ holds X n news (by rw [←hts];exact hs) (by omega) (by omega) hfits
    have hol:(Cs.toList.take (sn*i.size)).length=sn*tsize P e:=by simp;rw [←hts];omega
    have hzs:zv.cells.size=tsize P e:=by rw [←hzl];exact (zero_rel (β:=β) (F:=F) (W:=W) zv).1.symm
    have hge:=grownCap_ge W (sn+n) cap e
    have hcm:=grownCap_le_maxLen W (sn+n) cap e hm
    have hsize:((Cs.toList.take (sn*i.size)++news).toArray++Builtin.zeroCells zv.cells (grownCap W (sn+n) cap e-(sn+n))).size=grownCap W (sn+n) cap e*tsize P e:=by
      simp only [Array.size_append,List.size_toArray,List.length_append,hol,hnl,size_zeroCells,hzs]
      rw [←Nat.add_mul,←Nat.add_mul]
      congr 1
      omega
    have hId:=hI.drew
    have hle1:=le_alloc β F W.drew (.cells ((Cs.toList.take (sn*i.size)++news).toArray++Builtin.zeroCells zv.cells (grownCap W (sn+n) cap e-(sn+n))) e) hp.length (hId.fresh _ _ (Nat.le_refl _)) hId.flt
    have hle:=(le_drew β F W).trans hle1
    obtain ⟨r1,r2⟩:=hrel (id':=0) (Cs':=(Cs.toList.take (sn*i.size)++news).toArray++Builtin.zeroCells zv.cells (grownCap W (sn+n) cap e-(sn+n))) hle (fun j hj=>by
        rw [grown_get (olds:=Cs.toList.take (sn*i.size)) (news:=news) (by omega),if_pos (by omega)]
        simp only [List.getD_eq_getElem?_getD,List.getElem?_take,Array.getD_eq_getD_getElem?]
        rw [if_pos (by rw [←hts];exact hj)]
        simp) (fun j hj=>by
        rw [grown_get (olds:=Cs.toList.take (sn*i.size)) (news:=news) (by omega),if_neg (by omega),hol]
        congr 1
        omega)
    obtain ⟨g1,g2⟩:=hId.alloc (.cells true true cells) _ (by
      unfold ORel
      rw [hget_append_new]
      refine ⟨rfl,fun _ e=>?_,by simp,_,e,heap_alloc_at _ _,?_,r1,r2⟩
      · have:=hId.flt _ e;omega
      · rw [hsize,hlen];exact Nat.mul_le_mul_right _ hge)
    refine ⟨_,_,_,_,hrun,?_,g1,(le_drew β F W).trans g2⟩
    exact .ref hge hcm (ext_new _ _ _) ⟨_,heap_alloc_at _ _,hsize⟩ (by omega)
theorem grow_nil {E:Env} {hp:List AObj} (hI:HInv E β F hp W) {t tx ty e:TypeId} (ht:P.underlying t=some (.slice e)) {z:List AV} (hz:tzero P e=some z) (hzl:z.length=tsize P e) (hpos:0<tsize P e)
    {n:Nat} (hn:0<n) {X:Value} {news:List Value} (hs:Src P (tsize P e) tx X n news W) (hlim:n*(tbytes P e+1)≤lim) {cells:Cells} (hlen:cells.len=n*tsize P e)
    (hrel:∀ {β':Map} {F':Nat→Prop} {W':World} {Cs':Array Value},Le β F W β' F' W'→(∀ j,j<news.length→Cs'.getD j Go.undef=news.getD j Go.undef) →
      wfC (hp++[.cells true true cells]) cells∧∀ j,j<cells.len→okAV (hp++[.cells true true cells]) cells j=true→Rel β' F' W' (getAV (hp++[.cells true true cells]) cells j) (Cs'.getD j Go.undef)) :
    Does P E β F W (Builtin.append_ #[t,tx] ty #[.slice none 0 0,X]) (.ref hp.length 0 0 (0+n) (tsize P e)) (hp++[.cells true true cells]):=by
  obtain ⟨i,zv,hi,hzv,rfl⟩:=tzero_some hz
  have hts:=tsize_info hi
  have hbs:=tbytes_info hi
  have hnl:=hs.newsLen
  have hlim2:n*tbytes P e+n≤1099511627776:=by rw [Nat.mul_add,Nat.mul_one] at hlim;exact hlim
  have hm:0+n≤maxLen:=by simp only [maxLen];omega
  have hfits:=growslice_fits (need:=0+n) (old:=0) (bytes:=i.bytes) (by omega) (by rw [←hbs,Nat.zero_add];omega)
  have hrun:=run_append_grow_src W t tx ty e i zv ht hi hzv none 0 0 [] (run_firstCells_none W.drew i.size 0 0 0) X n news (by rw [←hts];exact hs) (by omega) (by omega) hfits
  have hzs:zv.cells.size=tsize P e:=by rw [←hzl];exact (zero_rel (β:=β) (F:=F) (W:=W) zv).1.symm
  have hge:=grownCap_ge W (0+n) 0 e
  have hcm:=grownCap_le_maxLen W (0+n) 0 e hm
  have hsize:((([]:List Value)++news).toArray++Builtin.zeroCells zv.cells (grownCap W (0+n) 0 e-(0+n))).size=grownCap W (0+n) 0 e*tsize P e:=by
    simp only [Array.size_append,List.size_toArray,List.length_append,List.length_nil,hnl,size_zeroCells,hzs]
    rw [Nat.zero_add,←Nat.add_mul]
    congr 1
    omega
  have hId:=hI.drew
  have hle1:=le_alloc β F W.drew (.cells ((([]:List Value)++news).toArray++Builtin.zeroCells zv.cells (grownCap W (0+n) 0 e-(0+n))) e) hp.length (hId.fresh _ _ (Nat.le_refl _)) hId.flt
  have hle:=(le_drew β F W).trans hle1
  obtain ⟨r1,r2⟩:=hrel (Cs':=(([]:List Value)++news).toArray++Builtin.zeroCells zv.cells (grownCap W (0+n) 0 e-(0+n))) hle (fun j hj=>by
      rw [grown_get (olds:=[]) (news:=news) (by simpa using hj),if_neg (by simp)]
      simp)
  obtain ⟨g1,g2⟩:=hId.alloc (.cells true true cells) _ (by
    unfold ORel
    rw [hget_append_new]
    refine ⟨rfl,fun _ e=>?_,by simp,_,e,heap_alloc_at _ _,?_,r1,r2⟩
    · have:=hId.flt _ e;omega
    · rw [hsize,hlen];exact Nat.mul_le_mul_right _ (by omega))
  refine ⟨_,_,_,_,hrun,?_,g1,(le_drew β F W).trans g2⟩
  exact .ref hge hcm (ext_new _ _ _) ⟨_,heap_alloc_at _ _,hsize⟩ (by omega)
def ext2 (β:Map) (id r b:Nat):Map:=fun i x=>if i=id∧x=r then some b else β i x
theorem HInv.moveRow {E:Env} {hp:List AObj} (h:HInv E β F hp W) {f idw bw:Nat} {k:IntKind} {rows:List (List Int)} {l:List Int} (hf:hget hp f=.fam true k rows) (hw:hget hp idw=.cells true true (.i k l)) (hb:β idw 0=some bw)
  (hlt:rows.length+1<lim):HInv E (ext2 β f rows.length bw) F (Ai.moveRow hp f idw k rows l) W∧Le β F W (ext2 β f rows.length bw) F W∧FamUp hp (Ai.moveRow hp f idw k rows l):=by
 have hnew:β f rows.length=none:=by
  cases hq:β f rows.length with
  | none=>rfl
  | some b =>
   have:=h.obj _ _ _ hq
   unfold ORel at this
   rw [hf] at this
   have:=this.1
   omega
 have hne:f≠idw:=by intro e;subst e;rw [hf] at hw;cases hw
 have hfl:f<hp.length:=hget_lt (by rw [hf];rfl)
 have hwl:idw<hp.length:=hget_lt (by rw [hw];rfl)
 have hle:Le β F W (ext2 β f rows.length bw) F W:=⟨fun i r x e=>by
  unfold ext2
  split
  ·rename_i q;obtain ⟨rfl,rfl⟩:=q;rw [hnew] at e;cases e
  ·exact e,fun _ x=>x,fun _ _=>rfl,Nat.le_refl _,fun _ _ x=>x,fun _ r x=>⟨r,x⟩,fun _ C _ x=>⟨C,x,rfl⟩⟩
 have gf:hget (Ai.moveRow hp f idw k rows l) f=.fam true k (rows++[l]):=hget_set_same _ (by rw [lset_length];exact hfl)
 have gw:hget (Ai.moveRow hp f idw k rows l) idw=.dead:=(hget_set_ne _ hne.symm).trans (hget_set_same _ hwl)
 have go:∀ i,i≠f→i≠idw→hget (Ai.moveRow hp f idw k rows l) i=hget hp i:=fun i h1 h2=>(hget_set_ne _ h1).trans (hget_set_ne _ h2)
 have hfu:FamUp hp (Ai.moveRow hp f idw k rows l):=by
  intro f' mt' k' rows' e
  by_cases h1:f'=f
  ·subst h1
   rw [hf] at e
   cases e
   refine ⟨true,rows++[l],gf,by simp,fun _=>by simp;omega,fun x hx=>?_⟩
   simp [List.getD_eq_getElem?_getD,List.getElem?_append_left hx]
  ·have h2:f'≠idw:=by intro q;subst q;rw [hw] at e;cases e
   exact ⟨mt',rows',(go f' h1 h2).trans e,Nat.le_refl _,fun x=>x,fun _ _=>rfl⟩
 have hwo:=h.obj _ _ _ hb
 unfold ORel at hwo
 rw [hw] at hwo
 obtain ⟨_,hnF,_,Cw,tw,w1,w2,_,w3⟩:=hwo
 have hnF:=hnF rfl
 have hlen:(Ai.moveRow hp f idw k rows l).length=hp.length:=by unfold Ai.moveRow;rw [lset_length,lset_length]
 have hdd:∀ i,isDead (hget (Ai.moveRow hp f idw k rows l) i)=false→isDead (hget hp i)=false∧i≠idw:=by
  intro i hi
  by_cases h2:i=idw
  ·subst h2;rw [gw] at hi;cases hi
  ·by_cases h1:i=f
   ·subst h1;exact ⟨by rw [hf];rfl,h2⟩
   ·rw [go i h1 h2] at hi;exact ⟨hi,h2⟩
 refine ⟨⟨h.base,h.fin,h.below,?_,h.fcell,?_,?_,?_⟩,hle,hfu⟩
 ·intro i r b e
  unfold ext2 at e
  split at e
  ·cases e;exact h.lt _ _ _ hb
  ·exact h.lt _ _ _ e
 ·intro i r b e
  unfold ext2 at e
  split at e
  ·rename_i q
   obtain ⟨rfl,rfl⟩:=q
   cases e
   unfold ORel
   rw [gf]
   have hgl:(rows++[l]).getD rows.length []=l:=by simp [List.getD_eq_getElem?_getD]
   refine ⟨by simp,fun _=>hnF,by simp,Cw,tw,w1,by rw [hgl];exact w2,fun j hj=>?_⟩
   rw [hgl] at hj ⊢
   have:=w3 j hj (decide_eq_true hj)
   cases hq:Cw.getD j Go.undef with
   | int k' n=>rw [hq] at this;cases this;rfl
   | _=>rw [hq] at this;cases this
  ·rename_i q
   by_cases h1:i=f
   ·subst h1
    have ho:=h.obj _ _ _ e
    unfold ORel at ho ⊢
    rw [gf]
    rw [hf] at ho
    obtain ⟨o1,o2,o3,C,t,o4,o5,o6⟩:=ho
    have hgr:(rows++[l]).getD r []=rows.getD r []:=by simp [List.getD_eq_getElem?_getD,List.getElem?_append_left o1]
    exact ⟨by simp;omega,o2,o3,C,t,o4,by rw [hgr];exact o5,fun j hj=>by rw [hgr] at hj ⊢;exact o6 j hj⟩
   ·by_cases h2:i=idw
    ·subst h2
     unfold ORel
     rw [gw]
     trivial
    ·exact (h.obj _ _ _ e).keep hle rfl (go i h1 h2) hfu (by rw [hlen];exact Nat.le_refl _) (fun hn _=>hn)
 ·intro i r i' r' b e e' d d'
  obtain ⟨d1,n1⟩:=hdd _ d
  obtain ⟨d2,n2⟩:=hdd _ d'
  unfold ext2 at e e'
  split at e <;> split at e'
  ·rename_i a c;exact ⟨a.1.trans c.1.symm,a.2.trans c.2.symm⟩
  ·cases e
   exact absurd (h.inj _ _ _ _ _ e' hb d2 (by rw [hw];rfl)).1 n2
  ·cases e'
   exact absurd (h.inj _ _ _ _ _ e hb d1 (by rw [hw];rfl)).1 n1
  ·exact h.inj _ _ _ _ _ e e' d1 d2
 ·intro i r hi
  rw [hlen] at hi
  unfold ext2
  rw [if_neg (by omega)]
  exact h.fresh _ _ hi
theorem ext2_new (β:Map) (id r b:Nat):ext2 β id r b id r=some b:=by simp [ext2]
theorem okE_some {e:TypeId} (h:okE P e=true):∃ z,tzero P e=some z∧z.length=tsize P e∧0<tsize P e:=by
 unfold okE at h
 split at h
 ·rename_i z hz
  simp only [Bool.and_eq_true,decide_eq_true_eq] at h
  exact ⟨z,hz,h.1,h.2⟩
 ·cases h
theorem HInv.freeKill {E:Env} {hp:List AObj} (h:HInv E β F hp W) {id r b:Nat} (hb:β id r=some b) (hd:isDead (hget hp id)=false):∀ i r',β i r'=some b→isDead (hget (lset hp id .dead) i)=true:=by
 intro i r' e
 by_cases hi:i=id
 ·subst hi;rw [hget_set_same _ (hget_lt hd)];rfl
 ·rw [hget_set_ne _ hi]
  cases hq:isDead (hget hp i) with
  | true=>rfl
  | false=>exact absurd (h.inj _ _ _ _ _ e hb hq hd).1 hi
theorem moveRow_length (hp:List AObj) (f idw:Nat) (k:IntKind) (rows:List (List Int)) (l:List Int):(Ai.moveRow hp f idw k rows l).length=hp.length:=by
 unfold Ai.moveRow;rw [lset_length,lset_length]
theorem moveRow_fam {hp:List AObj} {f idw:Nat} (k:IntKind) (rows:List (List Int)) (l:List Int) (h:f<hp.length):hget (Ai.moveRow hp f idw k rows l) f=.fam true k (rows++[l]):=hget_set_same _ (by rw [lset_length];exact h)
theorem moveRow_other {hp:List AObj} {f idw:Nat} (k:IntKind) (rows:List (List Int)) (l:List Int) {i:Nat} (h1:i≠f) (h2:i≠idw):hget (Ai.moveRow hp f idw k rows l) i=hget hp i:=(hget_set_ne _ h1).trans (hget_set_ne _ h2)
theorem rowIn_some {hp:List AObj} {k:IntKind} {w:AV} {idw:Nat} {l:List Int} (h:rowIn hp k w=some (idw,l)):∃ n m,w=.ref idw 0 0 n m∧hget hp idw=.cells true true (.i k l):=by
 unfold rowIn at h
 split at h
 ·split at h
  ·rename_i hg
   split at h
   ·rename_i hk
    cases h;subst hk
    exact ⟨_,_,rfl,hg⟩
   ·cases h
  ·cases h
 ·cases h
theorem retype_len (e ys:Cells):(retype e ys).len=ys.len:=by cases ys <;> first | rfl | exact ofAVs_len e _
theorem append_sound {E:Env} {nest:Bool} {hp hp':List AObj} (hI:HInv E β F hp W) {t tx ty:TypeId} {s x v:AV} {X Y:Value} (hs:Rel β F W s X) (hx:Rel β F W x Y) {e':TypeId} (hk:P.underlying tx=some (.slice e'))
  (h:Runs C S L (appendM P nest hp t s x) (v,hp')):Does P E β F W (Builtin.append_ #[t,tx] ty #[X,Y]) v hp':=by
 unfold appendM at h
 split at h
 ·rename_i e ht
  split at h
  ·rename_i hok
   obtain ⟨z,hz,hzl,hpos⟩:=okE_some hok
   split at h
   ·-- a row onto rows
    rename_i k _ idx hem
    split at h
    ·rename_i w hgx
     split at h
     ·rename_i idw l hri
      obtain ⟨wn,wm,rfl,hgw⟩:=rowIn_some hri
      cases hx with
      | ref hnx hmx hbx hzx hfx =>
      rename_i capx bx zx tyx
      obtain ⟨Cx,tx',hBx⟩:=hI.behind (c:=.g [.ref idw 0 0 wn wm]) hbx (by simp [rowAt,hgx]) (by simp [rowOk,hgx])
      have hw0:=hBx.rel 0 (by simp [Cells.len]) (by simp [okAV,Cells.len])
      have hcell:=hBx.cell (j:=0) (by simp [Cells.len])
      have hw0:Rel β F W (.ref idw 0 0 wn wm) (Cx.getD 0 Go.undef):=hw0
      generalize Cx.getD 0 Go.undef=V at hw0 hcell
      have hVone:V.oneCell'=true:=by cases hw0;rfl
      have hsrc:tsize P e=1→Src P (tsize P e) tx (.slice (some ⟨bx,0,none⟩) 1 capx) 1 [V] W:=fun h1=>Src.ofSlice W hk _ 1 capx _ (by simp [h1]) (by
       intro j u hu
       cases j with
       | zero=>simp at hu;subst hu;rw [add_none];exact hcell
       | succ j=>simp at hu) (by simpa using hVone)
      have hidw:idw<hp.length:=hget_lt (by rw [hgw];rfl)
      have hidx:idx<hp.length:=hget_lt (by rw [hgx];rfl)
      cases hw0 with
      | ref hnw hmw hbw hzw hfw =>
      rename_i capw bw zw tyw
      split at h
      ·-- the first row of all
       replace h:=h.chk_inv;obtain ⟨hb,h⟩:=h
       simp only [Bool.and_eq_true,decide_eq_true_eq,fullRef] at hb
       obtain ⟨⟨⟨b1,b2⟩,b3⟩,b4⟩:=hb
       subst b1 b2
       cases h.done_inv
       cases hs
       have hI1:=hI.addFam k
       have hg1:hget (hp++[.fam true k []]) hp.length=.fam true k []:=hget_append_new _ _
       obtain ⟨hI2,hl2,hfu⟩:=hI1.moveRow (f:=hp.length) (idw:=idw) (bw:=bw) (k:=k) (rows:=[]) (l:=l) hg1 (by rw [hget_append_lt _ hidw];exact hgw) hbw (by simp [lim])
       have hg2:hget (Ai.moveRow (hp++[.fam true k []]) hp.length idw k [] l) hp.length=.fam true k [l]:=moveRow_fam k [] l (by simp)
       have hne:idx≠hp.length:=by omega
       have hI3:=hI2.kill (id:=idx) (by
        by_cases q:idx=idw
        ·subst q;rw [hgw] at hgx;cases hgx
        ·rw [moveRow_other k [] l hne q,hget_append_lt _ hidx,hgx];rfl)
       have hg3:hget (lset (Ai.moveRow (hp++[.fam true k []]) hp.length idw k [] l) idx .dead) hp.length=.fam true k [l]:=(hget_set_ne _ hne.symm).trans hg2
       have hlen3:(lset (Ai.moveRow (hp++[.fam true k []]) hp.length idw k [] l) idx .dead).length=hp.length+1:=by rw [lset_length,moveRow_length];simp
       have hg4:hget (lset (Ai.moveRow (hp++[.fam true k []]) hp.length idw k [] l) idx .dead++[.cells true true (.r hp.length [0])]) hp.length=.fam true k [l]:=by
        rw [hget_append_lt _ (by omega)];exact hg3
       have:=grow_nil hI3 (ty:=ty) ht hz hzl hpos (n:=1) (by omega) (hsrc b3) (by rw [Nat.one_mul];exact b4) (cells:=.r hp.length [0]) (by simp [Cells.len,b3]) (fun {β' F' W' Cs'} hle hget'=>by
        refine ⟨⟨by simp [hlen3];omega,true,k,[l],hg4,by simp [lim],fun j hj=>.inl ?_⟩,fun j hj hok'=>?_⟩
        ·have:j=0:=by simp at hj;omega
         subst this;simp
        ·have:j=0:=by simp [Cells.len] at hj;omega
         subst this
         simp only [getAV,hg4]
         rw [hget' 0 (by simp)]
         exact Rel.mono hle (.ref hnw hmw (ext2_new _ _ _ _) hzw hfw))
       obtain ⟨u,W',β',F',q1,q2,q3,q4⟩:=this
       rw [hlen3,b3,Nat.zero_add] at q2
       exact ⟨u,W',β',F',q1,q2,q3,hl2.trans q4⟩
      ·rename_i id sn sm
       split at h
       ·rename_i f pos hgi
        split at h
        ·rename_i k2 rows hgf
         split at h
         ·rename_i hk2
          subst hk2
          replace h:=h.chk_inv;obtain ⟨hb,h⟩:=h
          simp only [Bool.and_eq_true,decide_eq_true_eq,fullRef] at hb
          obtain ⟨⟨⟨⟨⟨⟨b1,b2⟩,b3⟩,b4⟩,b5⟩,b6⟩,b7⟩:=hb
          subst b1 b2 b3 b4
          cases h.done_inv
          cases hs with
          | ref hns hms hbs hzs hfs =>
          rename_i caps bs zs tys
          have hidl:id<hp.length:=hget_lt (by rw [hgi];rfl)
          have hfl:f<hp.length:=hget_lt (by rw [hgf];rfl)
          have nfw:f≠idw:=by intro q;subst q;rw [hgf] at hgw;cases hgw
          have nfx:f≠idx:=by intro q;subst q;rw [hgf] at hgx;cases hgx
          have nfi:f≠id:=by intro q;subst q;rw [hgf] at hgi;cases hgi
          have nxw:idx≠idw:=by intro q;subst q;rw [hgw] at hgx;cases hgx
          have niw:id≠idw:=by intro q;subst q;rw [hgw] at hgi;cases hgi
          have nix:id≠idx:=by intro q;subst q;rw [hgx] at hgi;cases hgi
          obtain ⟨Ci,ti,hBi⟩:=hI.behind (c:=.r f pos) hbs (by simp [rowAt,hgi]) (by simp [rowOk,hgi])
          have hoi:=hI.obj _ _ _ hbs
          unfold ORel at hoi
          rw [hgi] at hoi
          obtain ⟨_,hnF,_,Ci',ti',hat,hle0,hwf,_⟩:=hoi
          have hnF:=hnF rfl
          have hCC:Ci'=Ci∧ti'=ti:=by have:=hat.symm.trans hBi.at_;simp at this;exact this
          obtain ⟨rfl,rfl⟩:=hCC
          obtain ⟨Cz,hzat,hzz⟩:=hzs
          have hCz:Cz=Ci':=by have:=hzat.symm.trans hat;simp at this;exact this.1
          subst hCz
          obtain ⟨hI2,hl2,hfu⟩:=hI.moveRow (f:=f) (idw:=idw) (bw:=bw) (k:=k2) (rows:=rows) (l:=l) hgf hgw hbw (by simp only [lim];omega)
          have hg2:hget (Ai.moveRow hp f idw k2 rows l) f=.fam true k2 (rows++[l]):=moveRow_fam k2 rows l hfl
          have hI3:=hI2.kill (id:=idx) (by rw [moveRow_other k2 rows l nfx.symm nxw,hgx];rfl)
          have hgi3:hget (lset (Ai.moveRow hp f idw k2 rows l) idx .dead) id=.cells true true (.r f pos):=by rw [hget_set_ne _ nix,moveRow_other k2 rows l nfi.symm niw];exact hgi
          have hI4:=hI3.kill (id:=id) (by rw [hgi3];rfl)
          have hbs2:ext2 β f rows.length bw id 0=some bs:=hl2.map _ _ _ hbs
          have hfree:=hI3.freeKill hbs2 (by rw [hgi3];rfl)
          have hg4:hget (lset (lset (Ai.moveRow hp f idw k2 rows l) idx .dead) id .dead++[.cells true true (.r f (pos++[rows.length]))]) f=.fam true k2 (rows++[l]):=by
           rw [hget_append_lt _ (by rw [lset_length,lset_length,moveRow_length];exact hfl),hget_set_ne _ nfi,hget_set_ne _ nfx];exact hg2
          have hlen4:(lset (lset (Ai.moveRow hp f idw k2 rows l) idx .dead) id .dead).length=hp.length:=by rw [lset_length,lset_length,moveRow_length]
          have hwf0:=hwf
          obtain ⟨_,mt',k',rows',hf',hrl,hrp⟩:=hwf0
          have:rows'=rows:=by have:=hf'.symm.trans hgf;simp at this;exact this.2.2
          subst this
          have hposlen:pos.length≤Cz.size:=hle0
          have:=grow_sound hI4 (ty:=ty) ht hz hzl hpos (hI.lt _ _ _ hbs).1 hnF hfree hat (by simp at hfs;rw [b5,hzz];simpa using hfs) hms hns (hsrc b5) b7 (cells:=.r f (pos++[rows'.length])) (by simp [Cells.len,b5]) (fun {β' F' W' _ Cs'} hle hold hnew=>by
           refine ⟨⟨by simp [hlen4];omega,true,k2,rows'++[l],hg4,by simp only [List.length_append,List.length_singleton,lim];omega,fun j hj=>?_⟩,fun j hj hok'=>?_⟩
           ·simp only [List.length_append,List.length_singleton] at hj ⊢
            by_cases hjl:j<pos.length
            ·have e1:(pos++[rows'.length]).getD j 0=pos.getD j 0:=by simp [List.getD_eq_getElem?_getD,List.getElem?_append_left hjl]
             rw [e1]
             rcases hrp j hjl with q | q
             ·exact .inl (by omega)
             ·exact .inr q
            ·have:j=pos.length:=by omega
             subst this
             exact .inl (by simp [List.getD_eq_getElem?_getD])
           ·simp only [Cells.len,List.length_append,List.length_singleton] at hj
            by_cases hjl:j<pos.length
            ·have e1:(pos++[rows'.length]).getD j 0=pos.getD j 0:=by simp [List.getD_eq_getElem?_getD,List.getElem?_append_left hjl]
             simp only [okAV,hg4,e1,Bool.and_eq_true,decide_eq_true_eq] at hok'
             have hpj:pos.getD j 0<rows'.length:=by
              rcases hrp j hjl with q | q
              ·exact q
              ·have:=hok'.2
               simp only [List.length_append,List.length_singleton,lim] at this q
               omega
             have hold':=hBi.rel j hjl (by simp only [okAV,hgf,Bool.and_eq_true,decide_eq_true_eq];exact ⟨hjl,hpj⟩)
             simp only [getAV,hgf] at hold'
             simp only [getAV,hg4,e1]
             have e2:(rows'++[l]).getD (pos.getD j 0) []=rows'.getD (pos.getD j 0) []:=by
              rw [List.getD_eq_getElem?_getD,List.getElem?_append_left hpj,←List.getD_eq_getElem?_getD]
             rw [e2,hold j (by rw [b5,Nat.mul_one];exact hjl)]
             exact (hold'.mono hl2).mono hle
            ·have:j=pos.length:=by omega
             subst this
             have e1:(pos++[rows'.length]).getD pos.length 0=rows'.length:=by simp [List.getD_eq_getElem?_getD]
             have e2:(rows'++[l]).getD rows'.length []=l:=by simp [List.getD_eq_getElem?_getD]
             simp only [getAV,hg4,e1,e2]
             have:=hnew 0 (by simp)
             rw [b5,Nat.mul_one,Nat.add_zero] at this
             rw [this]
             exact Rel.mono hle (.ref hnw hmw (ext2_new _ _ _ _) hzw hfw))
          obtain ⟨u,W',β',F',q1,q2,q3,q4⟩:=this
          rw [hlen4,b5] at q2
          exact ⟨u,W',β',F',q1,q2,q3,hl2.trans q4⟩
         ·exact h.fail_inv.elim
        ·exact h.fail_inv.elim
       ·exact h.fail_inv.elim
      ·exact h.fail_inv.elim
     ·exact h.fail_inv.elim
    ·exact h.fail_inv.elim
   ·split at h
    ·rename_i n ys0 hct
     replace h:=h.chk_inv;obtain ⟨hb,h⟩:=h
     simp only [Bool.and_eq_true] at hb
     obtain ⟨hcok,hfit⟩:=hb
     split at h
     ·replace h:=h.chk_inv;obtain ⟨hb,h⟩:=h
      simp only [Bool.and_eq_true,decide_eq_true_eq] at hb
      obtain ⟨⟨b1,b2⟩,b3⟩:=hb
      replace h:=h.ask_inv
      rw [retype_len] at b1
      obtain ⟨news,hsrc,hrel⟩:=contents_sound hI hx hct hcok hfit b1 hk
      obtain ⟨t1,t2,t3⟩:=retype_sound (e:=emptyOf P e) hfit hrel
      cases hs
      by_cases hn:0<n
      ·rw [decide_eq_true hn] at h
       simp only [if_true] at h
       cases h.done_inv
       have hne:=Cells.isR_ne t2
       have:=grow_nil hI (ty:=ty) ht hz hzl hpos hn hsrc b2 (cells:=retype (emptyOf P e) ys0) (by rw [t1];exact b1) (fun {β' F' W' Cs'} hle hget'=>by
        refine ⟨by revert hne;cases retype (emptyOf P e) ys0 <;> intro hne <;> first | trivial | exact absurd rfl (hne _ _),fun j hj _=>?_⟩
        rw [t1] at hj
        rw [getAV_plain _ t2,hget' j (by rw [hsrc.newsLen,←b1];exact hj)]
        exact (t3 j hj).mono hle)
       rw [Nat.zero_add] at this
       exact this
      ·rw [decide_eq_false hn] at h
       simp only [Bool.false_eq_true,if_false] at h
       cases h.done_inv
       have h0:n=0:=by omega
       subst h0
       have hn0:news=[]:=List.eq_nil_of_length_eq_zero (by rw [hsrc.newsLen,Nat.zero_mul])
       subst hn0
       obtain ⟨i,zv,hi,hzv,_⟩:=tzero_some hz
       have hsrc':Src P i.size tx Y 0 [] W:=by rw [←tsize_info hi];exact hsrc
       refine Gives.does hI ⟨_,?_,.nilS⟩
       rcases hsrc'.kind with ⟨e',hk⟩ | hk <;> simp [Builtin.append_,run_underlying ht,run_underlying hk,sizeOf,typeInfo,hi,hsrc'.len,hsrc'.cells,storeCells]
     ·rename_i id sn sm
      split at h
      ·exact h.fail_inv.elim
      ·rename_i c hnr hgi
       replace h:=h.chk_inv;obtain ⟨hb,h⟩:=h
       simp only [Bool.and_eq_true,decide_eq_true_eq] at hb
       obtain ⟨⟨⟨⟨b1,b2⟩,b3⟩,b4⟩,b5⟩:=hb
       cases h.done_inv
       rw [retype_len] at b3
       subst b2
       obtain ⟨news,hsrc,hrel⟩:=contents_sound hI hx hct hcok hfit b3 hk
       obtain ⟨t1,t2,t3⟩:=retype_sound (e:=emptyOf P e) hfit hrel
       have hcr:c.isR=false:=Cells.ne_isR hnr
       cases hs with
       | ref hns hms hbs hzs hfs =>
       rename_i caps bs zs tys
       obtain ⟨Ci,ti,hBi⟩:=hI.behind (c:=c) hbs (by simp [rowAt,hgi]) (by simp [rowOk,hgi])
       have hoi:=hI.obj _ _ _ hbs
       unfold ORel at hoi
       rw [hgi] at hoi
       have hnF:=hoi.2.1 rfl
       obtain ⟨Cz,hzat,hzz⟩:=hzs
       have hCz:Cz=Ci:=by have:=hzat.symm.trans hBi.at_;simp at this;exact this.1
       subst hCz
       have hI4:=hI.kill (id:=id) (by rw [hgi];rfl)
       have hfree:=hI.freeKill hbs (by rw [hgi];rfl)
       have hisr:(c.app (retype (emptyOf P e) ys0)).isR=false:=Cells.app_isR _ _
       have hne:=Cells.isR_ne hisr
       have hlen:(c.app (retype (emptyOf P e) ys0)).len=(sn+n)*tsize P e:=by rw [Cells.app_len,t1,b1,b3,Nat.add_mul]
       have:=grow_sound hI4 (ty:=ty) ht hz hzl hpos (hI.lt _ _ _ hbs).1 hnF hfree hBi.at_ (by rw [hzz];simpa using hfs) hms hns hsrc b4 (cells:=c.app (retype (emptyOf P e) ys0)) hlen (fun {β' F' W' _ Cs'} hle hold hnew=>by
        refine ⟨by revert hne;cases c.app (retype (emptyOf P e) ys0) <;> intro hne <;> first | trivial | exact absurd rfl (hne _ _),fun j hj _=>?_⟩
        rw [getAV_plain _ hisr]
        have hj':j<c.len+(retype (emptyOf P e) ys0).len:=by rw [←Cells.app_len];exact hj
        rw [Cells.app_get hcr t2 hj']
        by_cases hjl:j<c.len
        ·rw [if_pos hjl,hold j (by omega)]
         have:=hBi.rel j hjl (by rw [okAV_plain hp hcr];exact decide_eq_true hjl)
         rw [getAV_plain hp hcr] at this
         exact this.mono hle
        ·rw [if_neg hjl]
         have q:j-c.len<ys0.len:=by omega
         have:=hnew (j-c.len) (by rw [hsrc.newsLen,←b3];exact q)
         rw [←b1,show c.len+(j-c.len)=j by omega] at this
         rw [this]
         exact (t3 _ q).mono hle)
       rw [lset_length] at this
       exact this
      ·exact h.fail_inv.elim
     ·exact h.fail_inv.elim
    ·exact h.fail_inv.elim
  ·exact h.fail_inv.elim
 ·exact h.fail_inv.elim
end
end Go.Proofs.Yticbdgmcofjkeaa.Ai
namespace Go.Proofs.Yticbdgmcofjkeaa.Ai
open Go Go.RowKit
section
variable {P:Program} {C:CRel} {S:SRel} {L:LRel} {β:Map} {F:Nat→Prop} {W:World}
theorem list_set_get {α:Type} (l:List α) {i j:Nat} (v d:α) (hj:j<l.length):(l.set j v).getD i d=if i=j then v else l.getD i d:=by
 simp only [List.getD_eq_getElem?_getD,List.getElem?_set]
 by_cases h:i=j
 ·subst h;simp [hj]
 ·rw [if_neg (fun e=>h e.symm),if_neg h]
theorem Cells.set_cases (c:Cells) (j:Nat) (v:AV):(∃ k l n,c=.i k l∧v=.int k n∧c.set j v=.i k (l.set j n))∨(∃ k l n w,c=.m k l∧v=.sl n (.i k w)∧c.set j v=.m k (l.set j w)) ∨
  (∃ l x,c=.b l∧v=.bool x∧c.set j v=.b (l.set j x))∨c.set j v=.g (c.toL.set j v):=by
 unfold Cells.set
 split
 ·split
  ·rename_i h;subst h;exact .inl ⟨_,_,_,rfl,rfl,rfl⟩
  ·exact .inr (.inr (.inr rfl))
 ·split
  ·rename_i h;subst h;exact .inr (.inl ⟨_,_,_,_,rfl,rfl,rfl⟩)
  ·exact .inr (.inr (.inr rfl))
 ·exact .inr (.inr (.inl ⟨_,_,rfl,rfl,rfl⟩))
 ·exact .inr (.inr (.inr rfl))
theorem set_rel {c:Cells} (hc:c.isR=false) {j:Nat} (hj:j<c.len) {v:AV} {V:Value} (hf:fitsC c v=true) (hv:Rel β F W v V) {u:Nat→Value} (hr:∀ i,i<c.len→Rel β F W (c.get i) (u i)) :
  (c.set j v).isR=false∧(c.set j v).len=c.len∧(∀ v',fitsC c v'=true→fitsC (c.set j v) v'=true)∧∀ i,i<c.len→Rel β F W ((c.set j v).get i) (if i=j then V else u i):=by
 rcases Cells.set_cases c j v with ⟨k,l,n,rfl,rfl,e⟩ | ⟨k,l,n,w,rfl,rfl,e⟩ | ⟨l,x,rfl,rfl,e⟩ | e <;> rw [e]
 ·refine ⟨rfl,by simp [Cells.len],fun _ _=>rfl,fun i hi=>?_⟩
  simp only [Cells.get]
  rw [list_set_get l n 0 hj]
  by_cases h:i=j
  ·rw [if_pos h,if_pos h];exact hv
  ·rw [if_neg h,if_neg h];exact hr i hi
 ·refine ⟨rfl,by simp [Cells.len],fun v' h=>(by
   cases v' with
   | sl n c=>cases c <;> exact h
   | _=>rfl),fun i hi=>?_⟩
  simp only [fitsC,decide_eq_true_eq] at hf
  subst hf
  simp only [Cells.get]
  rw [list_set_get l w [] hj]
  by_cases h:i=j
  ·rw [if_pos h,if_pos h];exact hv
  ·rw [if_neg h,if_neg h];exact hr i hi
 ·refine ⟨rfl,by simp [Cells.len],fun _ _=>rfl,fun i hi=>?_⟩
  simp only [Cells.get]
  rw [list_set_get l x false hj]
  by_cases h:i=j
  ·rw [if_pos h,if_pos h];exact hv
  ·rw [if_neg h,if_neg h];exact hr i hi
 ·refine ⟨rfl,by simp [Cells.len,Cells.toL_len],fun _ _=>rfl,fun i hi=>?_⟩
  simp only [Cells.get]
  rw [list_set_get _ v .undef (by rw [Cells.toL_len];exact hj)]
  by_cases h:i=j
  ·rw [if_pos h,if_pos h];exact hv
  ·rw [if_neg h,if_neg h,Cells.toL_get hc hi];exact hr i hi
theorem setAll_rel:∀ (vs:List AV) {c:Cells} {off:Nat} {u:Nat→Value} {news:List Value},c.isR=false→off+vs.length≤c.len→(∀ v∈vs,fitsC c v=true)→news.length=vs.length→(∀ j,j<vs.length→Rel β F W (vs.getD j .undef) (news.getD j Go.undef)) →
  (∀ i,i<c.len→Rel β F W (c.get i) (u i))→(setAll c off vs).isR=false∧(setAll c off vs).len=c.len ∧
   ∀ i,i<c.len→Rel β F W ((setAll c off vs).get i) (if i<off then u i else if i<off+news.length then news.getD (i-off) Go.undef else u i)
 | [],c,off,u,news,hc,_,_,hn,_,hr=>by
  refine ⟨hc,rfl,fun i hi=>?_⟩
  have:news.length=0:=by simpa using hn
  simp only [this,Nat.add_zero]
  split
  ·exact hr i hi
  ·exact hr i hi
 | v::vs,c,off,u,news,hc,hle,hf,hn,hv,hr=>by
  cases news with
  | nil=>simp at hn
  | cons V news =>
   simp only [List.length_cons] at hle hn hv
   obtain ⟨s1,s2,s3,s4⟩:=set_rel hc (j:=off) (by omega) (hf v (by simp)) (by simpa using hv 0 (by omega)) hr
   obtain ⟨a1,a2,a3⟩:=setAll_rel vs (c:=c.set off v) (off:=off+1) (u:=fun i=>if i=off then V else u i) (news:=news) s1 (by omega) (fun x hx=>s3 x (hf x (by simp [hx]))) (by omega) (fun j hj=>by
    simpa using hv (j+1) (by omega)) (fun i hi=>s4 i (by omega))
   refine ⟨a1,a2.trans s2,fun i hi=>?_⟩
   have:=a3 i (by omega)
   have e:(if i<off+1 then (if i=off then V else u i) else if i<off+1+news.length then news.getD (i-(off+1)) Go.undef else (if i=off then V else u i)) =
     (if i<off then u i else if i<off+(V::news).length then (V::news).getD (i-off) Go.undef else u i):=by
    simp only [List.length_cons]
    by_cases h1:i<off
    ·rw [if_pos (by omega),if_neg (by omega),if_pos h1]
    ·by_cases h2:i=off
     ·subst h2
      rw [if_pos (by omega),if_pos rfl,if_neg h1,if_pos (by omega)]
      simp
     ·rw [if_neg (by omega),if_neg h1]
      by_cases h3:i<off+1+news.length
      ·rw [if_pos h3,if_pos (by omega)]
       have:i-off=(i-(off+1))+1:=by omega
       rw [this]
       simp
      ·rw [if_neg h3,if_neg h2,if_neg (by omega)]
   rw [←e]
   exact this
theorem run_storeVar_at {t:TypeId} {b off:Nat} {Cs:Array Value} {te:TypeId} (hat:W.heap[b]?=some (.cells Cs te (0,0))) {X:Value} (hpos:0<tsize P t) (hsz:X.cells.size=tsize P t) (hfit:off+X.cells.size≤Cs.size) (h1:∀ v∈X.cells.toList,v.oneCell'=true) :
  (storeVar t ⟨b,off,none⟩ X).run P W=.ok () (W.setRow b (Cs.toList.take off++X.cells.toList++Cs.toList.drop (off+X.cells.toList.length)).toArray):=by
 have hst:=run_storeCells_at (P:=P) b off te X.cells.toList 0 Cs W hat (by simpa using hfit) h1
 simp only [Nat.add_zero] at hst
 simp only [storeVar,Sem.run_bind,run_sizeOf_pos hpos,Result.andThen_ok]
 rw [if_neg (by omega)]
 simpa using hst
def DoesU (P:Program) (E:Env) (β:Map) (F:Nat→Prop) (W:World) (s:Sem Unit) (hp':List AObj):Prop :=
 ∃ W' β' F',s.run P W=.ok () W'∧HInv E β' F' hp' W'∧Le β F W β' F' W'
theorem cells_one {x:AV} {X:Value} (hs:(cellsOf x).all solid=true) (hx:Rel β F W x X) (hne:0<(cellsOf x).length):RelL β F W (cellsOf x) X.cells∧(∀ v∈X.cells.toList,v.oneCell'=true):=by
 have hu:isUndef x=false:=by
  cases x <;> first | rfl | (simp [cellsOf,solid] at hs)
 have hr:=cells_rel hu hx
 refine ⟨hr,fun v hv=>?_⟩
 obtain ⟨j,hj,rfl⟩:=List.getElem_of_mem hv
 have hj':j<X.cells.size:=by simpa using hj
 have:=hr.2 j (by rw [hr.1];exact hj')
 have e1:X.cells.getD j Go.undef=X.cells.toList[j]:=by simp [hj']
 rw [e1] at this
 have hjc:j<(cellsOf x).length:=by rw [hr.1];exact hj'
 have e2:(cellsOf x).getD j .undef=(cellsOf x)[j]:=by simp [List.getD_eq_getElem?_getD,hjc]
 rw [e2] at this
 exact solid_one (List.all_eq_true.1 hs _ (List.getElem_mem hjc)) this
theorem write_sound {E:Env} {hp:List AObj} (hI:HInv E β F hp W) {t:TypeId} {id b off:Nat} {arr:Bool} {c c':Cells} (hb:β id 0=some b) (hg:hget hp id=.cells arr true c) {X:Value} (hpos:0<tsize P t) (hsz:X.cells.size=tsize P t)
  (h1:∀ v∈X.cells.toList,v.oneCell'=true) (hfit:off+X.cells.size≤c.len) (hlen:c'.len=c.len) (hwf:wfC (lset hp id (.cells arr true c')) c')
  (hrel:∀ {W':World} {Cs Cs':Array Value},Le β F W β F W'→(∀ j,j<c.len→okAV hp c j=true→Rel β F W (getAV hp c j) (Cs.getD j Go.undef)) →
   (∀ j,Cs'.getD j Go.undef=if j<off then Cs.getD j Go.undef else if j<off+X.cells.toList.length then X.cells.toList.getD (j-off) Go.undef else Cs.getD j Go.undef) →
   ∀ j,j<c.len→okAV (lset hp id (.cells arr true c')) c' j=true→Rel β F W' (getAV (lset hp id (.cells arr true c')) c' j) (Cs'.getD j Go.undef)) :
  DoesU P E β F W (Instr.storeAt t (.pointer (some ⟨b,off,none⟩)) X) (lset hp id (.cells arr true c')):=by
 have ho:=hI.obj _ _ _ hb
 unfold ORel at ho
 rw [hg] at ho
 obtain ⟨_,hnF,_,Cs,te,hat,hle0,_,hR⟩:=ho
 have hnF:=hnF rfl
 have hXl:X.cells.toList.length=X.cells.size:=by simp
 have hfit2:off+X.cells.toList.length≤Cs.size:=by omega
 have hrun:=run_storeVar_at (P:=P) hat hpos hsz (by omega) h1
 have hturn:=turn_setRow hat (spliced_size hfit2)
 have hat':=setRow_heap W b Cs (Cs.toList.take off++X.cells.toList++Cs.toList.drop (off+X.cells.toList.length)).toArray te (0,0) hat
 have hlt:=hget_lt (hp:=hp) (id:=id) (by rw [hg];rfl)
 have hle:=hturn.le β F hnF
 obtain ⟨g1,g2⟩:=hI.turn hb (by rw [hg];rfl) hnF hturn (.cells arr true c') (by rw [hg];rfl) (fun _=>by
  unfold ORel
  rw [hget_set_same _ hlt]
  refine ⟨rfl,fun _=>hnF,by simp,_,te,hat',by rw [spliced_size hfit2];omega,hwf,fun j hj hok=>?_⟩
  exact hrel hle hR (fun j=>spliced_get hfit2 j) j (by omega) hok) (fun r' hr'=>by
  cases hq:β id r' with
  | none=>rfl
  | some b' =>
   have:=hI.obj _ _ _ hq
   unfold ORel at this
   rw [hg] at this
   exact absurd this.1 hr')
 exact ⟨_,_,_,by simpa [Instr.storeAt,Instr.sureAddr] using hrun,g1,g2⟩
theorem HInv.turnFam {E:Env} {hp:List AObj} {W':World} (h:HInv E β F hp W) {id r b:Nat} {k:IntKind} {rows:List (List Int)} {l:List Int} (hb:β id r=some b) (hg:hget hp id=.fam true k rows) (ht:Turn W W' b)
  (hl:l.length=(rows.getD r []).length) (ho:∃ C t,W'.heap[b]?=some (.cells C t (0,0))∧l.length≤C.size∧∀ j,j<l.length→C.getD j Go.undef=.int k (l.getD j 0)) :
  HInv E β F (lset hp id (.fam true k (rows.set r l))) W'∧Le β F W β F W':=by
 have hlt:=hget_lt (hp:=hp) (id:=id) (by rw [hg];rfl)
 have h0:=h.obj _ _ _ hb
 unfold ORel at h0
 rw [hg] at h0
 obtain ⟨hr,hnF,_,_⟩:=h0
 have hnF:=hnF rfl
 have hle:=ht.le β F hnF
 have hself:(rows.set r l).getD r []=l:=by rw [list_set_get rows l [] hr,if_pos rfl]
 have hoth:∀ x,x≠r→(rows.set r l).getD x []=rows.getD x []:=fun x hx=>by rw [list_set_get rows l [] hr,if_neg hx]
 have hdd:∀ i,isDead (hget (lset hp id (.fam true k (rows.set r l))) i)=false→isDead (hget hp i)=false:=by
  intro i hi
  by_cases e:i=id
  ·subst e;rw [hg];rfl
  ·rw [hget_set_ne _ e] at hi;exact hi
 have hfu:FamUp hp (lset hp id (.fam true k (rows.set r l))):=by
  intro f mt k' rows' e
  by_cases h1:f=id
  ·subst h1
   rw [hg] at e
   cases e
   refine ⟨true,rows.set r l,hget_set_same _ hlt,by simp,fun x=>by simpa using x,fun x hx=>?_⟩
   by_cases h2:x=r
   ·subst h2;rw [hself,hl]
   ·rw [hoth x h2]
  ·exact ⟨mt,rows',(hget_set_ne _ h1).trans e,Nat.le_refl _,fun x=>x,fun _ _=>rfl⟩
 refine ⟨⟨h.base,h.fin,ht.below (h.lt _ _ _ hb).1 h.below,fun i r' b' e=>⟨(h.lt _ _ _ e).1,by rw [ht.size];exact (h.lt _ _ _ e).2⟩,hle.fcell h.fcell,?_,?_,?_⟩,hle⟩
 ·intro i r' b' e
  by_cases hi:i=id
  ·subst hi
   have h1:=h.obj _ _ _ e
   unfold ORel at h1 ⊢
   rw [hget_set_same _ hlt]
   rw [hg] at h1
   obtain ⟨o1,o2,o3,C,t,o4,o5,o6⟩:=h1
   by_cases hrr:r'=r
   ·subst hrr
    rw [hb] at e
    cases e
    obtain ⟨C',t',c1,c2,c3⟩:=ho
    exact ⟨by simpa using o1,o2,o3,C',t',c1,by rw [hself];exact c2,fun j hj=>by rw [hself] at hj ⊢;exact c3 j hj⟩
   ·have hbb:b'≠b:=fun x=>hrr (h.inj _ _ _ _ _ (x▸e) hb (by rw [hg];rfl) (by rw [hg];rfl)).2
    exact ⟨by simpa using o1,o2,o3,C,t,(ht.other _ hbb).trans o4,by rw [hoth r' hrr];exact o5,fun j hj=>by rw [hoth r' hrr] at hj ⊢;exact o6 j hj⟩
  ·cases hq:isDead (hget hp i) with
   | true =>
    unfold ORel
    rw [hget_set_ne _ hi]
    cases hz:hget hp i <;> simp_all [isDead]
   | false =>
    have hbb:b'≠b:=fun x=>hi (h.inj _ _ _ _ _ (x▸e) hb hq (by rw [hg];rfl)).1
    exact (h.obj _ _ _ e).keep hle (ht.other _ hbb) (hget_set_ne _ hi) hfu (by rw [lset_length];exact Nat.le_refl _) (fun x _=>x)
 ·exact fun i r1 i' r1' b' e e' d d'=>h.inj _ _ _ _ _ e e' (hdd _ d) (hdd _ d')
 ·intro i r1 hi
  rw [lset_length] at hi
  exact h.fresh _ _ hi
theorem store_sound {E:Env} {hp hp':List AObj} (hI:HInv E β F hp W) {t:TypeId} {a x:AV} {A X:Value} (ha:Rel β F W a A) (hx:Rel β F W x X) (h:Runs C S L (storeM P hp t a x) hp') :
  DoesU P E β F W (Instr.storeAt t A X) hp':=by
 unfold storeM at h
 split at h
 ·exact h.fail_inv.elim
 ·rename_i hno
  simp only [Bool.or_eq_true,Bool.not_eq_true',bne_iff_ne,ne_eq,decide_eq_false_iff_not,not_or,Bool.not_eq_false,Classical.not_not] at hno
  obtain ⟨⟨hsol,hsz⟩,hpos⟩:=hno
  obtain ⟨hXr,hX1⟩:=cells_one hsol hx (by omega)
  have hXs:X.cells.size=tsize P t:=by rw [←hXr.1];exact hsz
  have hXl:X.cells.toList.length=X.cells.size:=by simp
  split at h
  ·rename_i id r off
   cases ha with
   | ptr hb =>
   rename_i b
   split at h
   ·-- rows of rows
    rename_i f pos hg
    have ho:=hI.obj _ _ _ hb
    unfold ORel at ho
    rw [hg] at ho
    obtain ⟨hr0,hnF,_,Cs,te,hat,hle0,hwf,hR⟩:=ho
    subst hr0
    obtain ⟨_,mt',k',rows',hf',hrl,hrp⟩:=hwf
    split at h
    ·rename_i id2 r2 n m k rows hgf
     have hrr:rows'=rows∧k'=k:=by have:=hf'.symm.trans hgf;simp at this;exact ⟨this.2.2,this.2.1⟩
     obtain ⟨rfl,rfl⟩:=hrr
     have nfi:f≠id:=by intro q;subst q;rw [hgf] at hg;cases hg
     cases hx with
     | ref hnx hmx hbx hzx hfx =>
     rename_i capx bx zx tyx
     split at h
     ·rename_i hif
      subst hif
      replace h:=h.chk_inv;obtain ⟨hk,h⟩:=h
      simp only [Bool.and_eq_true,decide_eq_true_eq] at hk
      obtain ⟨⟨⟨k1,k2⟩,k3⟩,k4⟩:=hk
      subst k3 k4
      cases h.done_inv
      refine write_sound hI hb hg hpos hXs hX1 (by rw [hXs,←hsz];simp [Cells.len,cellsOf];omega) (by simp [Cells.len]) ⟨by rw [lset_length];exact hget_lt (by rw [hgf];rfl),true,k',rows',(hget_set_ne _ nfi).trans hgf,hrl,fun j hj=>?_⟩ ?_
      ·rw [list_set_get pos r2 0 k1]
       by_cases q:j=off
       ·rw [if_pos q];exact .inl k2
       ·rw [if_neg q];exact hrp j (by simpa using hj)
      ·intro W' Cs1 Cs' hle hold hnew j hj hok
       have hgf':hget (lset hp id (.cells true true (.r id2 (pos.set off r2)))) id2=.fam true k' rows':=(hget_set_ne _ nfi).trans hgf
       simp only [okAV,hgf',Bool.and_eq_true,decide_eq_true_eq,List.length_set] at hok
       simp only [getAV,hgf']
       rw [list_set_get pos r2 0 k1] at hok ⊢
       rw [hnew]
       by_cases q:j=off
       ·subst q
        rw [if_pos rfl,if_neg (by omega),if_pos (by simp [Value.cells])]
        simp only [Value.cells,Nat.sub_self,List.getD_cons_zero]
        exact Rel.mono hle (.ref hnx hmx hbx hzx hfx)
       ·rw [if_neg q] at hok ⊢
        have:=hold j hj (by simp only [okAV,hgf,Bool.and_eq_true,decide_eq_true_eq];exact hok)
        simp only [getAV,hgf] at this
        split
        ·exact this.mono hle
        ·rw [if_neg (by simp [Value.cells];omega)]
         exact this.mono hle
     ·rename_i hif
      split at h
      ·rename_i k2' l hg2
       split at h
       ·rename_i hkk
        subst hkk
        replace h:=h.chk_inv;obtain ⟨hk,h⟩:=h
        simp only [Bool.and_eq_true,decide_eq_true_eq] at hk
        obtain ⟨⟨⟨⟨k1,k2⟩,k3⟩,k4⟩,k5⟩:=hk
        subst k1 k3 k4
        cases h.done_inv
        have nid:id≠id2:=by intro q;subst q;rw [hg] at hg2;cases hg2
        obtain ⟨hI2,hl2,hfu⟩:=hI.moveRow (f:=f) (idw:=id2) (bw:=bx) (k:=k2') (rows:=rows') (l:=l) hgf hg2 hbx (by simp only [lim];omega)
        have hfl:f<hp.length:=hget_lt (by rw [hgf];rfl)
        have hgf2:=moveRow_fam (hp:=hp) (idw:=id2) k2' rows' l hfl
        have hgi2:hget (Ai.moveRow hp f id2 k2' rows' l) id=.cells true true (.r f pos):=by rw [moveRow_other k2' rows' l nfi.symm nid];exact hg
        have hgf':hget (lset (Ai.moveRow hp f id2 k2' rows' l) id (.cells true true (.r f (pos.set off rows'.length)))) f=.fam true k2' (rows'++[l]):=(hget_set_ne _ nfi).trans hgf2
        have hw:=write_sound (P:=P) (t:=t) (off:=off) (c':=.r f (pos.set off rows'.length)) hI2 (hl2.map _ _ _ hb) hgi2 hpos hXs hX1 (by rw [hXs,←hsz];simp [Cells.len,cellsOf];omega) (by simp [Cells.len]) ⟨by rw [lset_length,moveRow_length];exact hfl,true,k2',rows'++[l],hgf',by simp only [List.length_append,List.length_singleton,lim];omega,fun j hj=>by
         rw [list_set_get pos _ 0 k2]
         by_cases q:j=off
         ·rw [if_pos q];exact .inl (by simp)
         ·rw [if_neg q]
          rcases hrp j (by simpa using hj) with z | z
          ·exact .inl (Nat.lt_of_lt_of_le z (by simp))
          ·exact .inr z⟩ (by
         intro W' Cs1 Cs' hle hold hnew j hj hok
         simp only [okAV,hgf',Bool.and_eq_true,decide_eq_true_eq,List.length_set] at hok
         simp only [getAV,hgf']
         rw [list_set_get pos _ 0 k2] at hok ⊢
         rw [hnew]
         by_cases q:j=off
         ·subst q
          rw [if_pos rfl,if_neg (by omega),if_pos (by simp [Value.cells])]
          have e2:(rows'++[l]).getD rows'.length []=l:=by simp [List.getD_eq_getElem?_getD]
          simp only [Value.cells,Nat.sub_self,List.getD_cons_zero,e2]
          exact Rel.mono (hl2.trans hle) (.ref hnx hmx hbx hzx hfx) |> fun z=>(by
           cases z with
           | ref a1 a2 a3 a4 a5 =>
            have hbb:ext2 β f rows'.length bx id2 0=some _:=a3
            have hb2:=hl2.map _ _ _ hbx
            rw [hbb] at hb2
            cases hb2
            exact .ref a1 a2 (ext2_new _ _ _ _) a4 a5)
         ·rw [if_neg q] at hok ⊢
          have:=hold j hj (by simp only [okAV,hgf2,Bool.and_eq_true,decide_eq_true_eq];exact hok)
          simp only [getAV,hgf2] at this
          split
          ·exact this.mono hle
          ·rw [if_neg (by simp [Value.cells];omega)]
           exact this.mono hle)
        obtain ⟨W',β',F',q1,q2,q3⟩:=hw
        exact ⟨W',β',F',q1,q2,hl2.trans q3⟩
       ·exact h.fail_inv.elim
      ·exact h.fail_inv.elim
    ·exact h.fail_inv.elim
   ·-- rows of data
    rename_i c0 hnr0 hg0
    split at h
    ·rename_i vs hp1 hfr
     obtain ⟨F1,hI1,hl1,hn1,hr1,he1,hd1⟩:=frzL_sound _ hI hfr (u:=fun j=>X.cells.getD j Go.undef) hXr.2
     split at h
     ·exact h.fail_inv.elim
     ·rename_i c hnr hg
      replace h:=h.chk_inv;obtain ⟨hk,h⟩:=h
      simp only [Bool.and_eq_true,decide_eq_true_eq] at hk
      obtain ⟨⟨k1,k2⟩,k3⟩:=hk
      subst k1
      cases h.done_inv
      have hcr:=Cells.ne_isR hnr
      have hvl:X.cells.toList.length=vs.length:=by rw [hXl,←hXr.1,hn1]
      have hs:=fun {W':World} {u:Nat→Value} (hle:Le β F1 W β F1 W') (hu:∀ j,j<c.len→Rel β F1 W' (c.get j) (u j))=>setAll_rel (β:=β) (F:=F1) (W:=W') vs (c:=c) (off:=off) (u:=u) (news:=X.cells.toList) hcr k2 (List.all_eq_true.1 k3) hvl (fun j hj=>by
       have:=(hr1 j hj).mono hle
       have e:X.cells.toList.getD j Go.undef=X.cells.getD j Go.undef:=by simp [List.getD_eq_getElem?_getD,Array.getD_eq_getD_getElem?]
       rw [e]
       exact this) hu
      have hbase:=hI1.behind (c:=c) hb (by simp [rowAt,hg]) (by simp [rowOk,hg])
      obtain ⟨Cq,tq,hBq⟩:=hbase
      obtain ⟨z1,z2,_⟩:=hs (W':=W) (u:=fun j=>Cq.getD j Go.undef) (Le.refl _ _ _) (fun j hj=>by
       have:=hBq.rel j hj (by rw [okAV_plain _ hcr];exact decide_eq_true hj)
       rw [getAV_plain _ hcr] at this
       exact this)
      have hw:=write_sound (P:=P) (t:=t) (off:=off) (X:=X) (c':=setAll c off vs) hI1 hb hg hpos hXs hX1 (by omega) z2 (by
       have:=Cells.isR_ne z1
       revert this
       cases setAll c off vs <;> intro this <;> first | trivial | exact absurd rfl (this _ _)) (by
       intro W' Cs1 Cs' hle hold hnew j hj hok
       rw [getAV_plain _ z1,hnew]
       obtain ⟨_,_,z3⟩:=hs hle (u:=fun j=>Cs1.getD j Go.undef) (fun j hj=>by
        have:=hold j hj (by rw [okAV_plain _ hcr];exact decide_eq_true hj)
        rw [getAV_plain _ hcr] at this
        exact this.mono hle)
       exact z3 j hj)
      obtain ⟨W',β',F',q1,q2,q3⟩:=hw
      exact ⟨W',β',F',q1,q2,hl1.trans q3⟩
     ·exact h.fail_inv.elim
    ·exact h.fail_inv.elim
   ·-- a variable
    rename_i l hg
    replace h:=h.chk_inv;obtain ⟨hk,h⟩:=h
    simp only [Bool.and_eq_true,decide_eq_true_eq] at hk
    obtain ⟨k1,k2⟩:=hk
    subst k1
    cases h.done_inv
    have hvl:X.cells.toList.length=(cellsOf x).length:=by rw [hXl,←hXr.1]
    have hs:=fun {W':World} {u:Nat→Value} (hle:Le β F W β F W') (hu:∀ j,j<(Cells.g l).len→Rel β F W' ((Cells.g l).get j) (u j))=>setAll_rel (β:=β) (F:=F) (W:=W') (cellsOf x) (c:=.g l) (off:=off) (u:=u) (news:=X.cells.toList) rfl k2 (fun _ _=>rfl) hvl (fun j hj=>by
     have:=(hXr.2 j hj).mono hle
     have e:X.cells.toList.getD j Go.undef=X.cells.getD j Go.undef:=by simp [List.getD_eq_getElem?_getD,Array.getD_eq_getD_getElem?]
     rw [e]
     exact this) hu
    obtain ⟨Cq,tq,hBq⟩:=hI.behind (c:=.g l) hb (by simp [rowAt,hg]) (by simp [rowOk,hg])
    obtain ⟨z1,z2,_⟩:=hs (W':=W) (u:=fun j=>Cq.getD j Go.undef) (Le.refl _ _ _) (fun j hj=>hBq.rel j hj (decide_eq_true hj))
    exact write_sound (P:=P) (t:=t) (off:=off) (X:=X) (c':=setAll (.g l) off (cellsOf x)) hI hb hg hpos hXs hX1 (by rw [←hXr.1];exact k2) z2 (by
     have:=Cells.isR_ne z1
     revert this
     cases setAll (.g l) off (cellsOf x) <;> intro this <;> first | trivial | exact absurd rfl (this _ _)) (by
     intro W' Cs1 Cs' hle hold hnew j hj hok
     rw [getAV_plain _ z1,hnew]
     obtain ⟨_,_,z3⟩:=hs hle (u:=fun j=>Cs1.getD j Go.undef) (fun j hj=>(hold j hj (decide_eq_true hj)).mono hle)
     exact z3 j hj)
   ·-- a row of a family
    rename_i k rows hg
    split at h
    ·rename_i k2 v
     split at h
     ·rename_i hkk
      subst hkk
      replace h:=h.chk_inv;obtain ⟨hk,h⟩:=h
      simp only [Bool.and_eq_true,decide_eq_true_eq] at hk
      obtain ⟨k1,k3⟩:=hk
      cases h.done_inv
      cases hx
      have ho:=hI.obj _ _ _ hb
      unfold ORel at ho
      rw [hg] at ho
      obtain ⟨_,hnF,_,Cs,te,hat,hle0,hR⟩:=ho
      have hfit2:off+[Value.int k2 v].length≤Cs.size:=by simp;omega
      have hrun:=run_storeVar_at (P:=P) (off:=off) (X:=.int k2 v) hat hpos hXs (by simp [Value.cells];omega) hX1
      have hturn:=turn_setRow hat (Cs':=(Cs.toList.take off++[Value.int k2 v]++Cs.toList.drop (off+[Value.int k2 v].length)).toArray) (spliced_size hfit2)
      have hat':=setRow_heap W b Cs (Cs.toList.take off++[Value.int k2 v]++Cs.toList.drop (off+[Value.int k2 v].length)).toArray te (0,0) hat
      obtain ⟨g1,g2⟩:=hI.turnFam (l:=(rows.getD r []).set off v) hb hg hturn (by simp) ⟨_,te,hat',by rw [spliced_size hfit2];simpa using hle0,fun j hj=>by
       rw [spliced_get hfit2,list_set_get _ v 0 k3]
       simp only [List.length_set] at hj
       by_cases q:j=off
       ·subst q
        rw [if_neg (by omega),if_pos (by simp),if_pos rfl]
        simp
       ·rw [if_neg q]
        split
        ·exact hR j hj
        ·rw [if_neg (by simp;omega)]
         exact hR j hj⟩
      exact ⟨_,_,_,by simpa [Instr.storeAt,Instr.sureAddr,Value.cells] using hrun,g1,g2⟩
     ·exact h.fail_inv.elim
    ·exact h.fail_inv.elim
   ·exact h.fail_inv.elim
  ·exact h.fail_inv.elim
theorem run_copy2 {t tx ty e:TypeId} (ht:P.underlying t=some (.slice e)) (he:tsize P e=1) {b off n cap:Nat} {Cs:Array Value} {te:TypeId} (hat:W.heap[b]?=some (.cells Cs te (0,0))) {X:Value} {news:List Value} (hs:Src P 1 tx X n news W)
  (hfit:off+news.length≤Cs.size) :
  (Builtin.copy_ #[t,tx] ty #[.slice (some ⟨b,off,none⟩) n cap,X]).run P W=.ok (.int .i64 n) (W.setRow b (Cs.toList.take off++news++Cs.toList.drop (off+news.length)).toArray):=by
 have hst:=run_storeCells_at (P:=P) b off te news 0 Cs W hat (by simpa using hfit) hs.one
 simp only [Nat.add_zero] at hst
 have hz:∀ w,(sizeOf e).run P w=.ok 1 w:=fun w=>by rw [run_sizeOf_pos (by omega),he]
 have hmin:Nat.min n n=n:=Nat.min_self n
 simp [Builtin.copy_,run_underlying ht,hs.len,hz,hmin,hs.cells,hst,goInt]
theorem copy_sound {E:Env} {hp hp':List AObj} (hI:HInv E β F hp W) {t tx ty:TypeId} {d x v:AV} {D X:Value} (hd:Rel β F W d D) (hx:Rel β F W x X) {e':TypeId} (hk:P.underlying tx=some (.slice e'))
  (h:Runs C S L (copyM P hp t d x) (v,hp')):Does P E β F W (Builtin.copy_ #[t,tx] ty #[D,X]) v hp':=by
 unfold copyM at h
 split at h
 ·rename_i e ht
  split at h
  ·rename_i n ys id r dn dm hct
   replace h:=h.chk_inv;obtain ⟨hok,h⟩:=h
   cases hd with
   | ref hnd hmd hbd hzd hfd =>
   rename_i capd bd zd tyd
   split at h
   ·rename_i k l k2 l2 hg
    split at h
    ·rename_i hkk
     subst hkk
     replace h:=h.chk_inv;obtain ⟨hb,h⟩:=h
     simp only [Bool.and_eq_true,decide_eq_true_eq] at hb
     obtain ⟨⟨⟨⟨⟨b1,b2⟩,b3⟩,b4⟩,b5⟩,b6⟩:=hb
     cases h.done_inv
     subst b1 b2
     obtain ⟨news,hsrc,hrel⟩:=contents_sound hI hx hct hok rfl (size:=1) (by simp [Cells.len,b3]) hk
     have hnl:news.length=n:=by rw [hsrc.newsLen,Nat.mul_one]
     have ho:=hI.obj _ _ _ hbd
     unfold ORel at ho
     rw [hg] at ho
     obtain ⟨_,hnF,_,Cs,te,hat,hle0,_,hR⟩:=ho
     have hnF:=hnF rfl
     have hle0':l.length≤Cs.size:=hle0
     have hfit:0+news.length≤Cs.size:=by omega
     have hrun:=run_copy2 (P:=P) (ty:=ty) (cap:=capd) ht b6 hat hsrc hfit
     have hturn:=turn_setRow hat (spliced_size hfit)
     have hat':=setRow_heap W bd Cs (Cs.toList.take 0++news++Cs.toList.drop (0+news.length)).toArray te (0,0) hat
     have hlt:=hget_lt (hp:=hp) (id:=id) (by rw [hg];rfl)
     have hle:=hturn.le β F hnF
     obtain ⟨g1,g2⟩:=hI.turn hbd (by rw [hg];rfl) hnF hturn (.cells true true (.i k2 l2)) (by rw [hg];rfl) (fun _=>by
      unfold ORel
      rw [hget_set_same _ hlt]
      refine ⟨rfl,fun _=>hnF,by simp,_,te,hat',by rw [spliced_size hfit];simp only [Cells.len];omega,trivial,fun j hj _=>?_⟩
      have hj':j<l2.length:=hj
      rw [spliced_get hfit,if_neg (by omega),if_pos (by omega)]
      exact (hrel j hj).mono hle) (fun r' hr'=>by
      cases hq:β id r' with
      | none=>rfl
      | some b' =>
       have:=hI.obj _ _ _ hq
       unfold ORel at this
       rw [hg] at this
       exact absurd this.1 hr')
     exact ⟨_,_,_,_,hrun,.int _ _,g1,g2⟩
    ·exact h.fail_inv.elim
   ·rename_i k rows k2 l2 hg
    split at h
    ·rename_i hkk
     subst hkk
     replace h:=h.chk_inv;obtain ⟨hb,h⟩:=h
     simp only [Bool.and_eq_true,decide_eq_true_eq] at hb
     obtain ⟨⟨⟨⟨⟨b1,b2⟩,b3⟩,b4⟩,b5⟩,b6⟩:=hb
     cases h.done_inv
     subst b2
     obtain ⟨news,hsrc,hrel⟩:=contents_sound hI hx hct hok rfl (size:=1) (by simp [Cells.len,b3]) hk
     have hnl:news.length=n:=by rw [hsrc.newsLen,Nat.mul_one]
     have ho:=hI.obj _ _ _ hbd
     unfold ORel at ho
     rw [hg] at ho
     obtain ⟨_,hnF,_,Cs,te,hat,hle0,hR⟩:=ho
     have hnF:=hnF rfl
     have hfit:0+news.length≤Cs.size:=by omega
     have hrun:=run_copy2 (P:=P) (ty:=ty) (cap:=capd) ht b6 hat hsrc hfit
     have hturn:=turn_setRow hat (spliced_size hfit)
     have hat':=setRow_heap W bd Cs (Cs.toList.take 0++news++Cs.toList.drop (0+news.length)).toArray te (0,0) hat
     obtain ⟨g1,g2⟩:=hI.turnFam (l:=l2) hbd hg hturn (by omega) ⟨_,te,hat',by rw [spliced_size hfit];omega,fun j hj=>by
      rw [spliced_get hfit,if_neg (by omega),if_pos (by omega)]
      have:=hrel j hj
      cases hq:news.getD (j-0) Go.undef with
      | int k' m=>rw [Nat.sub_zero] at hq;rw [hq] at this;cases this;rfl
      | _=>rw [Nat.sub_zero] at hq;rw [hq] at this;cases this⟩
     exact ⟨_,_,_,_,hrun,.int _ _,g1,g2⟩
    ·exact h.fail_inv.elim
   ·exact h.fail_inv.elim
  ·exact h.fail_inv.elim
 ·exact h.fail_inv.elim
end
end Go.Proofs.Yticbdgmcofjkeaa.Ai
namespace Go.Proofs.Yticbdgmcofjkeaa.Ai
open Go Go.RowKit
section
variable {P:Program} {C:CRel} {S:SRel} {L:LRel} {E:Env} {β:Map} {F:Nat→Prop} {W:World}
def DoesOp (P:Program) (E:Env) (β:Map) (F:Nat→Prop) (W:World) (s:Sem Next) (v:AV) (hp':List AObj):Prop :=
 ∃ nx u W' β' F',s.run P W=.ok nx W'∧(nx=.value u∨(nx=.skip∧u=Go.undef))∧Rel β' F' W' v u∧HInv E β' F' hp' W'∧Le β F W β' F' W'
theorem Does.op {s:Sem Value} {v:AV} {hp':List AObj} (h:Does P E β F W s v hp'):DoesOp P E β F W (do pure (.value (←s))) v hp':=by
 obtain ⟨u,W',β',F',h1,h2,h3,h4⟩:=h
 exact ⟨_,u,W',β',F',by simp only [Sem.run_bind,h1,Result.andThen_ok,Sem.run_pure],.inl rfl,h2,h3,h4⟩
theorem DoesU.op {s:Sem Unit} {hp':List AObj} (h:DoesU P E β F W s hp'):DoesOp P E β F W (do s;pure .skip) .none_ hp':=by
 obtain ⟨W',β',F',h1,h3,h4⟩:=h
 exact ⟨_,_,W',β',F',by simp only [Sem.run_bind,h1,Result.andThen_ok,Sem.run_pure],.inr ⟨rfl,rfl⟩,.none_,h3,h4⟩
theorem Rel.op {hp:List AObj} (hI:HInv E β F hp W) {v:AV} {V:Value} (h:Rel β F W v V):DoesOp P E β F W (pure (.value V)) v hp :=
 ⟨_,V,W,β,F,rfl,.inl rfl,h,hI,Le.refl _ _ _⟩
theorem Gives.op {hp hp':List AObj} (hI:HInv E β F hp W) {s:Sem Value} {t:M AV} {v:AV} (h:Runs C S L (t.bind fun v=>.done (v,hp)) (v,hp')) (hg:∀ v',Runs C S L t v'→Gives P β F W s v') :
  DoesOp P E β F W (do pure (.value (←s))) v hp':=by
 obtain ⟨x,h1,h2⟩:=h.of_bind
 cases h2.done_inv
 exact (Gives.does hI (hg _ h1)).op
theorem isCallV (o:Oper):(∃ c f,o.op=.call c∧c.callee=.value f)∨∀ c f,o.op=.call c→c.callee≠.value f:=by
 by_cases h:∃ c f,o.op=.call c∧c.callee=.value f
 ·exact .inl h
 ·exact .inr fun c f h1 h2=>h ⟨c,f,h1,h2⟩
theorem op_sound {nf:Cfg} {nest:Bool} {tm:List AV} {hp hp':List AObj} {v:AV} {o:Oper} {a:Act} (hI:HInv E β F hp W) (ht:TRel β F W tm a.tmps) (hv:∀ c f,o.op=.call c→c.callee≠.value f)
  (h:Runs C S L (opM P nf nest ⟨tm,hp⟩ o) (v,hp')):DoesOp P E β F W (execOp a.eval o) v hp':=by
 have ev:∀ x,Rel β F W (oev tm x) (a.eval x):=fun x=>ev_rel ht x
 have evP:∀ ps:Array (Nat×Operand),RelP β F W (ps.toList.map fun p=>(p.1,oev tm p.2)) (ps.map fun p=>(p.1,a.eval p.2)).toList:=fun ps=>by
  rw [Array.toList_map];exact relP_map ht _
 have h2:∀ (b:Builtin) (c:Call),c.callee=.builtin b→o.op=.call c→∃ cs:Array Bool,execOp a.eval o=builtin b c.argTypes o.type cs (c.args.map a.eval):=by
  intro b c hc ho
  unfold execOp
  exact ⟨_,by simp only [ho,resolve,hc,invoke,pure_bind];rfl⟩
 unfold opM opE at h
 split at h
 ·rename_i x ho
  cases h.done_inv
  have:execOp a.eval o=pure (.value (a.eval x)):=by unfold execOp;rw [ho]
  rw [this]
  exact (ev _).op hI
 ·rename_i x ho
  cases h.done_inv
  have:execOp a.eval o=pure (.value (a.eval x)):=by unfold execOp;rw [ho]
  rw [this]
  exact (ev _).op hI
 ·rename_i c x y ho
  split at h
  ·rename_i t hc
   have hc':=ev c
   rw [hc] at hc'
   replace h:=h.ask_inv
   cases h.done_inv
   have:(execOp a.eval o).run P W=.ok (.value (if t then a.eval x else a.eval y)) W:=by
    unfold execOp
    rw [ho]
    cases hq:a.eval c <;> rw [hq] at hc' <;> cases hc'
    simp [asBool,hq]
   refine ⟨_,_,W,β,F,this,.inl rfl,?_,hI,Le.refl _ _ _⟩
   cases t with
   | true=>exact ev x
   | false=>exact ev y
  ·exact h.fail_inv.elim
 ·rename_i t ho
  have e:execOp a.eval o=(do pure (.value (←Instr.alloc t true (.tuple #[])))):=by unfold execOp;rw [ho]
  rw [e]
  split at h
  ·rename_i z hz
   split at h
   ·cases h.done_inv
    exact (alloc_sound hI hz).op
   ·exact h.fail_inv.elim
  ·exact h.fail_inv.elim
 ·rename_i t x ho
  have e:execOp a.eval o=(do pure (.value (←Instr.box t (a.eval x)))):=by unfold execOp;rw [ho]
  rw [e]
  split at h
  ·exact h.fail_inv.elim
  ·rename_i hu
   cases h.done_inv
   exact (box_sound hI (ev x) (by simpa using hu)).op
 ·rename_i t parts ho
  have e:execOp a.eval o=(do pure (.value (←Instr.build t (parts.map fun (i,x)=>(i,a.eval x))))):=by unfold execOp;rw [ho]
  rw [e]
  exact Gives.op hI h fun v' h'=>build_sound (evP parts) h'
 ·rename_i t n parts ho
  have e:execOp a.eval o=(do pure (.value (←Instr.buildSlice t n (parts.map fun (i,x)=>(i,a.eval x))))):=by unfold execOp;rw [ho]
  rw [e]
  exact (buildSlice_sound hI (evP parts) h).op
 ·rename_i t x ho
  have e:execOp a.eval o=(do pure (.value (←Instr.loadAt t (a.eval x)))):=by unfold execOp;rw [ho]
  rw [e]
  exact Gives.op hI h fun v' h'=>load_sound hI h' (ev x)
 ·rename_i t x y ho
  have e:execOp a.eval o=(do Instr.storeAt t (a.eval x) (a.eval y);pure .skip):=by unfold execOp;rw [ho]
  rw [e]
  obtain ⟨hp1,h1,h3⟩:=h.of_bind
  cases h3.done_inv
  exact (store_sound hI (ev x) (ev y) h1).op
 ·rename_i x ho
  have hx:=ev x
  have key:∀ V,a.eval x=V→V≠.pointer none→V≠.nilIface→V≠.nilFunc→(∀ m b c,V≠.func (.method m) b c)→execOp a.eval o=pure (.value V):=by
   intro V hV h1 h2 h3 h4
   unfold execOp
   rw [ho]
   simp only [hV]
  split at h
  ·rename_i hq
   cases h.done_inv
   rw [hq] at hx
   generalize hV:a.eval x=V at hx
   have hx':=hx
   cases hx
   all_goals
    rw [key _ hV (by simp) (by simp) (by simp) (by simp)]
    exact hx'.op hI
  ·rename_i hq
   cases h.done_inv
   rw [hq] at hx
   generalize hV:a.eval x=V at hx
   have hx':=hx
   cases hx
   all_goals
    rw [key _ hV (by simp) (by simp) (by simp) (by simp)]
    exact hx'.op hI
  ·rename_i hq
   cases h.done_inv
   rw [hq] at hx
   generalize hV:a.eval x=V at hx
   have hx':=hx
   cases hx
   all_goals
    rw [key _ hV (by simp) (by simp) (by simp) (by simp)]
    exact hx'.op hI
  ·exact h.fail_inv.elim
 ·rename_i op t x y t2 ho
  have e:execOp a.eval o=(do pure (.value (←(do eqGuard op t x y (a.eval x) (a.eval y);binOp op t (a.eval x) (a.eval y):Sem Value)))):=by unfold execOp;rw [ho]
  rw [e]
  exact Gives.op hI h fun v' h'=>bin_sound h' (ev x) (ev y) x y
 ·rename_i op t x ho
  have e:execOp a.eval o=(do pure (.value (←Op.unary op (a.eval x)))):=by unfold execOp;rw [ho]
  rw [e]
  exact Gives.op hI h fun v' h'=>un_sound h' (ev x)
 ·rename_i src dst x ho
  have e:execOp a.eval o=(do pure (.value (←convert src dst (a.eval x)))):=by unfold execOp;rw [ho]
  rw [e]
  split at h
  ·rename_i hs hd hx
   cases h.done_inv
   have hx':=ev x
   rw [hx] at hx'
   exact (Gives.does hI (convert_sound hs hd hx')).op
  ·exact h.fail_inv.elim
 ·rename_i f first caps ho
  have e:execOp a.eval o=(do pure (.value (←Instr.makeFunc (.func f) (first.map a.eval) (caps.map a.eval)))):=by unfold execOp;rw [ho]
  rw [e]
  split at h
  ·rename_i hz
   cases h.done_inv
   obtain ⟨hz,hfl⟩:=(Bool.and_eq_true _ _▸hz:_∧_)
   have hfl:f<1048576:=by simpa [Nat.blt_eq] using hfl
   have hz:=of_decide_eq_true hz
   have hfe:first=#[]:=Array.eq_empty_of_size_eq_zero hz
   subst hfe
   refine (Gives.does hI ⟨.func (.func f) #[] (caps.map a.eval),by simp [Instr.makeFunc],.fn hfl (by simp) fun j hj=>?_⟩).op
   have hj':j<caps.size:=by simpa using hj
   have:=ev caps[j]
   simpa [List.getD_eq_getElem?_getD,hj'] using this
  ·split at h
   ·rename_i hz
    have hz:=of_decide_eq_true hz
    split at h
    ·rename_i cs hcs
     cases h.done_inv
     have hce:caps=#[]:=Array.eq_empty_of_size_eq_zero hz
     subst hce
     have hsz:first.toList.length=1:=by
      have:=congrArg List.length hcs
      simpa using this
     obtain ⟨x,hx⟩:∃ x,first=#[x]:=by
      obtain ⟨l⟩:=first
      match l,hsz with
      | [x],_=>exact ⟨x,rfl⟩
     subst hx
     have hq:=ev x
     have hcs':oev tm x=.agg cs:=by simpa using hcs
     rw [hcs'] at hq
     obtain ⟨vs,hV,hl,hr⟩:∃ vs,a.eval x=.agg vs∧cs.length=vs.size∧∀ j,j<cs.length→Rel β F W (cs.getD j .undef) (vs.getD j Go.undef):=by
      cases hVx:a.eval x <;> rw [hVx] at hq <;> cases hq
      exact ⟨_,rfl,‹_›,‹_›⟩
     exact (Gives.does hI ⟨.func (.func f) #[.agg vs] #[],by simp [Instr.makeFunc,hV],.bfn hl hr⟩).op
    ·exact h.fail_inv.elim
   ·exact h.fail_inv.elim
 ·rename_i t l c ho
  have e:execOp a.eval o=(do pure (.value (←Instr.makeSlice t (a.eval l) (a.eval c)))):=by unfold execOp;rw [ho]
  rw [e]
  exact (makeSlice_sound hI (ev l) (ev c) h).op
 ·rename_i t x lo hi mx ho
  have e:execOp a.eval o=(do pure (.value (←Instr.sliceAt t (a.eval x) (lo.map a.eval) (hi.map a.eval) (mx.map a.eval)))):=by unfold execOp;rw [ho]
  rw [e]
  exact Gives.op hI h fun v' h'=>slice_sound hI h' (ev x) (relO_map ht lo) (relO_map ht hi) (relO_map ht mx)
 ·rename_i s x f ho
  have e:execOp a.eval o=(do pure (.value (←Instr.fieldAt s (a.eval x) f))):=by unfold execOp;rw [ho]
  rw [e]
  have hx:=ev x
  split at h
  ·rename_i hf hq
   rw [hq] at hx
   split at h
   ·rename_i h0
    cases h.done_inv
    have h0:=of_decide_eq_true h0
    generalize a.eval x=V at hx
    cases hx with
    | ptr hb=>exact (Gives.does hI ⟨_,fieldAddr_sound hf h0,.ptr hb⟩).op
   ·exact h.fail_inv.elim
  ·rename_i hf hq
   rw [hq] at hx
   split at h
   ·rename_i h0
    cases h.done_inv
    have h0:=of_decide_eq_true h0
    generalize a.eval x=V at hx
    cases hx with
    | fptr u hF hc hr=>exact (Gives.does hI ⟨_,fieldAddr_sound hf h0,by rw [Nat.add_assoc];exact .fptr u hF hc hr⟩).op
   ·exact h.fail_inv.elim
  ·exact h.fail_inv.elim
 ·rename_i t x f ho
  have e:execOp a.eval o=(do pure (.value (←Instr.field t (a.eval x) f))):=by unfold execOp;rw [ho]
  rw [e]
  have hx:=ev x
  split at h
  ·rename_i hf hq
   rw [hq] at hx
   split at h
   ·rename_i hp
    cases h.done_inv
    exact (Gives.does hI (field_sound hf hp hx)).op
   ·exact h.fail_inv.elim
  ·exact h.fail_inv.elim
 ·rename_i t x i ho
  have e:execOp a.eval o=(do pure (.value (←Instr.indexAt t (a.eval x) (a.eval i)))):=by unfold execOp;rw [ho]
  rw [e]
  exact Gives.op hI h fun v' h'=>index_sound h' (ev x) (ev i)
 ·rename_i t x i ho
  have e:execOp a.eval o=(do pure (.value (←Instr.index t (a.eval x) (a.eval i)))):=by unfold execOp;rw [ho]
  rw [e]
  exact Gives.op hI h fun v' h'=>valIndex_sound h' (ev x) (ev i)
 ·rename_i t i ho
  have e:execOp a.eval o=(do pure (.value (←Instr.extract (a.eval t) i))):=by unfold execOp;rw [ho]
  rw [e]
  have hx:=ev t
  split at h
  ·rename_i hq
   rw [hq] at hx
   split at h
   ·rename_i hp
    cases h.done_inv
    exact (Gives.does hI (extract_sound hp hx)).op
   ·exact h.fail_inv.elim
  ·exact h.fail_inv.elim
 ·rename_i c ho
  split at h
  ·rename_i f hc
   exact absurd hc (hv c f ho)
  ·rename_i hc
   obtain ⟨cs,h2'⟩:=h2 _ c hc ho
   rw [h2']
   split at h
   ·rename_i t ts x xs ht1 hx1
    have e0:c.argTypes[0]?=some t:=by rw [←Array.getElem?_toList,ht1];rfl
    have e1:(c.args.map a.eval)[0]?=some (a.eval x):=by rw [←Array.getElem?_toList,Array.toList_map,hx1];rfl
    exact Gives.op (s:=Builtin.len_ _ _ _) hI h fun v' h'=>len_sound h' (ev x) _ _ e0 _ e1
   ·exact h.fail_inv.elim
  ·rename_i hc
   obtain ⟨cs,h2'⟩:=h2 _ c hc ho
   rw [h2']
   split at h
   ·rename_i t tx s x ht1 hx1
    have e0:c.argTypes=#[t,tx]:=by rw [←Array.toArray_toList (xs:=c.argTypes),ht1]
    have e1:c.args=#[s,x]:=by rw [←Array.toArray_toList (xs:=c.args),hx1]
    split at h
    ·rename_i hk
     rw [e0,e1,show (#[s,x].map a.eval)=#[a.eval s,a.eval x] by simp]
     exact (append_sound (ty:=o.type) hI (ev s) (ev x) hk h).op
    ·exact h.fail_inv.elim
   ·exact h.fail_inv.elim
  ·rename_i hc
   obtain ⟨cs,h2'⟩:=h2 _ c hc ho
   rw [h2']
   split at h
   ·rename_i t tx s x ht1 hx1
    have e0:c.argTypes=#[t,tx]:=by rw [←Array.toArray_toList (xs:=c.argTypes),ht1]
    have e1:c.args=#[s,x]:=by rw [←Array.toArray_toList (xs:=c.args),hx1]
    split at h
    ·rename_i hk
     rw [e0,e1,show (#[s,x].map a.eval)=#[a.eval s,a.eval x] by simp]
     exact (copy_sound (ty:=o.type) hI (ev s) (ev x) hk h).op
    ·exact h.fail_inv.elim
   ·exact h.fail_inv.elim
  ·rename_i hc
   obtain ⟨cs,h2'⟩:=h2 _ c hc ho
   rw [h2']
   split at h
   ·rename_i x y hx1
    have e1:c.args=#[x,y]:=by rw [←Array.toArray_toList (xs:=c.args),hx1]
    rw [e1,show (#[x,y].map a.eval)=#[a.eval x,a.eval y] by simp]
    exact Gives.op (s:=Builtin.max_ c.argTypes o.type _) hI h fun v' h'=>(by
     have:=minmax_sound (P:=P) (mx:=true) h' (ev x) (ev y) c.argTypes o.type
     simpa using this)
   ·exact h.fail_inv.elim
  ·rename_i hc
   obtain ⟨cs,h2'⟩:=h2 _ c hc ho
   rw [h2']
   split at h
   ·rename_i x y hx1
    have e1:c.args=#[x,y]:=by rw [←Array.toArray_toList (xs:=c.args),hx1]
    rw [e1,show (#[x,y].map a.eval)=#[a.eval x,a.eval y] by simp]
    exact Gives.op (s:=Builtin.min_ c.argTypes o.type _) hI h fun v' h'=>(by
     have:=minmax_sound (P:=P) (mx:=false) h' (ev x) (ev y) c.argTypes o.type
     simpa using this)
   ·exact h.fail_inv.elim
  ·exact h.fail_inv.elim
 ·exact h.fail_inv.elim
end
end Go.Proofs.Yticbdgmcofjkeaa.Ai
namespace Go.Proofs.Yticbdgmcofjkeaa.Ai
open Go Go.RowKit
section
variable {P:Program} {C:CRel} {S:SRel} {L:LRel} {E:Env} {β:Map} {F:Nat→Prop} {W:World}
def inIds (hp:List AObj) (ids:List Nat) (id:Nat):Prop:=id∈expand hp ids
theorem inIds.self {hp:List AObj} {ids:List Nat} {id:Nat} (h:id∈ids):inIds hp ids id:=List.mem_flatMap.2 ⟨id,h,by simp⟩
theorem inIds.fam {hp:List AObj} {ids:List Nat} {id f:Nat} {a mt:Bool} {pos:List Nat} {mf:Bool} {k:IntKind} {rows:List (List Int)} (h:id∈ids) (hg:hget hp id=.cells a mt (.r f pos)) (hf:hget hp f=.fam mf k rows):inIds hp ids f:=List.mem_flatMap.2 ⟨id,h,by simp [famOf,hg,hf]⟩
def Fcall (β:Map) (F:Nat→Prop) (W:World) (hp:List AObj) (ids:List Nat):Nat→Prop :=
 fun b=>F b∨(∃ id r,inIds hp ids id∧(frozenOf (hget hp id)).isSome=true∧β id r=some b)
theorem Fcall.le (hp:List AObj) (ids:List Nat):Le noMap F W noMap (Fcall β F W hp ids) W :=
 ⟨fun _ _ _ e=>(by cases e),fun b h=>.inl h,fun _ _=>rfl,Nat.le_refl _,fun _ _ x=>x,fun _ r x=>⟨r,x⟩,fun _ C _ x=>⟨C,x,rfl⟩⟩
theorem inIds.mono {hp:List AObj} {ids ids':List Nat} (h:∀ i∈ids,i∈ids') {id:Nat} (hi:inIds hp ids id):inIds hp ids' id:=by
 obtain ⟨g,x,y⟩:=List.mem_flatMap.1 hi
 exact List.mem_flatMap.2 ⟨g,h g x,y⟩
theorem Fcall.mono {hp:List AObj} {ids ids':List Nat} (h:∀ i∈ids,i∈ids'):Le noMap (Fcall β F W hp ids) W noMap (Fcall β F W hp ids') W :=
 ⟨fun _ _ _ e=>(by cases e),fun b hb=>hb.imp id fun ⟨i,r,x,y⟩=>⟨i,r,x.mono h,y⟩,fun _ _=>rfl,Nat.le_refl _,fun _ _ x=>x,fun _ r x=>⟨r,x⟩,fun _ C _ x=>⟨C,x,rfl⟩⟩
theorem isData_get {c:Cells} (hc:c.isR=false) {j:Nat} (hj:j<c.len) (ho:okC [] c=true):isData (c.get j)=true:=by
 cases c with
 | g l =>
  have hq:j<l.length:=hj
  have e:(Cells.g l).get j=l[j]:=by simp [Cells.get,List.getD_eq_getElem?_getD,hq]
  rw [e]
  exact List.all_eq_true.1 ho _ (List.getElem_mem hq)
 | r f pos=>cases hc
 | _=>rfl
theorem okC_plain {hp:List AObj} {c:Cells} (hc:c.isR=false):okC hp c=okC [] c:=by cases c <;> first | rfl | cases hc
theorem dataC_plain {hp:List AObj} {c:Cells} (hc:c.isR=false):dataC hp c=c:=by cases c <;> first | rfl | cases hc
theorem dataC_rel {hp:List AObj} (hI:HInv E β F hp W) {id r b:Nat} (hb:β id r=some b) {c:Cells} (hr:rowAt hp id r=some c) (hro:rowOk hp id r=true) (off m:Nat) (hok:okC hp ((c.drop off).take m)=true) {ids:List Nat} (hid:id∈ids) :
  ∃ u:Nat→Value,Fcall β F W hp ids b∧(∀ j,j<(dataC hp ((c.drop off).take m)).len→W.cell? ⟨b,off+j,none⟩=some (u j))∧∀ j,j<(dataC hp ((c.drop off).take m)).len→Rel noMap (Fcall β F W hp ids) W ((dataC hp ((c.drop off).take m)).get j) (u j):=by
 obtain ⟨Cs,t,hB⟩:=hI.behind hb hr hro
 have hfo:(frozenOf (hget hp id)).isSome=true:=by
  unfold rowAt at hr
  split at hr
  ·rename_i hg;rw [hg];rfl
  ·rename_i hg;rw [hg];rfl
  ·cases hr
 have hFb:Fcall β F W hp ids b:=.inr ⟨id,r,.self hid,hfo,hb⟩
 have hlt:∀ j,j<((c.drop off).take m).len→j<m∧off+j<c.len:=by
  intro j hj
  rw [Cells.len_take,Cells.len_drop] at hj
  omega
 by_cases hc:c.isR=false
 ·have hc':((c.drop off).take m).isR=false:=by rw [Cells.isR_take,Cells.isR_drop];exact hc
  rw [dataC_plain hc']
  refine ⟨fun j=>Cs.getD (off+j) Go.undef,hFb,fun j hj=>hB.cell (hlt j hj).2,fun j hj=>?_⟩
  have hd:=isData_get hc' hj (by rw [←okC_plain hc' (hp:=hp)];exact hok)
  rw [Cells.get_take _ (hlt j hj).1,Cells.get_drop] at hd ⊢
  have:=hB.rel _ (hlt j hj).2 (by rw [okAV_plain hp hc];exact decide_eq_true (hlt j hj).2)
  rw [getAV_plain hp hc] at this
  exact (this.data hd).mono (Fcall.le hp ids)
 ·cases c with
  | r f pos =>
   have hg:∃ a mt,hget hp id=.cells a mt (.r f pos):=by
    unfold rowAt at hr
    split at hr
    ·rename_i a mt c hg
     split at hr
     ·cases hr;exact ⟨a,mt,hg⟩
     ·cases hr
    ·cases hr
    ·cases hr
   obtain ⟨a,mt,hg⟩:=hg
   simp only [Cells.take,Cells.drop,okC] at hok ⊢
   split at hok
   ·rename_i mf k rows hgf
    have hdc:dataC hp (.r f ((pos.drop off).take m))=.m k (((pos.drop off).take m).map fun x=>rows.getD x []):=by simp only [dataC,hgf]
    rw [hdc]
    have hin:inIds hp ids f:=.fam hid hg hgf
    have hall:∀ j,j<((pos.drop off).take m).length→∃ x,((pos.drop off).take m)[j]?=some x∧x<rows.length∧pos.getD (off+j) 0=x:=by
     intro j hj
     have hx:((pos.drop off).take m)[j]?=some ((pos.drop off).take m)[j]:=List.getElem?_eq_getElem hj
     have hm:j<m:=by simp at hj;omega
     refine ⟨_,hx,?_,?_⟩
     ·exact of_decide_eq_true (List.all_eq_true.1 hok _ (List.getElem_mem hj))
     ·have:pos[off+j]?=some ((pos.drop off).take m)[j]:=by
       rw [←hx,List.getElem?_take,if_pos hm,List.getElem?_drop]
      rw [List.getD_eq_getElem?_getD,this]
      rfl
    refine ⟨fun j=>Cs.getD (off+j) Go.undef,hFb,fun j hj=>?_,fun j hj=>?_⟩
    ·have hj:j<((pos.drop off).take m).length:=by simpa [Cells.len] using hj
     exact hB.cell (by simp [Cells.len] at hj ⊢;omega)
    ·have hj:j<((pos.drop off).take m).length:=by simpa [Cells.len] using hj
     obtain ⟨x,hx,hxl,hpx⟩:=hall j hj
     have hjl:off+j<pos.length:=by simp at hj;omega
     have hrel:=hB.rel (off+j) hjl (by simp only [okAV,hgf,hpx,Bool.and_eq_true,decide_eq_true_eq];exact ⟨hjl,hxl⟩)
     simp only [getAV,hgf,hpx] at hrel
     have hget:(Cells.m k (((pos.drop off).take m).map fun x=>rows.getD x [])).get j=row k (rows.getD x []):=by
      simp only [Cells.get,List.getD_eq_getElem?_getD,List.getElem?_map,hx]
      rfl
     rw [hget]
     show Rel noMap _ W _ (Cs.getD (off+j) Go.undef)
     generalize Cs.getD (off+j) Go.undef=V at hrel
     cases hrel with
     | ref hn hm2 hbx hz hf =>
      rename_i cap bx zx tx
      have ho:=hI.obj _ _ _ hbx
      unfold ORel at ho
      rw [hgf] at ho
      obtain ⟨_,_,_,Cx,tx',h1,h2,h3⟩:=ho
      have hFx:Fcall β F W hp ids bx:=.inr ⟨f,x,hin,by rw [hgf];rfl,hbx⟩
      refine .sl (fun i=>Cx.getD i Go.undef) hn hFx (fun i hi=>?_) (fun i hi=>?_)
      ·have hi:i<(rows.getD x []).length:=hi
       rw [Nat.zero_add,cell_of_row W bx i Cx tx' (0,0) h1]
       have:i<Cx.size:=by omega
       simp [this]
      ·have hi:i<(rows.getD x []).length:=hi
       rw [h3 i hi]
       exact .int _ _
   ·cases hok
  | _=>exact absurd rfl hc
theorem deep1_sound {hp:List AObj} (hI:HInv E β F hp W) {v v':AV} {V:Value} (hv:Rel β F W v V) (h:deep1 hp v=some v') (hok:ok1 hp v=true) {ids:List Nat} (hids:∀ i∈refsOf1 v,i∈ids):Rel noMap (Fcall β F W hp ids) W v' V:=by
 unfold deep1 at h
 split at h
 ·rename_i id r off n m
  split at h
  ·rename_i c hr
   cases h
   simp only [ok1,hr,Bool.and_eq_true] at hok
   cases hv with
   | ref hn hm hb hz hf =>
   obtain ⟨u,h1,h2,h3⟩:=dataC_rel hI hb hr hok.1 off (n*m) hok.2 (hids id (by simp [refsOf1]))
   exact .sl u hn h1 h2 h3
  ·cases h
 ·split at h
  ·rename_i hd
   cases h
   exact (hv.data hd).mono (Fcall.le hp ids)
  ·cases h
theorem deepL_sound {hp:List AObj} (hI:HInv E β F hp W):∀ (vs:List AV) {vs':List AV} {u:Nat→Value},(∀ j,j<vs.length→Rel β F W (vs.getD j .undef) (u j))→deepL hp vs=some vs'→vs.all (ok1 hp)=true→∀ {ids:List Nat},(∀ i∈vs.flatMap refsOf1,i∈ids) →
  vs'.length=vs.length∧∀ j,j<vs'.length→Rel noMap (Fcall β F W hp ids) W (vs'.getD j .undef) (u j)
 | [],vs',u,_,h,_,ids,_=>by cases h;exact ⟨rfl,fun j hj=>absurd hj (by simp)⟩
 | v::vs,vs',u,hr,h,hok,ids,hids=>by
  unfold deepL at h
  split at h
  ·rename_i v1 vs1 h1 h2
   cases h
   simp only [List.all_cons,Bool.and_eq_true] at hok
   have a1:=deep1_sound hI (hr 0 (by simp)) h1 hok.1 (ids:=ids) (fun i hi=>hids i (by simp only [List.flatMap_cons,List.mem_append];exact .inl hi))
   obtain ⟨l2,r2⟩:=deepL_sound hI vs (u:=fun j=>u (j+1)) (fun j hj=>by simpa using hr (j+1) (by simp;omega)) h2 hok.2 (ids:=ids) (fun i hi=>hids i (by simp only [List.flatMap_cons,List.mem_append];exact .inr hi))
   refine ⟨by simp [l2],fun j hj=>?_⟩
   cases j with
   | zero=>exact a1
   | succ j=>simpa using r2 j (by simp at hj;omega)
  ·cases h
theorem deep_sound {hp:List AObj} (hI:HInv E β F hp W) {v v':AV} {V:Value} (hv:Rel β F W v V) (h:deep hp v=some v') (hok:okD hp v=true) {ids:List Nat} (hids:∀ i∈refsOf v,i∈ids):Rel noMap (Fcall β F W hp ids) W v' V:=by
 unfold deep at h
 split at h
 ·rename_i cs
  obtain ⟨cs',h1,rfl⟩:=Option.map_eq_some_iff.1 h
  cases hv with
  | agg hl hr =>
  obtain ⟨l2,r2⟩:=deepL_sound hI cs hr h1 hok hids
  exact .agg (l2.trans hl) r2
 ·rename_i hna
  have e1:okD hp v=ok1 hp v:=by cases v <;> first | rfl | exact absurd rfl (hna _)
  have e2:refsOf v=refsOf1 v:=by cases v <;> first | rfl | exact absurd rfl (hna _)
  rw [e1] at hok
  rw [e2] at hids
  exact deep1_sound hI hv h hok hids
theorem deepArgs_sound {hp:List AObj} (hI:HInv E β F hp W):∀ (vs:List AV) {vs':List AV} {u:Nat→Value},(∀ j,j<vs.length→Rel β F W (vs.getD j .undef) (u j))→deepArgs hp vs=some vs'→vs.all (okD hp)=true→∀ {ids:List Nat},(∀ i∈vs.flatMap refsOf,i∈ids) →
  vs'.length=vs.length∧∀ j,j<vs'.length→Rel noMap (Fcall β F W hp ids) W (vs'.getD j .undef) (u j)
 | [],vs',u,_,h,_,ids,_=>by cases h;exact ⟨rfl,fun j hj=>absurd hj (by simp)⟩
 | v::vs,vs',u,hr,h,hok,ids,hids=>by
  unfold deepArgs at h
  split at h
  ·rename_i v1 vs1 h1 h2
   cases h
   simp only [List.all_cons,Bool.and_eq_true] at hok
   have a1:=deep_sound hI (hr 0 (by simp)) h1 hok.1 (ids:=ids) (fun i hi=>hids i (by simp only [List.flatMap_cons,List.mem_append];exact .inl hi))
   obtain ⟨l2,r2⟩:=deepArgs_sound hI vs (u:=fun j=>u (j+1)) (fun j hj=>by simpa using hr (j+1) (by simp;omega)) h2 hok.2 (ids:=ids) (fun i hi=>hids i (by simp only [List.flatMap_cons,List.mem_append];exact .inr hi))
   refine ⟨by simp [l2],fun j hj=>?_⟩
   cases j with
   | zero=>exact a1
   | succ j=>simpa using r2 j (by simp at hj;omega)
  ·cases h
theorem freezeAll_sound:∀ (l:List Nat) {F:Nat→Prop} {hp:List AObj},HInv E β F hp W→∃ F1,HInv E β F1 (freezeAll hp l) W∧Le β F W β F1 W∧(freezeAll hp l).length=hp.length ∧
  ∀ b,F1 b↔F b∨∃ id r,id∈l∧(frozenOf (hget hp id)).isSome=true∧β id r=some b
 | [],F,hp,h=>⟨F,h,Le.refl _ _ _,rfl,fun b=>⟨.inl,fun x=>by rcases x with x | ⟨_,_,x,_⟩;exact x;cases x⟩⟩
 | id::ids,F,hp,h=>by
  unfold freezeAll
  cases ho:frozenOf (hget hp id) with
  | none =>
   obtain ⟨F1,a1,a2,a3,a4⟩:=freezeAll_sound ids h
   refine ⟨F1,a1,a2,a3,fun b=>(a4 b).trans ⟨fun x=>x.imp_right fun ⟨i,r,x,y⟩=>⟨i,r,by simp [x],y⟩,fun x=>x.imp_right fun ⟨i,r,x,y,z⟩=>⟨i,r,?_,y,z⟩⟩⟩
   rcases List.mem_cons.1 x with q | q
   ·subst q;rw [ho] at y;cases y
   ·exact q
  | some o' =>
   have hlt:id<hp.length:=hget_lt (by cases hq:hget hp id <;> simp_all [frozenOf,isDead])
   obtain ⟨F1,a1,a2,a3,a4⟩:=freezeAll_sound ids (h.freeze ho)
   have hfo:∀ i,(frozenOf (hget (lset hp id o') i)).isSome=(frozenOf (hget hp i)).isSome:=by
    intro i
    by_cases e:i=id
    ·subst e
     rw [hget_set_same _ hlt,ho]
     cases hq:hget hp i <;> rw [hq] at ho <;> cases ho <;> rfl
    ·rw [hget_set_ne _ e]
   refine ⟨F1,a1,(le_addF β F W id).trans a2,a3.trans (lset_length _ _ _),fun b=>(a4 b).trans ?_⟩
   constructor
   ·rintro ((x | ⟨r,x⟩) | ⟨i,r,x,y,z⟩)
    ·exact .inl x
    ·exact .inr ⟨id,r,by simp,by rw [ho];rfl,x⟩
    ·exact .inr ⟨i,r,by simp [x],by rw [←hfo];exact y,z⟩
   ·rintro (x | ⟨i,r,x,y,z⟩)
    ·exact .inl (.inl x)
    ·rcases List.mem_cons.1 x with q | q
     ·subst q;exact .inl (.inr ⟨r,z⟩)
     ·exact .inr ⟨i,r,q,by rw [hfo];exact y,z⟩
def plus (β:Map) (k:Nat) (β':Map):Map:=fun i r=>if i<k then β i r else β' (i-k) r
def isRef:AV→Bool
 | .ref _ _ _ _ _=>true
 | _=>false
def pkd1 (v:AV):Bool:=isData v || isRef v
def pkd2:AV→Bool
 | .agg cs=>cs.all pkd1
 | v=>pkd1 v
def pkd:AV→Bool
 | .tup vs=>vs.all pkd2
 | v=>pkd2 v
def rowsOk (rows:List Cells):Prop:=∀ c∈rows,c.isR=false∧okC [] c=true
def AnsOk (x:Ans):Prop:=rowsOk x.rows∧pkd x.v=true
theorem free_rel {F2:Nat→Prop} {v:AV} {V:Value} (hf:freeOf v=true) (h:Rel β F W v V):Rel β F2 W v V:=by
 cases h with
 | undef _=>exact .undef _
 | none_=>exact .none_
 | bool b=>exact .bool b
 | int k n=>exact .int k n
 | str s=>exact .str s
 | nilS=>exact .nilS
 | ref hn hm hb hz hfit=>exact .ref hn hm hb hz hfit
 | nilP=>exact .nilP
 | nilF=>exact .nilF
 | _=>cases hf
theorem getD_map_dead (rows:List Cells) (i:Nat) (h:i<rows.length):hget (rows.map (.cells true true)) i=.cells true true (rows[i]):=by
 unfold hget
 rw [lget_eq]
 simp [List.getD_eq_getElem?_getD,h]
theorem HInv.merge {Fa F' Fn:Nat→Prop} {β':Map} {hp:List AObj} {W':World} {rows:List Cells} (hI:HInv E β F hp W) (hC:HInv ⟨(·<W.heap.size),W,Fa⟩ β' F' (rows.map (.cells true true)) W') (hrows:rowsOk rows)
  (h1:∀ b,F b→Fn b) (h2:∀ b,Fn b→F b∨F' b) (h3:∀ b,Fn b→b<W.heap.size→F b)
  (h4:∀ c∈rows,∀ j,j<c.len→∀ u,Rel noMap F' W' (c.get j) u→Rel noMap Fn W' (c.get j) u) :
  HInv E (plus β hp.length β') Fn (hp++rows.map (.cells true true)) W'∧Le β F W (plus β hp.length β') Fn W':=by
 have hsz:W.heap.size≤W'.heap.size:=hC.below.size
 have hblk:∀ k,k<W.heap.size→W'.heap[k]?=W.heap[k]?:=hC.below.block
 have hle:Le β F W (plus β hp.length β') Fn W':=⟨fun i r b e=>by
  unfold plus
  rw [if_pos (hI.idLt e)]
  exact e,h1,fun b hb=>hblk b (hI.flt b hb),hsz,fun k ds e=>(hblk k (Array.getElem?_eq_some_iff.1 e).1).trans e,
  fun k r e=>⟨r,(hblk k (Array.getElem?_eq_some_iff.1 e).1).trans e⟩,fun k C t e=>⟨C,(hblk k (Array.getElem?_eq_some_iff.1 e).1).trans e,rfl⟩⟩
 have hold:∀ i,i<hp.length→hget (hp++rows.map (.cells true true)) i=hget hp i:=fun i hi=>hget_append_lt _ hi
 have hnew:∀ i,hp.length≤i→hget (hp++rows.map (.cells true true)) i=hget (rows.map (AObj.cells true true)) (i-hp.length):=by
  intro i hi
  unfold hget
  rw [lget_eq,lget_eq]
  simp only [List.getD_eq_getElem?_getD]
  rw [List.getElem?_append_right hi]
 have hlt':∀ {i r b},β' i r=some b→i<rows.length:=fun {i r b} e=>by have:=hC.idLt e;simpa using this
 have hge:∀ {i r b},β' i r=some b→W.heap.size≤b:=fun {i r b} e=>by have:=(hC.lt _ _ _ e).1;exact Nat.le_of_not_lt this
 refine ⟨⟨hI.base,?_,?_,?_,?_,?_,?_,?_⟩,hle⟩
 ·intro b hb hn
  exact hI.fin b (h3 b hb (Nat.lt_of_lt_of_le (hI.base b hn) hI.below.size)) hn
 ·exact ⟨hC.below.os.trans hI.below.os,hC.below.tape.trans hI.below.tape,hC.below.output.trans hI.below.output,Nat.le_trans hI.below.size hsz,fun k hk=>(hblk k (Nat.lt_of_lt_of_le (hI.base k hk) hI.below.size)).trans (hI.below.block k hk)⟩
 ·intro i r b e
  unfold plus at e
  split at e
  ·have:=hI.lt _ _ _ e;exact ⟨this.1,by omega⟩
  ·refine ⟨fun hn=>?_,(hC.lt _ _ _ e).2⟩
   have:=hge e
   have:=Nat.lt_of_lt_of_le (hI.base b hn) hI.below.size
   omega
 ·intro b hb
  rcases h2 b hb with x | x
  ·exact hle.fcell hI.fcell b x
  ·exact hC.fcell b x
 ·intro i r b e
  unfold plus at e
  split at e
  ·rename_i hi
   have hlb:=(hI.lt _ _ _ e).2
   exact (hI.obj _ _ _ e).keep hle (hblk b hlb) (hold i hi) (FamUp.of_same fun f hf=>hold f (hget_lt (by cases hq:hget hp f <;> simp_all [isFam,isDead]))) (by simp) (fun hn _ hx=>hn (h3 b hx hlb))
  ·rename_i hi
   have hi':=hlt' e
   have ho:=hC.obj _ _ _ e
   unfold ORel at ho ⊢
   rw [hnew i (by omega)]
   rw [getD_map_dead rows _ hi'] at ho ⊢
   obtain ⟨o1,o2,o3,C,t,o4,o5,o6,o7⟩:=ho
   have hc:=hrows _ (List.getElem_mem hi')
   refine ⟨o1,fun _ hx=>?_,by simp,C,t,o4,o5,?_,fun j hj _=>?_⟩
   ·rcases h2 b hx with x | x
    ·have:=hI.flt b x;have:=hge e;omega
    ·exact o2 rfl x
   ·have:=Cells.isR_ne hc.1
    cases hq:rows[i-hp.length] <;> first | trivial | exact absurd hq (this _ _)
   ·have hrel:=o7 j hj (by rw [okAV_plain _ hc.1];exact decide_eq_true hj)
    rw [getAV_plain _ hc.1] at hrel ⊢
    exact (h4 _ (List.getElem_mem hi') j hj _ (hrel.data (isData_get hc.1 hj hc.2))).up
 ·intro i r i' r' b e e' d d'
  unfold plus at e e'
  split at e <;> split at e'
  ·rename_i x y
   rw [hold i x] at d
   rw [hold i' y] at d'
   exact hI.inj _ _ _ _ _ e e' d d'
  ·have:=(hI.lt _ _ _ e).2;have:=hge e';omega
  ·have:=(hI.lt _ _ _ e').2;have:=hge e;omega
  ·rename_i x y
   rw [hnew i (by omega)] at d
   rw [hnew i' (by omega)] at d'
   have:=hC.inj _ _ _ _ _ e e' d d'
   exact ⟨by omega,this.2⟩
 ·intro i r hi
  unfold plus
  simp only [List.length_append,List.length_map] at hi
  rw [if_neg (by omega)]
  exact hC.fresh _ _ (by simp;omega)
theorem shift1_rel {F':Nat→Prop} {β':Map} {k:Nat} {v:AV} {V:Value} (hp:pkd1 v=true) (h:Rel β' F' W v V) (hf:∀ u,isData v=true→Rel noMap F' W v u→Rel noMap F W v u):Rel (plus β k β') F W (shift1 k v) V:=by
 cases hd:isData v with
 | true =>
  have e:shift1 k v=v:=by cases v <;> first | rfl | cases hd
  rw [e]
  exact (hf _ hd (h.data hd)).up
 | false =>
  cases v with
  | ref id r off n m =>
   cases h with
   | ref hn hm hb hz hfit=>exact .ref hn hm (by unfold plus;rw [if_neg (by omega)];simpa using hb) hz hfit
  | _=>simp [pkd1,hd,isRef] at hp
theorem list_rel_map {β1 β2:Map} {F1 F2:Nat→Prop} {cs:List AV} {vs:Array Value} {g:AV→AV} (h:∀ j,j<cs.length→Rel β1 F1 W (cs.getD j .undef) (vs.getD j Go.undef)) (hg:∀ c∈cs,∀ V,Rel β1 F1 W c V→Rel β2 F2 W (g c) V) :
  ∀ j,j<(cs.map g).length→Rel β2 F2 W ((cs.map g).getD j .undef) (vs.getD j Go.undef):=by
 intro j hj
 have hj':j<cs.length:=by simpa using hj
 have e1:(cs.map g).getD j .undef=g cs[j]:=by simp [List.getD_eq_getElem?_getD,hj']
 have e2:cs.getD j .undef=cs[j]:=by simp [List.getD_eq_getElem?_getD,hj']
 rw [e1]
 have:=h j hj'
 rw [e2] at this
 exact hg _ (List.getElem_mem hj') _ this
theorem shift2_rel {F':Nat→Prop} {β':Map} {k:Nat} {v:AV} {V:Value} (hp:pkd2 v=true) (h:Rel β' F' W v V) (hf:∀ w u,(v=w∨∃ cs,v=.agg cs∧w∈cs)→isData w=true→Rel noMap F' W w u→Rel noMap F W w u):Rel (plus β k β') F W (shift2 k v) V:=by
 by_cases ha:∃ cs,v=.agg cs
 ·obtain ⟨cs,rfl⟩:=ha
  cases h with
  | agg hl hr=>exact .agg (by simpa [shift2] using hl) (list_rel_map hr fun c hc V hV=>shift1_rel (List.all_eq_true.1 hp c hc) hV fun u=>hf c u (.inr ⟨cs,rfl,hc⟩))
 ·have e1:shift2 k v=shift1 k v:=by cases v <;> first | rfl | exact absurd ⟨_,rfl⟩ ha
  have e2:pkd2 v=pkd1 v:=by cases v <;> first | rfl | exact absurd ⟨_,rfl⟩ ha
  rw [e1]
  exact shift1_rel (by rw [←e2];exact hp) h fun u=>hf v u (.inl rfl)
def partOf (w v:AV):Prop:=v=w∨(∃ cs,v=.agg cs∧w∈cs)∨∃ vs,v=.tup vs∧∃ x∈vs,x=w∨∃ cs,x=.agg cs∧w∈cs
theorem shift_rel {F':Nat→Prop} {β':Map} {k:Nat} {v:AV} {V:Value} (hp:pkd v=true) (h:Rel β' F' W v V) (hf:∀ w u,partOf w v→isData w=true→Rel noMap F' W w u→Rel noMap F W w u):Rel (plus β k β') F W (shift k v) V:=by
 by_cases ha:∃ vs,v=.tup vs
 ·obtain ⟨vs,rfl⟩:=ha
  cases h with
  | tup hl hr=>exact .tup (by simpa [shift] using hl) (list_rel_map hr fun c hc V hV=>shift2_rel (List.all_eq_true.1 hp c hc) hV fun w u hw=>hf w u (.inr (.inr ⟨vs,rfl,c,hc,hw⟩)))
 ·have e1:shift k v=shift2 k v:=by cases v <;> first | rfl | exact absurd ⟨_,rfl⟩ ha
  have e2:pkd v=pkd2 v:=by cases v <;> first | rfl | exact absurd ⟨_,rfl⟩ ha
  rw [e1]
  exact shift2_rel (by rw [←e2];exact hp) h fun w u hw=>hf w u (hw.imp id .inl)
theorem free3_part {v w:AV} (h:free3 v=true) (hp:partOf w v) (hd:isData w=true):freeOf w=true:=by
 rcases hp with rfl | ⟨cs,rfl,hw⟩ | ⟨vs,rfl,x,hx,hw⟩
 ·cases v <;> first | rfl | exact h | cases hd
 ·exact List.all_eq_true.1 h w hw
 ·have hx':=List.all_eq_true.1 h x hx
  rcases hw with rfl | ⟨cs,rfl,hw⟩
  ·cases x <;> first | rfl | exact hx' | cases hd
  ·exact List.all_eq_true.1 hx' w hw
theorem freeC_get {c:Cells} (h:freeC c=true) {j:Nat} (hj:j<c.len):freeOf (c.get j)=true:=by
 cases c with
 | g l =>
  have hq:j<l.length:=hj
  have e:(Cells.g l).get j=l[j]:=by simp [Cells.get,List.getD_eq_getElem?_getD,hq]
  rw [e]
  exact List.all_eq_true.1 h _ (List.getElem_mem hq)
 | m k l=>cases h
 | r f pos=>cases h
 | _=>rfl
theorem takeIn_sound {F':Nat→Prop} {β':Map} {hp:List AObj} {W':World} {args:List AV} {x:Ans} {V:Value} (hI:HInv E β F hp W)
  (hC:HInv ⟨(·<W.heap.size),W,Fcall β F W hp (args.flatMap refsOf)⟩ β' F' (x.rows.map (.cells true true)) W') (hv:Rel β' F' W' x.v V) (hx:AnsOk x) :
  ∃ βn Fn,HInv E βn Fn (takeIn hp args x).2 W'∧Le β F W βn Fn W'∧Rel βn Fn W' (takeIn hp args x).1 V:=by
 unfold takeIn
 by_cases hfr:(free3 x.v&&x.rows.all freeC)=true
 ·simp only [hfr,if_true]
  simp only [Bool.and_eq_true] at hfr
  obtain ⟨g1,g2⟩:=hI.merge (Fn:=F) hC hx.1 (fun _ h=>h) (fun _ h=>.inl h) (fun _ h _=>h) (fun c hc j hj u hu=>free_rel (freeC_get (List.all_eq_true.1 hfr.2 c hc) hj) hu)
  exact ⟨_,_,g1,g2,shift_rel hx.2 hv fun w u hw hd hr=>free_rel (free3_part hfr.1 hw hd) hr⟩
 ·simp only [hfr,Bool.false_eq_true,if_false]
  obtain ⟨F1,a1,a2,a3,a4⟩:=freezeAll_sound (expand hp (args.flatMap refsOf)) hI
  have hup:∀ b,F' b→b<W.heap.size→F1 b:=by
   intro b hb hlt
   rcases hC.fin b hb hlt with q | ⟨i,r,q1,q2,q3⟩
   ·exact a2.fro _ q
   ·exact (a4 b).2 (.inr ⟨i,r,q1,q2,q3⟩)
  have hsub:∀ {w:AV} {u:Value},Rel noMap F' W' w u→Rel noMap (fun b=>F1 b∨F' b) W' w u:=fun hr =>
   hr.mono ⟨fun _ _ _ e=>(by cases e),fun b h=>.inr h,fun _ _=>rfl,Nat.le_refl _,fun _ _ x=>x,fun _ r x=>⟨r,x⟩,fun _ C _ x=>⟨C,x,rfl⟩⟩
  obtain ⟨g1,g2⟩:=HInv.merge (hp:=frzIds hp (args.flatMap refsOf)) (Fn:=fun b=>F1 b∨F' b) a1 hC hx.1 (fun _ h=>.inl h) (fun _ h=>h) (fun b h hlt=>by
   rcases h with q | q
   ·exact q
   ·exact hup b q hlt) (fun c hc j hj u hu=>hsub hu)
  refine ⟨_,_,g1,a2.trans g2,?_⟩
  have hlen:hp.length=(frzIds hp (args.flatMap refsOf)).length:=a3.symm
  rw [hlen]
  exact shift_rel hx.2 hv fun w u hw hd hr=>hsub hr
end
end Go.Proofs.Yticbdgmcofjkeaa.Ai
