import Derived.Test.YthjppoincojfkaaGreatDoorRTME
set_option linter.all false
namespace Go.Abs
open Go Go.RowKit
def Vu{α:Type}(b:Bool)(x:α):Option α:=bif b then some x else none
def Qt{α:Type}{b:Bool}{x y:α}(h:Vu b x=some y):b=true/\x=y:=by
 cases b
 ·cases h
 exact⟨rfl,ap h⟩
def eqS(a b:ByteArray):Bool:=a.data.toList==b.data.toList
def WR(op:BinOp)(k:IntKind)(a b:Int):Option AV:=
 match op with
 |.add=>some (.int k (k.wrap (a+b)))
 |.sub=>some (.int k (k.wrap (a-b)))
 |.mul=>some (.int k (k.wrap (a*b)))
 |.quo=>Vu (!(decide (b=0))) (.int k (k.wrap (a.tdiv b)))
 |.rem=>Vu (!(decide (b=0))) (.int k (a.tmod b))
 |.eql=>some (.bool (a==b))
 |.neq=>some (.bool (a !=b))
 |.lss=>some (.bool (decide (a<b)))
 |.leq=>some (.bool (decide (a<=b)))
 |.gtr=>some (.bool (decide (b<a)))
 |.geq=>some (.bool (decide (b<=a)))
 |.and=>some (.int k (k.wrap (BitVec.ofInt k.bits a&&& BitVec.ofInt k.bits b).toNat))
 |.or=>some (.int k (k.wrap (BitVec.ofInt k.bits a|||BitVec.ofInt k.bits b).toNat))
 |.xor=>some (.int k (k.wrap (BitVec.ofInt k.bits a ^^^ BitVec.ofInt k.bits b).toNat))
 |.andNot=>some (.int k (k.wrap (BitVec.ofInt k.bits a&&& ~~~ BitVec.ofInt k.bits b).toNat))
 |_=>none
def WS(op:BinOp)(a b:ByteArray):Option AV:=
 match op with
 |.add=>Vu (decide (a.size+b.size<=9223372036854775807)) (.str ⟨a.data++b.data⟩)
 |.eql=>some (.bool (eqS a b))
 |.neq=>some (.bool (!(eqS a b)))
 |_=>none
def aiP(op:BinOp)(x y:AV):Prop×AV:=match x,y with
 |.int k a,.int k' b=>(k=k'/\(binI op k a b).1,(binI op k a b).2)
 |.str a,.str b=>binS op a b
 |_,_=>(False,.junk)
def J6(op:BinOp)(x y:AV):Option AV:=match x,y with
 |.int k a,.int k' b=>bif decide (k=k')then WR op k a b else none
 |.str a,.str b=>WS op a b
 |_,_=>none
def Fy(op:BinOp)(x y:AV):Option AV:=
 match op with
 |.shl=>(match x,y with|.int k a,.int _ b=>Vu (decide (0<=b)) (.int k (k.wrap (a*2 ^ (min b.toNat k.bits))))|_,_=>none)
 |.shr=>(match x,y with|.int k a,.int _ b=>Vu (decide (0<=b)) (.int k (a.fdiv (2 ^ (min b.toNat k.bits))))|_,_=>none)
 |op=>J6 op x y
def alE{op:BinOp}{x y:AV}(dh:op≠.shl/\op≠.shr):binV op x y=aiP op x y:=by
 cases op<;>first|rfl|simp at dh
def aej{op:BinOp}{x y:AV}(dh:op≠.shl/\op≠.shr):Fy op x y=J6 op x y:=by
 cases op<;>first|rfl|simp at dh
def WT{op:BinOp}{k:IntKind}{a b:Int}{v:AV}(h:WR op k a b=some v):(binI op k a b).1/\(binI op k a b).2=v:=by
 cases op<;>simp only[WR,binI]at h |-<;>first
  |(cases h;exact⟨trivial,rfl⟩)
  |(obtain⟨h1,h2⟩:=Qt h;exact⟨Nm h1,h2⟩)
  |cases h
def WU(a b:ByteArray):eqS a b=(a.toList==b.toList):=by
 simp[eqS,ByteArray.toList_eq]
def QJ(a b:ByteArray):a++b=⟨a.data++b.data⟩:=by
 cases a;cases b;apply ByteArray.ext;simp
def WV{op:BinOp}{a b:ByteArray}{v:AV}(h:WS op a b=some v):(binS op a b).1/\(binS op a b).2=v:=by
 cases op<;>simp only[WS,binS]at h |-<;>first
  |(cases h;done)
  |(cases h;refine⟨trivial,?_⟩;rw[WU];done)
  |(obtain⟨h1,h2⟩:=Qt h;exact⟨Nm h1,by rw[QJ];exact h2⟩)
def WW{op:BinOp}{x y:AV}{v:AV}(h:Fy op x y=some v):(binV op x y).1/\(binV op x y).2=v:=by
 have uk:(op≠.shl/\op≠.shr)->(binV op x y).1/\(binV op x y).2=v:=fun dh=>by
  rw[alE dh];rw[aej dh]at h;unfold J6 at h;split at h
  ·rename_i k a k' b;by_cases hk:k=k'
   ·simp[hk]at h;have:=WT h;exact⟨⟨hk,by rw[hk];exact this.1⟩,by simp only[aiP,hk];exact this.2⟩
   simp[hk]at h
  ·exact WV h
  cases h
 cases op
 case shl=>
  simp only[Fy,binV]at h |-
  split at h
  ·obtain⟨h1,h2⟩:=Qt h;exact⟨Nm h1,h2⟩
  cases h
 case shr=>
  simp only[Fy,binV]at h |-
  split at h
  ·obtain⟨h1,h2⟩:=Qt h;exact⟨Nm h1,h2⟩
  cases h
 all_goals exact uk zd
def gM(cs:P2):List (Nat×Nat×AV)->PH
 |[]=>some cs
 |(off,size,a)::r=>bif bare a&&((cellsOf a).length==size)&&Nat.ble (off+size) cs.length then gM (setA cs off (cellsOf a)) r else none
def oM:∀{l:List (Nat×Nat×AV)}{cs ds:P2},gM cs l=some ds->(Qda cs l).1/\(Qda cs l).2=ds
 |[],_,_,h=>⟨trivial,by cases h;rfl⟩
 |(off,size,a)::r,cs,ds,h=>by
  simp only[gM]at h;cases hb:(bare a&&((cellsOf a).length==size)&&Nat.ble (off+size) cs.length)with
  |false=>simp[hb]at h
  |true=>
   simp[hb]at h;have ih:=oM h;simp only[zzac,beq_iff_eq]at hb;exact⟨⟨hb.1.1,hb.1.2,zzba hb.2,ih.1⟩,ih.2⟩
def WX(agg:Bool)(n:Nat)(cs:P2):Option AV:=Vu (((cs.take n).length==n)&&(agg||n==1)) (bif agg then .agg (cs.take n)else cs.getD 0 .junk)
def ux{agg:Bool}{n:Nat}{cs:P2}{v:AV}(h:WX agg n cs=some v):(Vk agg n cs).1/\(Vk agg n cs).2=v:=by
 obtain⟨h1,h2⟩:=Qt h;simp only[zzac,beq_iff_eq,zzfw]at h1;refine⟨⟨h1.1,fun h=>?_⟩,?_⟩
 ·rcases h1.2 with h2|h2
  ·rw[h]at h2;cases h2
  exact h2
 cases agg<;>exact h2
def WY(sz bytes:Nat)(rows aq:T5):Bool:=(rows++aq).all (fun row=>row.length==sz)&&Nat.ble ((3*(rows.length+aq.length)+4000)*bytes) 562949953421312
def CR{sz bytes:Nat}{rows aq:T5}(h:WY sz bytes rows aq=true):(∀row∈rows++aq,row.length=sz)/\(3*(rows.length+aq.length)+4000)*bytes<=562949953421312:=by
 simp only[WY,zzac,zzax,beq_iff_eq]at h;exact⟨h.1,zzba h.2⟩
def arQ:AV->AV->Bool
 |.bool a,.bool b=>a==b
 |.int _ a,.int _ b=>a==b
 |.str a,.str b=>eqS a b
 |_,_=>false
def Fz:P2->P2->Bool
 |a::as',b::bs=>arQ a b&&Fz as' bs
 |_,_=>true
def aek(a b:AV):arQ a b=eqF a b:=by
 cases a<;>cases b<;>first|rfl|exact WU _ _
def FA:∀(as' bs:P2),Fz as' bs=eqFs as' bs
 |[],_=>by cases ‹P2›<;>rfl
 |_::_,[]=>rfl
 |a::as',b::bs=>by simp only[Fz,eqFs,aek,FA as' bs]
def Ui(e:bE->AV)(m:AM):aF->Option AV
 |.mv x=>some (e x)
 |.pick c a b=>(match JC (e c),JC (e a),JC (e b)with
  |some (g0,c),some (g1,x),some (g2,y)=>Vu (g0&&(bif c then g1 else g2)) (.bool (bif c then x else y))
  |_,_,_=>none)
 |.build zs parts=>(match gM zs (parts.map fun p=>(p.1,p.2.1,e p.2.2))with|some cs=>some (.agg cs)|none=>none)
 |.bsl sz len parts=>(match gM (List.replicate (len*sz) .junk) (parts.map fun p=>(p.1*sz,sz,e p.2))with
  |some q=>Vu (q.all Qx&&!(q.any (Vi 6))) (.sl .full (aZ sz len (q.map (bB m 6))))
  |none=>none)
 |.load agg n x=>(match e x with
  |.ptr id o=>WX agg n ((m.boxes.getD id []).drop o)
  |.ep row o=>WX agg n (row.drop o)
  |_=>none)
 |.faddr off x=>(match e x with
  |.ptr id o=>some (.ptr id (o+off))
  |.ep row o=>some (.ep row (o+off))
  |_=>none)
 |.fld agg off n x=>(match e x with
  |.agg cs=>WX agg n (cs.drop off)
  |_=>none)
 |.iaddr sz x i=>(match e x,e i with
  |.sl _ rows,.int _ i=>Vu (decide (0<=i)&&decide (i<rows.length)&&((rows.getD i.toNat []).length==sz)) (.ep (rows.getD i.toNat []) 0)
  |.bs id off len dy,.int _ i=>Vu (decide (0<=i)&&decide (i<len)&&(dy==sz)) (.ptr id (off+i.toNat*sz))
  |_,_=>none)
 |.iaddrA len sz x i=>(match e x,e i with
  |.ptr id o,.int _ i=>Vu (decide (0<=i)&&decide (i<len)) (.ptr id (o+i.toNat*sz))
  |.ep row o,.int _ i=>Vu (decide (0<=i)&&decide (i<len)) (.ep row (o+i.toNat*sz))
  |_,_=>none)
 |.U3 x i=>(match e x,e i with
  |.str s,.int _ i=>Vu (decide (0<=i)&&decide (i<s.size)) (.int .u8 (s.data.toList.getD i.toNat 0).toNat)
  |_,_=>none)
 |.idxA agg n sz x i=>(match e x,e i with
  |.agg cs,.int _ i=>bif decide (0<=i)&&decide (i<n)then WX agg sz (cs.drop (i.toNat*sz))else none
  |_,_=>none)
 |.bin op x y=>Fy op (e x) (e y)
 |.binB op x y=>(match op,e x,e y with
  |.eql,.bool a,.bool b=>some (.bool (a==b))
  |.neq,.bool a,.bool b=>some (.bool (!(a==b)))
  |_,_,_=>none)
 |.un op x=>(match op,e x with
  |.not,.bool b=>some (.bool (!b))
  |.neg,.int k n=>some (.int k (k.wrap (0-n)))
  |.xor,.int k n=>some (.int k (k.wrap (BitVec.ofInt k.bits (if k.signed then -1 else k.max) ^^^ BitVec.ofInt k.bits n).toNat))
  |_,_=>none)
 |.conv k x=>(match e x with
  |.int _ n=>some (.int k (k.wrap n))
  |_=>none)
 |.len x=>(match e x with
  |.sl _ rows=>some (.int .i64 rows.length)
  |.bs _ _ len _=>some (.int .i64 len)
  |_=>none)
 |.lenS x=>(match e x with
  |.str s=>some (.int .i64 s.size)
  |_=>none)
 |.mn x y=>(match e x,e y with
  |.int k a,.int _ b=>some (.int k (if b<a then b else a))
  |_,_=>none)
 |.mx x y=>(match e x,e y with
  |.int k a,.int _ b=>some (.int k (if a<b then b else a))
  |_,_=>none)
 |.mm3 big x y z=>(match e x,e y,e z with
  |.int k a,.int _ b,.int _ c=>some (.int k (Px big (Px big a b) c))
  |_,_,_=>none)
 |.mkfn f first cap=>some (.fn f (first.map e) (cap.map e))
 |.ext x i=>(match e x with
  |.aS vs=>Vu (Nat.ble (i+1) vs.length) (vs.getD i .junk)
  |_=>none)
 |.app sz bytes s x=>(match e s,e x with
  |.sl rt rows,.sl _ aq=>Vu (Jj rt&&WY sz bytes rows aq) (.sl .ro (rows++aq))
  |_,_=>none)
 |.slS x lo hi=>(match e x,lo.map e,hi.map e with
  |.str s,some (.int _ l),some (.int _ h)=>Vu (decide (0<=l)&&decide (l<=h)&&decide (h<=s.size)) (.str (s.extract l.toNat h.toNat))
  |.str s,none,some (.int _ h)=>Vu (decide (0<=h)&&decide (h<=s.size)) (.str (s.extract 0 h.toNat))
  |.str s,some (.int _ l),none=>Vu (decide (0<=l)&&decide (l<=s.size)) (.str (s.extract l.toNat s.size))
  |_,_,_=>none)
 |.nilc x=>(match e x with
  |.ptr id o=>some (.ptr id o)
  |.ep row o=>some (.ep row o)
  |.fn f first cap=>some (.fn f first cap)
  |_=>none)
 |.nilS neg x=>(match e x with
  |.sl .nil _=>some (.bool (!neg))
  |.sl .nn _=>some (.bool neg)
  |.sl _ (_::_)=>some (.bool neg)
  |.bs _ _ _ _=>some (.bool neg)
  |_=>none)
 |.nilP neg x=>(match e x with
  |.ptr _ _=>some (.bool neg)
  |.ep _ _=>some (.bool neg)
  |.nilv true=>some (.bool (!neg))
  |_=>none)
 |.b2s x=>(match e x with
  |.sl _ rows=>(match Ju rows with
   |some l=>some (.str ⟨l.toArray⟩)
   |none=>none)
  |.bs id off len sz=>(match Ju (aZ 1 len ((m.boxes.getD id []).drop off))with
   |some l=>Vu ((sz==1)&&Nat.ble (off+len) (m.boxes.getD id []).length) (.str ⟨l.toArray⟩)
   |none=>none)
  |_=>none)
 |.eqA neg ks x y=>(match e x,e y with
  |.agg xs,.agg ys=>Vu (Qbf ks xs ys) (.bool (bif neg then !(Fz xs ys)else Fz xs ys))
  |_,_=>none)
 |.slL sz x lo hi=>(match e x with
  |.sl _ rows=>(match loOf (lo.map e),hiOf rows.length (hi.map e)with
   |some l,some h=>Vu (decide (0<=l)&&decide (l<=h)&&decide (h<=rows.length)&&rows.all (fun row=>row.length==sz)) (.sl .ro ((rows.drop l.toNat).take (h.toNat-l.toNat)))
   |_,_=>none)
  |.bs id off len dy=>(match loOf (lo.map e),hiOf len (hi.map e)with
   |some l,some h=>Vu (decide (0<=l)&&decide (l<=h)&&decide (h<=len)&&(dy==sz)) (bif decide (l<h)||decide (l=0)then .bs id (off+l.toNat*sz) (h.toNat-l.toNat) sz else .sl .nn [])
   |_,_=>none)
  |_=>none)
 |.slA n sz x lo hi=>(match e x with
  |.ptr id o=>(match loOf (lo.map e),hiOf n (hi.map e)with
   |some l,some h=>Vu (decide (0<=l)&&decide (l<=h)&&decide (h<=n)&&Nat.ble (o+n*sz) (m.boxes.getD id []).length&&Nat.ble (id+1) m.boxes.length) (bif decide (l<h)||decide (l=0)then .bs id (o+l.toNat*sz) (h.toNat-l.toNat) sz else .sl .nn [])
   |_,_=>none)
  |_=>none)
 |.look kn ok z x k=>(match e x,keyA kn (e k)with
  |.mp id,some n=>(match m.boxes.getD id []with
   |[.aJ sg kvs]=>Vu (sg==kn) (match Xh n kvs 0 with
    |some (_,a)=>(if ok then .aS [a,.bool true]else a)
    |none=>(if ok then .aS [z,.bool false]else z))
   |_=>none)
  |_,_=>none)
 |.entr x=>(match e x with
  |.it id=>(match m.boxes.getD id []with
   |[.mitr mid n seen]=>(match m.boxes.getD mid [],seen.getLast? with
    |[.aJ kn kvs],some i=>Vu ((kvs.length==n)&&Nat.ble (i+1) n) (.aS [keyAV kn (kvs.getD i ([],.junk)).1,(kvs.getD i ([],.junk)).2])
    |_,_=>none)
   |_=>none)
  |_=>none)
 |_=>none
def uy{P:Program}{gl:Nat->AV}{orc:UV}{dst:Option Nat}{e:bE->AV}{m:AM}{so:aF}{v:AV}(h:Ui e m so=some v):(rop P gl orc e m dst so).1/\(rop P gl orc e m dst so).2=v:=by
 cases so with
 |pick c a b=>
  simp only[Ui,rop]at h |-
  generalize JC (e c)=X0 at h |-
  generalize JC (e a)=X1 at h |-
  generalize JC (e b)=X2 at h |-
  split at h
  ·obtain⟨h1,h2⟩:=Qt h;rename_i g0 c g1 x g2 y;rw[zzac]at h1;refine⟨⟨h1.1,fun hc=>?_,fun hc=>?_⟩,h2⟩<;>simpa[hc]using h1.2
  cases h
 |build zs parts=>
  simp only[Ui,rop]at h |-
  split at h
  ·rename_i cs hf;cases h;have:=oM hf;exact⟨this.1,by rw[this.2]⟩
  cases h
 |bsl sz len parts=>
  simp only[Ui,rop]at h |-
  split at h
  ·rename_i cs hf;obtain⟨h1,h2⟩:=Qt h;have:=oM hf;simp only[zzac,zzcz]at h1;rw[this.2];exact⟨⟨this.1,h1.1,h1.2⟩,h2⟩
  cases h
 |idxA agg n sz x i=>
  simp only[Ui,rop]at h |-
  generalize e x=X0 at h |-
  generalize e i=X1 at h |-
  split at h
  ·rename_i cs k i;cases hb:(decide (0<=i)&&decide (i<(n:Int)))with
   |false=>simp[hb]at h
   |true=>
    simp only[hb,cond_true]at h;simp only[zzac,am]at hb;have:=ux h;exact⟨⟨hb,this.1⟩,this.2⟩
  cases h
 |bin op x y=>exact WW h
 |load agg n x=>
  simp only[Ui,rop]at h |-
  generalize e x=X0 at h |-
  split at h
  ·exact ux h
  ·exact ux h
  cases h
 |fld agg off n x=>
  simp only[Ui,rop]at h |-
  generalize e x=X0 at h |-
  split at h
  ·exact ux h
  cases h
 |binB op x y=>
  simp only[Ui,rop,binBool]at h |-
  generalize e x=X0 at h |-
  generalize e y=X1 at h |-
  split at h
  ·cases h;exact⟨trivial,rfl⟩
  ·cases h;exact⟨trivial,rfl⟩
  cases h
 |app sz bytes s x=>
  simp only[Ui,rop]at h |-
  generalize e s=X0 at h |-
  generalize e x=X1 at h |-
  split at h
  ·obtain⟨h1,h2⟩:=Qt h;simp only[zzac]at h1;exact⟨⟨h1.1,CR h1.2⟩,h2⟩
  cases h
 |b2s x=>
  simp only[Ui,rop]at h |-
  generalize e x=X0 at h |-
  split at h
  ·split at h
   ·rename_i l hl;cases h;simp[hl]
   cases h
  ·split at h
   ·rename_i l hl;obtain⟨h1,h2⟩:=Qt h;simp only[zzac,beq_iff_eq]at h1;simp only[hl];exact⟨⟨h1.1,zzba h1.2⟩,h2⟩
   cases h
  cases h
 |look kn ok z x k=>
  simp only[Ui,rop]at h |-
  generalize e x=X0 at h |-
  generalize keyA kn (e k)=X1 at h |-
  split at h
  ·split at h
   ·rename_i kvs hb;obtain⟨h1,h2⟩:=Qt h;simp only[hb];exact⟨Nm h1,h2⟩
   cases h
  cases h
 |entr x=>
  simp only[Ui,rop]at h |-
  generalize e x=X0 at h |-
  split at h
  ·split at h
   ·rename_i mid n seen hb;simp only[hb];generalize m.boxes.getD mid []=X1 at h |-
    generalize seen.getLast?=X2 at h |-
    split at h
    ·obtain⟨h1,h2⟩:=Qt h;simp only[zzac,beq_iff_eq]at h1;exact⟨⟨h1.1,zzba h1.2⟩,h2⟩
    cases h
   cases h
  cases h
 |eqA neg ks x y=>
  simp only[Ui,rop]at h |-
  generalize e x=X0 at h |-
  generalize e y=X1 at h |-
  split at h
  ·obtain⟨h1,h2⟩:=Qt h;refine⟨h1,?_⟩;rw[<- h2,FA];cases neg<;>rfl
  cases h
 |slL sz x lo hi=>
  simp only[Ui,rop]at h |-
  generalize e x=X0 at h |-
  generalize lo.map e=X1 at h |-
  generalize hi.map e=X2 at h |-
  split at h
  ·split at h
   ·rename_i l h' e1 e2;obtain⟨h1,h2⟩:=Qt h;simp only[zzac,am,zzax,beq_iff_eq]at h1;simp only[e1,e2];exact⟨⟨⟨h1.1.1.1,h1.1.1.2,h1.1.2⟩,h1.2⟩,h2⟩
   cases h
  ·split at h
   ·rename_i l h' e1 e2;obtain⟨h1,h2⟩:=Qt h;simp only[zzac,am,beq_iff_eq]at h1;simp only[e1,e2];refine⟨⟨⟨h1.1.1.1,h1.1.1.2,h1.1.2⟩,h1.2⟩,?_⟩;rw[<- h2];by_cases hc:l<h'\/l=0
    ·have hd:(decide (l<h')||decide (l=0))=true:=by simpa using hc
     rw[ac hc,hd];rfl
    have hd:(decide (l<h')||decide (l=0))=false:=by simpa using hc
    rw[ab hc,hd];rfl
   cases h
  cases h
 |slA n sz x lo hi=>
  simp only[Ui,rop]at h |-
  generalize e x=X0 at h |-
  generalize lo.map e=X1 at h |-
  generalize hi.map e=X2 at h |-
  split at h
  ·split at h
   ·rename_i l h' e1 e2;obtain⟨h1,h2⟩:=Qt h;simp only[zzac,am]at h1;simp only[e1,e2];refine⟨⟨⟨h1.1.1.1.1,h1.1.1.1.2,h1.1.1.2⟩,zzba h1.1.2,zzba h1.2⟩,?_⟩;rw[<- h2];by_cases hc:l<h'\/l=0
    ·have hd:(decide (l<h')||decide (l=0))=true:=by simpa using hc
     rw[ac hc,hd];rfl
    have hd:(decide (l<h')||decide (l=0))=false:=by simpa using hc
    rw[ab hc,hd];rfl
   cases h
  cases h
 |ext x i=>
  simp only[Ui,rop]at h |-
  generalize e x=X0 at h |-
  split at h
  ·obtain⟨h1,h2⟩:=Qt h;exact⟨zzba h1,h2⟩
  cases h
 |mv x=>cases h;exact⟨trivial,rfl⟩
 |mkfn f a b=>cases h;exact⟨trivial,rfl⟩
 |iaddr sz x i=>
  simp only[Ui,rop]at h |-
  generalize e x=X0 at h |-
  generalize e i=X1 at h |-
  split at h
  ·obtain⟨h1,h2⟩:=Qt h;simp only[zzac,am,beq_iff_eq]at h1;exact⟨h1,h2⟩
  ·obtain⟨h1,h2⟩:=Qt h;simp only[zzac,am,beq_iff_eq]at h1;exact⟨h1,h2⟩
  cases h
 |slS x lo hi=>
  simp only[Ui,rop]at h |-
  generalize e x=X0 at h |-
  generalize lo.map e=X1 at h |-
  generalize hi.map e=X2 at h |-
  split at h
  ·obtain⟨h1,h2⟩:=Qt h;simp only[zzac,am]at h1;exact⟨⟨h1.1.1,h1.1.2,h1.2⟩,h2⟩
  ·obtain⟨h1,h2⟩:=Qt h;simp only[zzac,am]at h1;exact⟨h1,h2⟩
  ·obtain⟨h1,h2⟩:=Qt h;simp only[zzac,am]at h1;exact⟨h1,h2⟩
  cases h
 |nilP neg x=>
  simp only[Ui,rop]at h |-
  generalize e x=X0 at h |-
  split at h
  ·cases h;exact⟨trivial,rfl⟩
  ·cases h;exact⟨trivial,rfl⟩
  ·cases h;exact⟨trivial,rfl⟩
  cases h
 |nilS neg x=>
  simp only[Ui,rop]at h |-
  generalize e x=X0 at h |-
  split at h
  ·cases h;exact⟨trivial,rfl⟩
  ·cases h;exact⟨trivial,rfl⟩
  ·rename_i rt _ _ h1 h2;cases h;cases rt<;>first|exact⟨trivial,rfl⟩|exact(h1 _ rfl).elim|exact(h1 rfl).elim|exact(h2 rfl).elim
  ·cases h;exact⟨trivial,rfl⟩
  cases h
 |faddr off x=>
  simp only[Ui,rop]at h |-
  generalize e x=X0 at h |-
  first
   |(cases h;done)
   |(split at h<;>first
    |(cases h;done)
    |(cases h;exact⟨trivial,rfl⟩)
    |(obtain⟨h1,h2⟩:=Qt h;simp only[zzac,am]at h1;exact⟨h1,h2⟩))
 |iaddrA len sz x i=>
  simp only[Ui,rop]at h |-
  generalize e x=X0 at h |-
  generalize e i=X1 at h |-
  first
   |(cases h;done)
   |(split at h<;>first
    |(cases h;done)
    |(cases h;exact⟨trivial,rfl⟩)
    |(obtain⟨h1,h2⟩:=Qt h;simp only[zzac,am]at h1;exact⟨h1,h2⟩))
 |U3 x i=>
  simp only[Ui,rop]at h |-
  generalize e x=X0 at h |-
  generalize e i=X1 at h |-
  first
   |(cases h;done)
   |(split at h<;>first
    |(cases h;done)
    |(cases h;exact⟨trivial,rfl⟩)
    |(obtain⟨h1,h2⟩:=Qt h;simp only[zzac,am]at h1;exact⟨h1,h2⟩))
 |un op x=>
  simp only[Ui,rop]at h |-
  generalize e x=X0 at h |-
  first
   |(cases h;done)
   |(split at h<;>first
    |(cases h;done)
    |(cases h;exact⟨trivial,rfl⟩)
    |(obtain⟨h1,h2⟩:=Qt h;simp only[zzac,am]at h1;exact⟨h1,h2⟩))
 |conv k x=>
  simp only[Ui,rop]at h |-
  generalize e x=X0 at h |-
  first
   |(cases h;done)
   |(split at h<;>first
    |(cases h;done)
    |(cases h;exact⟨trivial,rfl⟩)
    |(obtain⟨h1,h2⟩:=Qt h;simp only[zzac,am]at h1;exact⟨h1,h2⟩))
 |len x=>
  simp only[Ui,rop]at h |-
  generalize e x=X0 at h |-
  first
   |(cases h;done)
   |(split at h<;>first
    |(cases h;done)
    |(cases h;exact⟨trivial,rfl⟩)
    |(obtain⟨h1,h2⟩:=Qt h;simp only[zzac,am]at h1;exact⟨h1,h2⟩))
 |lenS x=>
  simp only[Ui,rop]at h |-
  generalize e x=X0 at h |-
  first
   |(cases h;done)
   |(split at h<;>first
    |(cases h;done)
    |(cases h;exact⟨trivial,rfl⟩)
    |(obtain⟨h1,h2⟩:=Qt h;simp only[zzac,am]at h1;exact⟨h1,h2⟩))
 |mn x y=>
  simp only[Ui,rop]at h |-
  generalize e x=X0 at h |-
  generalize e y=X1 at h |-
  first
   |(cases h;done)
   |(split at h<;>first
    |(cases h;done)
    |(cases h;exact⟨trivial,rfl⟩)
    |(obtain⟨h1,h2⟩:=Qt h;simp only[zzac,am]at h1;exact⟨h1,h2⟩))
 |mx x y=>
  simp only[Ui,rop]at h |-
  generalize e x=X0 at h |-
  generalize e y=X1 at h |-
  first
   |(cases h;done)
   |(split at h<;>first
    |(cases h;done)
    |(cases h;exact⟨trivial,rfl⟩)
    |(obtain⟨h1,h2⟩:=Qt h;simp only[zzac,am]at h1;exact⟨h1,h2⟩))
 |mm3 big x y z=>
  simp only[Ui,rop]at h |-
  generalize e x=X0 at h |-
  generalize e y=X1 at h |-
  generalize e z=X2 at h |-
  split at h
  ·cases h;exact⟨trivial,rfl⟩
  cases h
 |nilc x=>
  simp only[Ui,rop]at h |-
  generalize e x=X0 at h |-
  first
   |(cases h;done)
   |(split at h<;>first
    |(cases h;done)
    |(cases h;exact⟨trivial,rfl⟩)
    |(obtain⟨h1,h2⟩:=Qt h;simp only[zzac,am]at h1;exact⟨h1,h2⟩))
 |_=>cases h
def wE(m:AM)(sz:Nat):AV->PH
 |.sl _ rows=>Vu (rows.all (fun row=>row.length==sz)) rows.flatten
 |.bs id off len dy=>Vu ((dy==sz)&&Nat.ble (off+len*sz) (m.boxes.getD id []).length&&Nat.ble (id+1) m.boxes.length) (((m.boxes.getD id []).drop off).take (len*sz))
 |_=>none
def qO{m:AM}{sz:Nat}{y:AV}{l:P2}(h:wE m sz y=some l):(cellsS m sz y).1/\(cellsS m sz y).2=l:=by
 cases y<;>simp only[wE]at h<;>first|(cases h;done)|skip
 ·obtain⟨h1,h2⟩:=Qt h;exact⟨by simpa[cellsS]using h1,h2⟩
 obtain⟨h1,h2⟩:=Qt h;simp only[zzac,beq_iff_eq]at h1;exact⟨⟨h1.1.1,zzba h1.1.2,zzba h1.2⟩,h2⟩
def neB:P2->Bool
 |[]=>false
 |_=>true
def CS{l:P2}(h:neB l=true):l≠[]:=by rintro rfl;cases h
def mX(mu:Bool)(e:bE->AV)(m:AM):aF->Option (AV×AM)
 |.alloc zs=>Vu (zs.all Qx) (.ptr m.boxes.length 0,{m with boxes:=m.boxes++[zs]})
 |.box x=>Vu (bare (e x)&&(cellsOf (e x)).all Qx) (.ptr m.boxes.length 0,{m with boxes:=m.boxes++[cellsOf (e x)]})
 |.store n x v=>(match e x with
  |.ptr id o=>Vu (bare (e v)&&(cellsOf (e v)).all Qx&&((cellsOf (e v)).length==n)&&Nat.ble (o+n) (m.boxes.getD id []).length&&Nat.ble (id+1) m.boxes.length)
    (.junk,{m with boxes:=m.boxes.set id (setA (m.boxes.getD id []) o (cellsOf (e v)))})
  |_=>none)
 |.app sz bytes s x=>(match e s,e x with
  |.sl (.own id dy) rows,.sl _ aq=>Vu ((dy==sz)&&(match m.lens[id]? with|some n=>n==rows.length|none=>false)&&WY sz bytes rows aq) (.sl (.own id sz) (rows++aq),{m with lens:=m.lens.set id (rows.length+aq.length)})
  |.bs id off len dy,y=>(match wE m sz y with
   |some cs=>Vu ((dy==sz)&&(off==0)&&Nat.ble (id+1) m.boxes.length&&neB (m.boxes.getD id [])&&Nat.ble (len*sz) (m.boxes.getD id []).length&&Nat.ble ((3*(len+lenS y)+4000)*bytes) 562949953421312)
    (.bs m.boxes.length 0 (len+lenS y) sz,{m with boxes:=m.boxes.set id []++[(m.boxes.getD id []).take (len*sz)++cs]})
   |none=>none)
  |.sl rt rows,y=>(bif mu then(match wE m sz y with
    |some cs=>Vu (Jj rt&&!(Nat.beq (lenS y) 0)&&rows.all (fun row=>row.length==sz)&&Nat.ble ((3*(rows.length+lenS y)+4000)*bytes) 562949953421312)
     (.bs m.boxes.length 0 (rows.length+lenS y) sz,{m with boxes:=m.boxes++[rows.flatten++cs]})
    |none=>none)
   else(match y with
    |.sl _ aq=>Vu (Jj rt&&WY sz bytes rows aq) (.sl (.own m.lens.length sz) (rows++aq),{m with lens:=m.lens++[rows.length+aq.length]})
    |_=>none))
  |_,_=>none)
 |.bsl sz len parts=>(bif mu then(match gM (List.replicate (len*sz) .junk) (parts.map fun p=>(p.1*sz,sz,e p.2))with
   |some q=>Vu (q.all Qx) (.bs m.boxes.length 0 len sz,{m with boxes:=m.boxes++[q]})
   |none=>none)
  else(match Ui e m (.bsl sz len parts)with|some v=>some (v,m)|none=>none))
 |.mks sz bytes zs l c=>(match e l,e c with
  |.int _ l,.int _ c=>Vu (decide (0<=l)&&decide (l<=c)&&decide (bytes*c<=281474976710656)&&decide (c<=9223372036854775807)&&(zs.length==sz)&&zs.all Qx) (.bs m.boxes.length 0 l.toNat sz,{m with boxes:=m.boxes++[bF c.toNat zs]})
  |_,_=>none)
 |.cpy sz x y=>(match e x with
  |.bs id off len dy=>(match e y with
   |.str s=>Vu ((dy==1)&&(sz==1)&&Nat.ble (id+1) m.boxes.length&&Nat.ble (off+len) (m.boxes.getD id []).length&&neB (m.boxes.getD id [])) (.int .i64 (min s.size len:Nat),{m with boxes:=m.boxes.set id (setA (m.boxes.getD id []) off ((s.data.toList.take len).map fun b=>.int .u8 b.toNat))})
   |y=>(match wE m sz y with
    |some cs=>Vu ((dy==sz)&&Nat.ble (id+1) m.boxes.length&&Nat.ble (off+len*sz) (m.boxes.getD id []).length&&neB (m.boxes.getD id [])) (.int .i64 (min (lenS y) len:Nat),{m with boxes:=m.boxes.set id (setA (m.boxes.getD id []) off (cs.take (len*sz)))})
    |none=>none))
  |_=>none)
 |.clr zs x=>(match e x with
  |.bs id off len dy=>Vu ((dy==zs.length)&&zs.all Qx&&Nat.ble (id+1) m.boxes.length&&Nat.ble (off+len*zs.length) (m.boxes.getD id []).length&&neB (m.boxes.getD id [])) (.aS [],{m with boxes:=m.boxes.set id (setA (m.boxes.getD id []) off (bF len zs))})
  |.sl _ []=>some (.aS [],m)
  |_=>none)
 |.mkmap kn=>some (.mp m.boxes.length,{m with boxes:=m.boxes++[[.aJ kn []]]})
 |.mupd kn x k v=>(match e x,keyA kn (e k)with
  |.mp id,some n=>(match m.boxes.getD id []with
   |[.aJ sg kvs]=>Vu ((sg==kn)&&bare (e v)) (.junk,{m with boxes:=m.boxes.set id [.aJ kn (match Xh n kvs 0 with
    |some (i,_)=>kvs.set i (n,e v)
    |none=>kvs++[(n,e v)])]})
   |_=>none)
  |_,_=>none)
 |.ment kn z x k=>(match e x,keyA kn (e k)with
  |.mp id,some n=>(match m.boxes.getD id []with
   |[.aJ sg kvs]=>Vu (sg==kn) ((match Xh n kvs 0 with
    |some (i,c)=>.aS [c,.int .i64 i]
    |none=>.aS [z,.int .i64 kvs.length]),{m with boxes:=m.boxes.set id [.aJ kn (match Xh n kvs 0 with
    |some _=>kvs
    |none=>kvs++[(n,z)])]})
   |_=>none)
  |_,_=>none)
 |.esto x s v=>(match e x,e s with
  |.mp id,.int _ i=>(match m.boxes.getD id []with
   |[.aJ kn kvs]=>Vu (decide (0<=i)&&decide (i<kvs.length)&&bare (e v)) (.junk,{m with boxes:=m.boxes.set id [.aJ kn (kvs.set i.toNat ((kvs.getD i.toNat ([],.junk)).1,e v))]})
   |_=>none)
  |_,_=>none)
 |.rng x=>(match e x with
  |.mp id=>(match m.boxes.getD id []with
   |[.aJ _ kvs]=>some (.it m.boxes.length,{m with boxes:=m.boxes++[[.mitr id kvs.length []]]})
   |_=>none)
  |_=>none)
 |.mks0 sz bytes c=>(match e c with
  |.int _ c=>Vu (decide (0<=c)&&decide (bytes*c<=281474976710656)&&decide (c<=9223372036854775807))
    (
     if mu=true then(if c.toNat=0 then(.sl .full [],{m with boxes:=m.boxes++[[]]})else(.bs m.boxes.length 0 0 sz,{m with boxes:=m.boxes++[List.replicate (c.toNat*sz) .junk]}))
     else(.sl (.own m.lens.length sz) [],{m with lens:=m.lens++[0]}))
  |_=>none)
 |so=>(match Ui e m so with|some v=>some (v,m)|none=>none)
def NN{P:Program}{gl:Nat->AV}{orc:UV}{dst:Option Nat}{e:bE->AV}{m:AM}{so:aF}{p:AV×AM}{mu:Bool}(hmu:mutO orc dst=mu)(h:mX mu e m so=some p):(sop P gl orc e m dst so).1/\(sop P gl orc e m dst so).2=p:=by
 have uk:(match Ui e m so with|some v=>some (v,m)|none=>none)=some p->sop P gl orc e m dst so=((rop P gl orc e m dst so).1,(rop P gl orc e m dst so).2,m)->(sop P gl orc e m dst so).1/\(sop P gl orc e m dst so).2=p:=fun h1 h2=>by
  rw[h2];split at h1
  ·rename_i v hv;cases h1;have:=uy (P:=P) (gl:=gl) (orc:=orc) (dst:=dst) hv;exact⟨this.1,by simp only[this.2]⟩
  cases h1
 cases so with
 |alloc zs=>obtain⟨h1,h2⟩:=Qt h;exact⟨h1,h2⟩
 |box x=>obtain⟨h1,h2⟩:=Qt h;simp only[zzac]at h1;exact⟨h1,h2⟩
 |store n x v=>
  simp only[mX,sop]at h |-
  generalize e x=X0 at h |-
  split at h
  ·obtain⟨h1,h2⟩:=Qt h;simp only[zzac,beq_iff_eq]at h1;exact⟨⟨h1.1.1.1.1,h1.1.1.1.2,h1.1.1.2,zzba h1.1.2,zzba h1.2⟩,h2⟩
  cases h
 |app sz bytes s x=>
  simp only[mX,sop]at h |-
  generalize e s=X0 at h |-
  generalize e x=X1 at h |-
  split at h
  ·obtain⟨h1,h2⟩:=Qt h;simp only[zzac,beq_iff_eq]at h1;obtain⟨⟨h3,h4⟩,h5⟩:=h1;split at h4
   ·rename_i n hn;rw[eq_of_beq h4]at hn;exact⟨⟨h3,hn,CR h5⟩,h2⟩
   cases h4
  ·rename_i id off len dy y;split at h
   ·rename_i cs j4;obtain⟨h1,h2⟩:=Qt h;simp only[zzac,beq_iff_eq]at h1;obtain⟨k1,k2⟩:=qO j4;refine⟨⟨⟨⟨h1.1.1.1.1.1,h1.1.1.1.1.2,zzba h1.1.1.1.2,CS h1.1.1.2,zzba h1.1.2⟩,zzba h1.2⟩,k1⟩,?_⟩;simp only[k2];exact h2
   cases h
  ·rename_i y rt rows eX;cases mu with
   |true=>
    simp only[cond_true]at h;have aiQ:∀(q:Prop×AV×AM),(q.1/\q.2=p)->(q.1/\q.2=p):=fun _ h=>h;split at h
    ·rename_i cs j4;obtain⟨h1,h2⟩:=Qt h;simp only[zzac,zzcz,zzax,beq_iff_eq]at h1;obtain⟨k1,k2⟩:=qO j4;have aO:lenS X1≠0:=by rintro h0;rw[h0]at h1;simp at h1
     have FB:=h1.1.1.1;cases rt with
     |own id dy=>simp[Jj]at FB
     |_=>
      simp only[hmu,if_true,ab aO];exact⟨⟨⟨FB,aO,h1.1.2,zzba h1.2⟩,k1⟩,by rw[k2];exact h2⟩
    cases h
   |false=>
    simp only[cond_false]at h;split at h
    ·rename_i Su aq;obtain⟨h1,h2⟩:=Qt h;simp only[zzac]at h1;cases rt with
     |own id dy=>simp[Jj]at h1
     |_=>
      simp only[hmu,zzbi,if_false];exact⟨⟨h1.1,CR h1.2⟩,h2⟩
    cases h
  cases h
 |bsl sz len parts=>
  simp only[mX,sop]at h |-
  cases mu with
  |true=>
   simp only[cond_true]at h;rw[ac hmu];split at h
   ·rename_i q hf;obtain⟨h1,h2⟩:=Qt h;have:=oM hf;exact⟨⟨this.1,by rw[this.2];exact h1⟩,by rw[this.2];exact h2⟩
   cases h
  |false=>
   simp only[cond_false]at h;rw[ab (by rw[hmu];simp)];split at h
   ·rename_i v hv;cases h;have:=uy (P:=P) (gl:=gl) (orc:=orc) (dst:=dst) hv;exact⟨this.1,by rw[this.2]⟩
   cases h
 |mks sz bytes zs l c=>
  simp only[mX,sop]at h |-
  generalize e l=X0 at h |-
  generalize e c=X1 at h |-
  split at h
  ·obtain⟨h1,h2⟩:=Qt h;simp only[zzac,am,beq_iff_eq]at h1;exact⟨⟨⟨h1.1.1.1.1.1,h1.1.1.1.1.2,h1.1.1.1.2,h1.1.1.2⟩,h1.1.2,h1.2⟩,h2⟩
  cases h
 |cpy sz x y=>
  simp only[mX,sop]at h |-
  generalize e x=X0 at h |-
  generalize e y=X1 at h |-
  split at h
  ·cases X1 with
   |str s=>
    obtain⟨h1,h2⟩:=Qt h;simp only[zzac,beq_iff_eq]at h1;exact⟨⟨⟨h1.1.1.1.1,h1.1.1.1.2⟩,zzba h1.1.1.2,zzba h1.1.2,CS h1.2⟩,h2⟩
   |_=>
    simp only at h |-
    split at h
    ·rename_i cs j4;obtain⟨h1,h2⟩:=Qt h;simp only[zzac,beq_iff_eq]at h1;obtain⟨k1,k2⟩:=qO j4;exact⟨⟨h1.1.1.1,k1,zzba h1.1.1.2,zzba h1.1.2,CS h1.2⟩,by rw[k2];exact h2⟩
    cases h
  cases h
 |clr zs x=>
  simp only[mX,sop]at h |-
  generalize e x=X0 at h |-
  split at h
  ·obtain⟨h1,h2⟩:=Qt h;simp only[zzac,beq_iff_eq]at h1;exact⟨⟨⟨h1.1.1.1.1,h1.1.1.1.2⟩,zzba h1.1.1.2,zzba h1.1.2,CS h1.2⟩,h2⟩
  ·cases h;exact⟨trivial,rfl⟩
  cases h
 |mkmap kn=>cases h;exact⟨trivial,rfl⟩
 |mupd kn x k v=>
  simp only[mX,sop]at h |-
  generalize e x=X0 at h |-
  generalize keyA kn (e k)=X1 at h |-
  split at h
  ·split at h
   ·rename_i kvs hb;obtain⟨h1,h2⟩:=Qt h;simp only[zzac,beq_iff_eq]at h1;simp only[hb];exact⟨h1,h2⟩
   cases h
  cases h
 |ment kn z x k=>
  simp only[mX,sop]at h |-
  generalize e x=X0 at h |-
  generalize keyA kn (e k)=X1 at h |-
  split at h
  ·split at h
   ·rename_i kvs hb;obtain⟨h1,h2⟩:=Qt h;simp only[hb];exact⟨Nm h1,h2⟩
   cases h
  cases h
 |esto x s v=>
  simp only[mX,sop]at h |-
  generalize e x=X0 at h |-
  generalize e s=X1 at h |-
  split at h
  ·split at h
   ·rename_i kvs hb;obtain⟨h1,h2⟩:=Qt h;simp only[zzac,am]at h1;simp only[hb];exact⟨h1,h2⟩
   cases h
  cases h
 |rng x=>
  simp only[mX,sop]at h |-
  generalize e x=X0 at h |-
  split at h
  ·split at h
   ·rename_i kvs hb;cases h;simp only[hb];first|exact⟨trivial,rfl⟩|exact⟨trivial,trivial⟩|simp
   cases h
  cases h
 |mks0 sz bytes c=>
  simp only[mX,sop]at h |-
  generalize e c=X0 at h |-
  split at h
  ·obtain⟨h1,h2⟩:=Qt h;simp only[zzac,am]at h1;simp only[hmu];cases mu with
   |true=>
    simp only[if_true]at h2 |-
    split at h2
    ·rename_i hc;rw[ac hc];exact⟨⟨h1.1.1,h1.1.2,h1.2⟩,h2⟩
    rename_i hc;rw[ab hc];exact⟨⟨h1.1.1,h1.1.2,h1.2⟩,h2⟩
   |false=>
    simp only[zzbi,if_false]at h2 |-
    exact⟨⟨h1.1.1,h1.1.2,h1.2⟩,h2⟩
  cases h
 |_=>exact uk h rfl
inductive YE where
 |nil
 |cons (l:Nat) (T:P2) (ps:Pa) (gZ body:SC) (rest:YE)
structure Rc where
 code:YE->SC->AS->Option (Exit×AS)
 fn:YE->FuncId->P2->AM->Option (AV×AM)
def ael(R:Rc)(l:Nat)(args:P2)(m:AM):YE->Option (Bool×AM)
 |.nil=>none
 |.cons l0 T ps gZ body rest=>bif Nat.beq l l0 then
   (match m.st l0,Nat.beq args.length ps.length with
   |.ready,true=>(match R.code rest gZ ⟨Qaj T ps args,m⟩with
    |some (.normal,s1)=>(match s1.m.st l0 with
     |.ready=>(match R.code rest body ⟨s1.T,s1.m.at_ l0 .busy⟩with
      |some (.normal,s2)=>some (true,s2.m.at_ l0 .ready)
      |some (.ret,s2)=>some (false,s2.m.at_ l0 (.done .ret))
      |some (.exit id,s2)=>some (false,s2.m.at_ l0 (.done (.exit id)))
      |_=>none)
     |_=>none)
    |_=>none)
   |_,_=>none)
  else ael R l args m rest
def alF(m:AM):AV->Option (AV×AM)
 |.it id=>(match m.boxes.getD id []with
  |[.mitr mid n seen]=>(match m.boxes.getD mid []with
   |[.aJ kn kvs]=>(match(List.range n).filter (fun i=>!seen.contains i)with
    |[]=>Vu (kvs.length==n) (.aS [.bool false],m)
    |[i]=>(match kvs[i]? with
     |some (k,c)=>Vu (kvs.length==n) (.aS [.bool true,keyAV kn k,c],{m with boxes:=m.boxes.set id [.mitr mid n (seen++[i])]})
     |none=>none)
    |_=>none)
   |_=>none)
  |_=>none)
 |_=>none
def aem{m:AM}{x:AV}{v:AV}{m':AM}(h:alF m x=some (v,m')){K:So}(hK:K v m'):vcNxt m K x:=by
 unfold alF at h;unfold vcNxt;split at h
 case h_2=>cases h
 rename_i id;simp only;generalize m.boxes.getD id []=X0 at h |-
 split at h
 case h_2=>cases h
 rename_i mid n seen;simp only;generalize m.boxes.getD mid []=X1 at h |-
 split at h
 case h_2=>cases h
 rename_i kn kvs;simp only;have dJ:∀i,i∈(List.range n).filter (fun i=>!seen.contains i)<->i<n/\i ∉ seen:=fun i=>zd
 generalize(List.range n).filter (fun i=>!seen.contains i)=l at h dJ;split at h
 ·obtain⟨h1,h2⟩:=Qt h;cases h2;simp only[beq_iff_eq]at h1;refine⟨h1,fun i k c hi hs=>?_,fun _=>hK⟩;have:i<n:=by have:=(zza.1 hi).1;omega
  exact absurd ((dJ i).2 ⟨this,hs⟩) zd
 ·rename_i i;split at h
  case h_2=>cases h
  rename_i k c hkc;obtain⟨h1,h2⟩:=Qt h;cases h2;simp only[beq_iff_eq]at h1;refine⟨h1,fun i' k' c' hi hs=>?_,fun bD=>?_⟩
  ·have:i'<n:=by have:=(zza.1 hi).1;omega
   have:=(dJ i').2 ⟨this,hs⟩;simp at this;subst this;rw[hkc]at hi;cases hi;exact hK
  have:=(dJ i).1 zd;exact absurd (bD i this.1) this.2
 cases h
def aen(orc:FuncId->P2->AV):Bool:=match orc 999999 []with
 |.aJ _ []=>true
 |_=>false
def sA:AV->Bool
 |.gd _ _=>false
 |.junk=>false
 |.aJ _ _=>false
 |_=>true
def WZ:AV->Bool
 |.gd false _=>true
 |_=>false
section
variable (gl:Nat->AV) (orc:FuncId->P2->AV) (R:Rc) (ye:YE)
def wG(e:bE->AV)(m:AM)(f:bE)(args:List bE):Option AV:=
 match e f with
 |.fn f first cap=>let r:=orc f ((first++args.map e++cap).map (bB m 6));Vu (sA r&&(!((first++args.map e++cap).any (Vi 6))||flat r)) r
 |_=>none
def xop(e:bE->AV)(m:AM):aF->Option (AV×AM)
 |.call f args=>(match e f with
  |.yld l=>(match ael R l (args.map e) m ye with|some (b,m')=>some (.bool b,m')|none=>none)
  |.fn g first cap=>bif WZ (orc g ((first++args.map e++cap).map (bB m 6)))then R.fn ye g (first++args.map e++cap) m
    else(match wG orc e m f args with|some v=>some (v,m)|none=>none)
  |_=>none)
 |.nxt x=>alF m (e x)
 |so=>mX (aen orc) e m so
def FC(e:bE->AV)(m:AM):aF->Option AV
 |.call f args=>wG orc e m f args
 |so=>Ui e m so
def J7(T:P2)(g:Bool):List bE->Bool
 |[]=>true
 |x::r=>(match ev gl T x with|.gd g' _=>!g||g'|_=>true)&&J7 T g r
def iZ(e:bE->AV)(m:AM):aF->Bool
 |.call f args=>(match e f with
  |.yld _=>true
  |.fn g first cap=>WZ (orc g ((first++args.map e++cap).map (bB m 6)))
  |_=>false)
 |.nxt _=>true
 |_=>false
end
section
variable (P:Program) (gl:Nat->AV) (orc:FuncId->P2->AV) (R:Rc) (ye:YE)
def zI:List SO->AS->Option AS
 |[],s=>some s
 |o::rest,s=>match o.guard with
  |none=>(match xop orc R ye (ev gl s.T) s.m o.op with
   |some (v,m')=>zI rest ⟨put s.T o.dst v,m'⟩
   |none=>none)
  |some (some t,want)=>(match Eh want (s.T.getD t .junk)with
   |some gw=>bif J7 gl s.T gw (gxs o.op o.xs)then
     (
      bif gw then
      (
       bif iZ orc (evG gl s.T o.op) s.m o.op then
       (match xop orc R ye (evG gl s.T o.op) s.m o.op with
       |some (v,m')=>zI rest ⟨put s.T o.dst (.gd true v),m'⟩
       |none=>none)
      else(match FC orc (evG gl s.T o.op) s.m o.op with
       |some v=>zI rest ⟨put s.T o.dst (.gd true v),s.m⟩
       |none=>none))
     else bif iZ orc (evG gl s.T o.op) s.m o.op then zI rest ⟨put s.T o.dst (.gd false (.bool false)),s.m⟩
      else zI rest ⟨put s.T o.dst (.gd false (rop P gl (fun _=>orc) (evG gl s.T o.op) s.m o.dst o.op).2),s.m⟩)
    else none
   |_=>none)
  |some (none,_)=>none
def zJ(l2:List SO):List SO->P2->AM->T5->Option AS
 |[],T,m,nb=>zI P gl orc R ye l2 ⟨T,{m with boxes:=m.boxes++nb}⟩
 |o::r,T,m,nb=>match o.guard with
  |none=>(match o.op with
   |.alloc zs=>bif zs.all Qx then zJ l2 r (put T o.dst (.ptr (m.boxes.length+nb.length) 0)) m (nb++[zs])else none
   |.box x=>bif bare (ev gl T x)&&(cellsOf (ev gl T x)).all Qx then zJ l2 r (put T o.dst (.ptr (m.boxes.length+nb.length) 0)) m (nb++[cellsOf (ev gl T x)])else none
   |op=>(match FC orc (ev gl T) m op with
    |some v=>zJ l2 r (put T o.dst v) m nb
    |none=>none))
  |some (some t,want)=>(match Eh want (T.getD t .junk)with
   |some gw=>bif J7 gl T gw (gxs o.op o.xs)then
     (
      bif gw then(match FC orc (evG gl T o.op) m o.op with
      |some v=>zJ l2 r (put T o.dst (.gd true v)) m nb
      |none=>none)
     else zJ l2 r (put T o.dst (.gd false (rop P gl (fun _=>orc) (evG gl T o.op) m o.dst o.op).2)) m nb)
    else none
   |_=>none)
  |some (none,_)=>none
def eqL{α:Type}(f:α->α->Bool):List α->List α->Bool
 |[],[]=>true
 |a::r,b::r'=>f a b&&eqL f r r'
 |_,_=>false
def alG:Rt->Rt->Bool
 |.ro,.ro=>true
 |.full,.full=>true
 |.nil,.nil=>true
 |.nn,.nn=>true
 |.own i s,.own i' s'=>(i==i')&&(s==s')
 |_,_=>false
def FD:Nat->AV->AV->Bool
 |0,_,_=>false
 |d+1,a,b=>match a,b with
  |.bool x,.bool y=>x==y
  |.int k n,.int k' n'=>decide (k=k')&&decide (n=n')
  |.str s,.str t=>s.data.toList==t.data.toList
  |.agg cs,.agg ds=>eqL (FD d) cs ds
  |.sl rt rows,.sl y6 rows'=>alG rt y6&&eqL (eqL (FD d)) rows rows'
  |.ptr i o,.ptr i' o'=>(i==i')&&(o==o')
  |.bs i o n z,.bs i' o' n' z'=>(i==i')&&(o==o')&&(n==n')&&(z==z')
  |.ep row o,.ep row' o'=>(o==o')&&eqL (FD d) row row'
  |.mp i,.mp i'=>i==i'
  |.it i,.it i'=>i==i'
  |.yld i,.yld i'=>i==i'
  |.nilfn,.nilfn=>true
  |.nilv p,.nilv q=>p==q
  |.fn f a b,.fn f' a' b'=>decide (f=f')&&eqL (FD d) a a'&&eqL (FD d) b b'
  |_,_=>false
def CT(e:bE->AV)(m m1:AM):aF->Bool
 |.load _ _ x=>(match e x with|.ptr id _=>eqL (FD 6) (m1.boxes.getD id []) (m.boxes.getD id [])|_=>true)
 |.call f args=>(match e f with|.fn g first cap=>!((first++args.map e++cap).any (Vi 6))&&sA (orc g ((first++args.map e++cap).map (bB m 6)))|_=>true)
 |.bsl _ _ _=>false
 |.look _ _ _ _ _=>false
 |.entr _=>false
 |.slA _ _ x _ _=>(match e x with|.ptr id _=>Nat.beq (m1.boxes.getD id []).length (m.boxes.getD id []).length&&Nat.beq m1.boxes.length m.boxes.length|_=>true)
 |.b2s x=>(match e x with|.bs _ _ _ _=>false|_=>true)
 |_=>true
def tJ(l2:List SO)(m:AM):List SO->List Fg->AM->QP->P2->List (aF×P2)->Option AS
 |[],_,mc,ms,T,ic=>bif ic.all (fun q=>ms.all fun x=>CT orc (ev gl q.2) m x.2 q.1)then zI P gl orc R ye l2 ⟨T,mc⟩else none
 |_::_,[],_,_,_,_=>none
 |o::r,.eff::fl,mc,ms,T,ic=>(match o.op with
  |.call f args=>(match ev gl T f with
   |.fn g first cap=>(match R.fn ye g (first++args.map (ev gl T)++cap) mc with
    |some (av,m1)=>tJ l2 m r fl m1 (ms++[(av,m1)]) (put T o.dst av) ic
    |none=>none)
   |_=>none)
  |so=>bif memEff so then(match mX (aen orc) (ev gl T) mc so with
   |some (v,m1)=>tJ l2 m r fl m1 (ms++[(effV v so,m1)]) (put T o.dst (effV v so)) ic
   |none=>none)else none)
 |o::r,.pre::fl,mc,ms,T,ic=>(match FC orc (ev gl T) m o.op with
  |some v=>tJ l2 m r fl mc ms (put T o.dst v) ic
  |none=>none)
 |o::r,.oth::fl,mc,ms,T,ic=>(match FC orc (ev gl T) m o.op with
  |some v=>tJ l2 m r fl mc ms (put T o.dst v) ((o.op,T)::ic)
  |none=>none)
abbrev W4:=FuncId->Option (SC×List aF×Nat)
def W5(s:AS):List aF->PH
 |[]=>some []
 |o::r=>(match Ui (ev gl s.T) s.m o with
  |some v=>(match W5 s r with|some l=>some (v::l)|none=>none)
  |none=>none)
def NO(sc:SC)(s:AS):Option (Exit×AS):=
 match sc with
 |.skip=>some (.normal,s)
 |.ops l=>(match zI P gl orc R ye l s with|some s'=>some (.normal,s')|none=>none)
 |.draw l l2=>(match zJ P gl orc R ye l2 l s.T s.m []with|some s'=>some (.normal,s')|none=>none)
 |.drawE fl l l2=>(match(bif l.all (fun o=>o.guard.isNone)then tJ P gl orc R ye l2 s.m l fl s.m [] s.T []else none)with
  |some s'=>some (.normal,s')
  |none=>(match zJ P gl orc R ye l2 l s.T s.m []with|some s'=>some (.normal,s')|none=>none))
 |.drawZ _ _ _ _=>none
 |.seq a b=>(match R.code ye a s with
  |some (.normal,s')=>R.code ye b s'
  |r=>r)
 |.cond x a b=>(match ev gl s.T x with
  |.bool t=>R.code ye (bif t then a else b) s
  |_=>none)
 |.block id c=>(match R.code ye c s with
  |some (.exit id',s')=>bif Nat.beq id' id then some (.normal,s')else some (.exit id',s')
  |r=>r)
 |.loop c=>(match R.code ye c s with
  |some (.normal,s')=>R.code ye (.loop c) s'
  |r=>r)
 |.exit id=>some (.exit id,s)
 |.scope c=>(match R.code ye c s with
  |some (.goto _,_)=>none
  |r=>r)
 |.rfunc g ps gZ body=>(match ev gl s.T g with
  |.fn f first cap=>(match R.fn (.cons s.m.ln s.T ps gZ body ye) f (first++[.yld s.m.ln]++cap) s.m.bJ with
   |some (_,m')=>(match m'.st s.m.ln with
    |.ready=>some (.normal,⟨s.T,m'.at_ s.m.ln .gone⟩)
    |.done ex=>some (ex,⟨s.T,m'.at_ s.m.ln .gone⟩)
    |_=>none)
   |none=>none)
  |_=>none)
 |.ret=>some (.ret,s)
 |.bad=>none
def xfn(tab:W4)(f:FuncId)(as':P2)(m:AM):Option (AV×AM):=
 match tab f with
 |some (sc,rs,n)=>(match R.code ye sc ⟨as'++List.replicate (n-as'.length) .junk,m⟩with
  |some (.normal,s)=>(match W5 gl s rs with|some l=>some (oneOf l,s.m)|none=>none)
  |some (.ret,s)=>(match W5 gl s rs with|some l=>some (oneOf l,s.m)|none=>none)
  |_=>none)
 |none=>none
end
def CU(P:Program)(gl:Nat->AV)(orc:FuncId->P2->AV)(tab:W4)(n:Nat):Rc:=
 Nat.rec ⟨fun _ _ _=>none,fun _ _ _ _=>none⟩ (fun _ R=>⟨fun ye sc s=>NO P gl orc R ye sc s,fun ye f as' m=>xfn gl R ye tab f as' m⟩) n
def AT(P:Program)(gl:Nat->AV)(orc:FuncId->P2->AV)(tab:W4)(n:Nat)(f:FuncId)(as':P2):AV:=
 match(CU P gl orc tab n).fn .nil f as' ⟨[],[],fun _=>.gone,0⟩with
 |some (r,m)=>bB m 6 r
 |none=>.junk
section
variable {P:Program} {gl:Nat->AV} {orc:FuncId->P2->AV}
def qP(P:Program)(gl:Nat->AV)(orc:FuncId->P2->AV):YE->YT
 |.nil=>Y0
 |.cons l T ps gZ body rest=>Yin (qP P gl orc rest) l ps.length fun args m K=>vc P gl (fun _=>orc) (qP P gl orc rest) gZ ⟨Qaj T ps args,m⟩ (J4 l fun s'=>vc P gl (fun _=>orc) (qP P gl orc rest) body s' (QD l K))
def oN(P:Program)(gl:Nat->AV)(orc:FuncId->P2->AV):Prop:=∀f as',sA (orc f as')=true->Pure P gl f as' (orc f as')
def wH(P:Program)(tab:W4):Prop:=∀f sc rs n,tab f=some (sc,rs,n)->cV P f sc rs n
def qQ(P:Program)(gl:Nat->AV)(orc:FuncId->P2->AV)(R:Rc):Prop:=∀ye sc s ex s',R.code ye sc s=some (ex,s')->∀Q:R0,Q ex s'->vc P gl (fun _=>orc) (qP P gl orc ye) sc s Q
def W6(P:Program)(gl:Nat->AV)(orc:FuncId->P2->AV)(R:Rc):Prop:=∀ye f as' m r m',R.fn ye f as' m=some (r,m')->∀K:So,K r m'->aB P gl (qP P gl orc ye) f as' m K
def NP{R:Rc}(hR:qQ P gl orc R){l:Nat}{args:P2}{m:AM}:∀{ye:YE}{b:Bool}{m':AM},ael R l args m ye=some (b,m')->∀K:Bool->AM->Prop,K b m'->qP P gl orc ye l args m K
 |.nil,_,_,h,_,_=>by cases h
 |.cons l0 T ps gZ body rest,b,m',h,K,hK=>by
  simp only[ael]at h;simp only[qP,Yin];cases hl:Nat.beq l l0 with
  |false=>
   simp[hl]at h;have:l≠l0:=by rintro rfl;simp[Nat.beq_refl]at hl
   rw[ab this];exact NP hR h K hK
  |true=>
   simp[hl]at h;obtain rfl:=zzds hl;rw[ac rfl];split at h
   case h_2=>cases h
   rename_i bM aH;refine⟨bM,zzds aH,?_⟩;split at h
   case h_2=>cases h
   rename_i s1 h1;split at h
   case h_2=>cases h
   rename_i awY;refine hR _ _ _ _ _ h1 _ ⟨awY,?_⟩;split at h
   ·rename_i s2 h2;cases h;exact hR _ _ _ _ _ h2 _ hK
   ·rename_i s2 h2;cases h;exact hR _ _ _ _ _ h2 _ hK
   ·rename_i id s2 h2;cases h;exact hR _ _ _ _ _ h2 _ hK
   cases h
def ja{f:FuncId}{as':P2}{m:AM}{r:AV}(h:sA r=true):callV P gl f as' m r=(Pure P gl f (as'.map (bB m 6)) r/\(as'.any (Vi 6)=true->flat r=true),r):=by
 cases r<;>first|rfl|simp[sA]at h
def AU(hO:oN P gl orc){e:bE->AV}{m:AM}{dst:Option Nat}{f:bE}{args:List bE}{v:AV}(h:wG orc e m f args=some v):
  (rop P gl (fun _=>orc) e m dst (.call f args)).1/\(rop P gl (fun _=>orc) e m dst (.call f args)).2=v:=by
 simp only[wG,rop]at h |-
 generalize e f=X at h |-
 split at h
 ·obtain⟨h1,h2⟩:=Qt h;simp only[zzac,zzfw,zzcz]at h1;simp only[ja h1.1];refine⟨⟨hO _ _ h1.1,fun ha=>?_⟩,h2⟩;rcases h1.2 with h3|h3
  ·rw[ha]at h3;cases h3
  exact h3
 cases h
def oO(hO:oN P gl orc){e:bE->AV}{m:AM}{dst:Option Nat}{so:aF}{v:AV}(h:FC orc e m so=some v):
  (rop P gl (fun _=>orc) e m dst so).1/\(rop P gl (fun _=>orc) e m dst so).2=v:=by
 cases so<;>first|exact AU hO h|exact uy h
def Qdd{e:bE->AV}{m:AM}{dst:Option Nat}{so:aF}:effy (fun _=>orc) e m dst so=iZ orc e m so:=by
 cases so with
 |call f args=>
  simp only[effy,iZ];generalize e f=X;cases X<;>first|rfl|(simp only[WZ];rfl)
 |_=>rfl
def NQ{R:Rc}(hC:qQ P gl orc R)(hF:W6 P gl orc R){ye:YE}{e:bE->AV}{m:AM}{so:aF}{v:AV}{m':AM}(h:xop orc R ye e m so=some (v,m'))(he:iZ orc e m so=true)(K:So)(hK:K v m'):
  Qah P gl (qP P gl orc ye) e m K so:=by
 cases so with
 |call f args=>
  simp only[xop,Qah,iZ]at h he |-
  generalize e f=X at h he |-
  cases X with
  |yld l=>
   simp only at h |-
   split at h
   ·rename_i b m1 h1;cases h;exact NP hC h1 _ hK
   cases h
  |fn g first cap=>
   simp only at h he |-
   simp only[he,cond_true]at h;exact hF _ _ _ _ _ _ h K hK
  |_=>cases he
 |nxt x=>exact aem h hK
 |_=>cases he
def aeo(hO:oN P gl orc){R:Rc}{ye:YE}{e:bE->AV}{m:AM}{dst:Option Nat}{so:aF}{p:AV×AM}(h:xop orc R ye e m so=some p)(he:iZ orc e m so=false):
  (sop P gl (fun _=>orc) e m dst so).1/\(sop P gl (fun _=>orc) e m dst so).2=p:=by
 cases so with
 |call f args=>
  simp only[iZ]at he;simp only[xop]at h
  have key:(match wG orc e m f args with|some v=>some (v,m)|none=>none)=some p->(sop P gl (fun _=>orc) e m dst (.call f args)).1/\(sop P gl (fun _=>orc) e m dst (.call f args)).2=p:=fun h=>by
   split at h
   ·rename_i v hv;cases h;have:=AU (P:=P) (gl:=gl) hO (dst:=dst) hv;exact⟨this.1,by simp only[sop,this.2]⟩
   cases h
  revert h he
  cases hX:e f with
  |yld l=>intro h he;cases he
  |fn g first cap=>
   intro h he;simp only[he,cond_false]at h;exact key h
  |_=>intro h;cases h
 |nxt x=>cases he
 |_=>exact NN rfl h
def uz{T:P2}{g:Bool}:∀{xs:List bE},J7 gl T g xs=true->gok gl T g xs
 |[],_=>trivial
 |x::r,h=>by
  simp only[J7,zzac]at h;refine⟨?_,uz h.2⟩;have h1:=h.1;generalize ev gl T x=X at h1 |-
  cases X with
  |gd g' a=>intro hg;simpa[hg]using h1
  |_=>trivial
def Qaq(hO:oN P gl orc){R:Rc}(hC:qQ P gl orc R)(hF:W6 P gl orc R){ye:YE}:∀{l:List SO}{s s':AS},zI P gl orc R ye l s=some s'->∀K:AS->Prop,K s'->Zo P gl (fun _=>orc) (qP P gl orc ye) l s K
 |[],s,s',h,K,hK=>by cases h;exact hK
 |o::rest,s,s',h,K,hK=>by
  simp only[zI]at h;simp only[Zo];cases hg:o.guard with
  |none=>
   simp only[hg]at h |-
   split at h
   case h_2=>cases h
   rename_i v m1 h1;cases hE:iZ orc (ev gl s.T) s.m o.op with
   |true=>
    rw[ac (by rw[Qdd];exact hE)];exact NQ hC hF h1 hE _ (Qaq hO hC hF h K hK)
   |false=>
    rw[ab (by rw[Qdd,hE];simp)];have:=aeo (P:=P) (gl:=gl) hO (dst:=o.dst) h1 hE;refine⟨this.1,?_⟩;rw[this.2];exact Qaq hO hC hF h K hK
  |some q=>
   obtain⟨t,want⟩:=q;cases t with
   |none=>simp[hg]at h
   |some t=>
    simp only[hg]at h |-
    split at h
    case h_2=>cases h
    rename_i gw kY;try simp only[kY]
    cases SE:J7 gl s.T gw (gxs o.op o.xs)with
    |false=>simp[SE]at h
    |true=>
     simp only[SE,cond_true]at h;refine⟨uz SE,?_⟩;cases AO:gw with
     |true=>
      simp only[AO,cond_true]at h;cases hE:iZ orc (evG gl s.T o.op) s.m o.op with
      |true=>
       rw[ac (by rw[Qdd];exact hE)];simp only[hE,cond_true]at h;split at h
       case h_2=>cases h
       rename_i v m1 h1;exact⟨fun _=>NQ hC hF h1 hE _ (Qaq hO hC hF h K hK),fun h=>(by cases h)⟩
      |false=>
       rw[ab (by rw[Qdd,hE];simp)];simp only[hE,cond_false]at h;split at h
       case h_2=>cases h
       rename_i v h1;have:=oO (P:=P) (gl:=gl) hO (dst:=o.dst) h1;refine⟨fun _=>this.1,?_⟩;rw[this.2];exact Qaq hO hC hF h K hK
     |false=>
      simp only[AO,cond_false]at h;cases hE:iZ orc (evG gl s.T o.op) s.m o.op with
      |true=>
       rw[ac (by rw[Qdd];exact hE)];simp only[hE,cond_true]at h;exact⟨fun h=>(by cases h),fun _=>Qaq hO hC hF h K hK⟩
      |false=>
       rw[ab (by rw[Qdd,hE];simp)];simp only[hE,cond_false]at h;exact⟨fun h=>(by cases h),Qaq hO hC hF h K hK⟩
def Qdp(hO:oN P gl orc){R:Rc}(hC:qQ P gl orc R)(hF:W6 P gl orc R){ye:YE}{l2:List SO}:∀{l:List SO}{T:P2}{m:AM}{nb:T5}{s':AS},zJ P gl orc R ye l2 l T m nb=some s'->∀K:AS->Prop,K s'->
  SD P gl (fun _=>orc) (qP P gl orc ye) l2 K l T m nb
 |[],T,m,nb,s',h,K,hK=>Qaq hO hC hF h K hK
 |o::r,T,m,nb,s',h,K,hK=>by
  simp only[zJ]at h;simp only[SD,dop];cases hg:o.guard with
  |none=>
   simp only[hg]at h |-
   have uk:∀op,(match FC orc (ev gl T) m op with
     |some v=>zJ P gl orc R ye l2 r (put T o.dst v) m nb
     |none=>none)=some s'->(rop P gl (fun _=>orc) (ev gl T) m o.dst op).1/\SD P gl (fun _=>orc) (qP P gl orc ye) l2 K r (put T o.dst (rop P gl (fun _=>orc) (ev gl T) m o.dst op).2) m nb:=fun op h=>by
    split at h
    case h_2=>cases h
    rename_i v h1;have:=oO (P:=P) (gl:=gl) hO (dst:=o.dst) h1;refine⟨this.1,?_⟩;rw[this.2];exact Qdp hO hC hF h K hK
   cases dh:o.op with
   |alloc zs=>
    simp only[dh]at h |-
    cases hz:zs.all Qx with
    |false=>simp[hz]at h
    |true=>simp only[hz,cond_true]at h;exact⟨rfl,Qdp hO hC hF h K hK⟩
   |box x=>
    simp only[dh]at h |-
    cases hz:(bare (ev gl T x)&&(cellsOf (ev gl T x)).all Qx)with
    |false=>simp[hz]at h
    |true=>
     simp only[hz,cond_true]at h;simp only[zzac]at hz;exact⟨hz,Qdp hO hC hF h K hK⟩
   |mks sz bytes zs x y=>simp[dh,FC,Ui]at h
   |_=>simp only[dh]at h |-;exact uk _ h
  |some q=>
   obtain⟨t,want⟩:=q;cases t with
   |none=>simp[hg]at h
   |some t=>
    simp only[hg]at h |-
    split at h
    case h_2=>cases h
    rename_i gw kY;try simp only[kY]
    cases SE:J7 gl T gw (gxs o.op o.xs)with
    |false=>simp[SE]at h
    |true=>
     simp only[SE,cond_true]at h;cases AO:gw with
     |true=>
      rw[AO]at SE;simp only[AO,cond_true]at h;split at h
      case h_2=>cases h
      rename_i v h1;have:=oO (P:=P) (gl:=gl) hO (dst:=o.dst) h1;refine⟨⟨uz SE,fun _=>this.1⟩,?_⟩;rw[this.2];exact Qdp hO hC hF h K hK
     |false=>
      rw[AO]at SE;simp only[AO,cond_false]at h;exact⟨⟨uz SE,fun h=>(by cases h)⟩,Qdp hO hC hF h K hK⟩
def jb{α:Type}{f:α->α->Bool}(hf:∀a b,f a b=true->a=b):∀{l l':List α},eqL f l l'=true->l=l'
 |[],[],_=>rfl
 |[],_::_,h=>by cases h
 |_::_,[],h=>by cases h
 |a::r,b::r',h=>by
  simp only[eqL,zzac]at h;rw[hf a b h.1,jb hf h.2]
def aep{a b:Rt}(h:alG a b=true):a=b:=by
 cases a<;>cases b<;>simp[alG]at h<;>first|rfl|(obtain⟨rfl,rfl⟩:=h;rfl)
def NR:∀d a b,FD d a b=true->a=b
 |0,_,_,h=>by cases h
 |d+1,a,b,h=>by
  have ih:=NR d;unfold FD at h;split at h
  ·rw[eq_of_beq h]
  ·simp only[zzac,am]at h;rw[h.1,h.2]
  ·rename_i s t;have:=eq_of_beq h;cases s;cases t;simp only at this;rw[Array.toList_inj.1 this]
  ·rw[jb ih h]
  ·simp only[zzac]at h;rw[aep h.1,jb (fun a b=>jb ih) h.2]
  ·simp only[zzac,beq_iff_eq]at h;rw[h.1,h.2]
  ·simp only[zzac,beq_iff_eq]at h;rw[h.1.1.1,h.1.1.2,h.1.2,h.2]
  ·simp only[zzac,beq_iff_eq]at h;rw[h.1,jb ih h.2]
  ·rw[eq_of_beq h]
  ·rw[eq_of_beq h]
  ·rw[eq_of_beq h]
  ·rfl
  ·rw[eq_of_beq h]
  ·simp only[zzac,am]at h;rw[h.1.1,jb ih h.1.2,jb ih h.2]
  cases h
def NS{m m1:AM}:∀d a,Vi d a=false->bB m d a=bB m1 d a
 |0,_,h=>by cases h
 |d+1,a,h=>by
  have ih:=NS (m:=m) (m1:=m1) d
  have hl:∀l:P2,l.any (Vi d)=false->l.map (bB m d)=l.map (bB m1 d):=fun l hl=>zzcs fun a ha=>ih a (by
   rw[zzdl]at hl;simpa using hl a ha)
  cases a with
  |agg cs=>simp only[Vi]at h;simp only[bB,hl cs h]
  |aS cs=>simp only[Vi]at h;simp only[bB,hl cs h]
  |fn f x y=>simp only[Vi,Bool.or_eq_false_iff]at h;simp only[bB,hl x h.1,hl y h.2]
  |ptr i o=>cases h
  |bs i o n z=>cases h
  |sl rt rows=>cases rt<;>rfl
  |_=>rfl
def aeq{e:bE->AV}{m m1:AM}{dst:Option Nat}{so:aF}(h:CT orc e m m1 so=true):rop P gl (fun _=>orc) e m1 dst so=rop P gl (fun _=>orc) e m dst so:=by
 cases so with
 |load agg n x=>
  simp only[CT,rop]at h |-
  generalize e x=X at h |-
  cases X<;>first|rfl|(simp only;rw[jb (NR 6) h])
 |call f args=>
  simp only[CT,rop]at h |-
  generalize e f=X at h |-
  cases X with
  |fn g first cap=>
   simp only[zzac,zzcz]at h |-
   have hm:(first++args.map e++cap).map (bB m1 6)=(first++args.map e++cap).map (bB m 6):=zzcs fun a ha=>NS 6 a (by
    have:=h.1;rw[zzdl]at this;simpa using this a ha)
   rw[hm,ja h.2,ja h.2,hm]
  |_=>rfl
 |bsl a b c=>cases h
 |look a b c d=>cases h
 |entr a=>cases h
 |slA n sz x lo hi=>
  simp only[CT,rop]at h |-
  generalize e x=X at h |-
  cases X<;>first|rfl|skip
  simp only[zzac]at h |-
  have h1:=zzds h.1;have h2:=zzds h.2;simp only[h1,h2]
 |b2s x=>
  simp only[CT,rop]at h |-
  generalize e x=X at h |-
  cases X<;>first|rfl|cases h
 |_=>rfl
def oP(hO:oN P gl orc){R:Rc}(hC:qQ P gl orc R)(hF:W6 P gl orc R){ye:YE}{l2:List SO}{m:AM}:∀{l:List SO}{fl:List Fg}{mc:AM}{ms:QP}{T:P2}{ic:List (aF×P2)}{s':AS},(∀o∈l,o.guard=none)->tJ P gl orc R ye l2 m l fl mc ms T ic=some s'->∀K:AS->Prop,K s'->
  ∃q,ic.all (fun a=>(ms++q).all fun x=>CT orc (ev gl a.2) m x.2 a.1)=true/\mT P gl (fun _=>orc) (qP P gl orc ye) l2 K m (ms++q) l fl q mc T
 |[],fl,mc,ms,T,ic,s',_,h,K,hK=>by
  simp only[tJ]at h;cases ha:ic.all (fun q=>ms.all fun x=>CT orc (ev gl q.2) m x.2 q.1)with
  |false=>simp[ha]at h
  |true=>
   simp only[ha,cond_true]at h;refine⟨[],Nm ha,?_⟩;unfold mT;exact⟨rfl,Qaq hO hC hF h K hK⟩
 |o::r,[],mc,ms,T,ic,s',_,h,K,hK=>by simp[tJ]at h
 |o::r,.eff::fl,mc,ms,T,ic,s',hg,h,K,hK=>by
  have W7:Vb T o:=by unfold Vb;rw[hg o zd];trivial
  have hg1:∀o∈r,o.guard=none:=fun o ho=>hg o (zzcu _ ho)
  have mem:∀so,o.op=so->(∀f args,so≠.call f args)->(bif memEff so then(match mX (aen orc) (ev gl T) mc so with
   |some (v,m1)=>tJ P gl orc R ye l2 m r fl m1 (ms++[(effV v so,m1)]) (put T o.dst (effV v so)) ic
   |none=>none)else none)=some s'->∃q,ic.all (fun a=>(ms++q).all fun x=>CT orc (ev gl a.2) m x.2 a.1)=true/\mT P gl (fun _=>orc) (qP P gl orc ye) l2 K m (ms++q) (o::r) (.eff::fl) q mc T:=fun so P9 hnc h=>by
   cases hme:memEff so with
   |false=>simp[hme]at h
   |true=>
    simp only[hme,cond_true]at h;split at h
    case h_2=>cases h
    rename_i av m1 bM;obtain⟨q,q1,q2⟩:=oP hO hC hF hg1 h K hK;have h1:=NN (P:=P) (gl:=gl) (orc:=fun _=>orc) (dst:=o.dst) (mu:=aen orc) rfl bM;refine⟨(effV av so,m1)::q,Nm q1,?_⟩;rw[zzbg]at q2;simp only[mT];refine⟨W7,?_,q2⟩;rw[P9];cases so<;>first|(exact absurd rfl (hnc _ _))|exact⟨hme,h1.1,by rw[h1.2],by rw[h1.2]⟩
  simp only[tJ]at h;split at h
  ·rename_i f args dh;split at h
   case h_2=>cases h
   rename_i g first cap bU
   split at h
   case h_2=>cases h
   rename_i av m1 SF;obtain⟨q,q1,q2⟩:=oP hO hC hF hg1 h K hK;refine⟨(av,m1)::q,Nm q1,?_⟩;rw[zzbg]at q2;simp only[mT,effC,dh,bU];exact⟨W7,hF _ _ _ _ _ _ SF _ ⟨rfl,rfl⟩,q2⟩
  rename_i eX;exact mem _ rfl (fun f args hf=>eX f args hf) h
 |o::r,.pre::fl,mc,ms,T,ic,s',hg,h,K,hK=>by
  have W7:Vb T o:=by unfold Vb;rw[hg o zd];trivial
  have hg1:∀o∈r,o.guard=none:=fun o ho=>hg o (zzcu _ ho);simp only[tJ]at h;split at h
  case h_2=>cases h
  rename_i v hv;obtain⟨q,q1,q2⟩:=oP hO hC hF hg1 h K hK;have h1:=oO (P:=P) (gl:=gl) hO (dst:=o.dst) hv;refine⟨q,q1,?_⟩;simp only[mT];exact⟨W7,h1.1,by rw[h1.2];exact q2⟩
 |o::r,.oth::fl,mc,ms,T,ic,s',hg,h,K,hK=>by
  have W7:Vb T o:=by unfold Vb;rw[hg o zd];trivial
  have hg1:∀o∈r,o.guard=none:=fun o ho=>hg o (zzcu _ ho);simp only[tJ]at h;split at h
  case h_2=>cases h
  rename_i v hv;obtain⟨q,q1,q2⟩:=oP hO hC hF hg1 h K hK;simp only[List.all_cons,zzac]at q1;have h1:=oO (P:=P) (gl:=gl) hO (dst:=o.dst) hv;refine⟨q,q1.2,?_⟩;simp only[mT];exact⟨W7,h1.1,fun x hx=>aeq (zzax.1 q1.1 x hx),by rw[h1.2];exact q2⟩
def CV{s:AS}:∀{rs:List aF}{l:P2},W5 gl s rs=some l->(Js P gl (fun _=>orc) s rs).1/\(Js P gl (fun _=>orc) s rs).2=l
 |[],l,h=>by cases h;exact⟨trivial,rfl⟩
 |o::r,l,h=>by
  simp only[W5]at h;split at h
  case h_2=>cases h
  rename_i v hv;split at h
  case h_2=>cases h
  rename_i l' hl;cases h;have h1:=uy (P:=P) (gl:=gl) (orc:=fun _=>orc) (dst:=none) hv;have h2:=CV hl;exact⟨⟨h1.1,h2.1⟩,by simp only[Js,h1.2,h2.2]⟩
def W8{p:Nat->Prop}:∀k,p k->∃k,p k/\∀j,p j->k<=j:=fun k=>by
 induction k using Nat.strongRecOn with
 |_ k ih=>
  intro hk;by_cases h:∃j,j<k/\p j
  ·obtain⟨j,h1,h2⟩:=h;exact ih j h1 h2
  exact⟨k,hk,fun j hj=>Nat.le_of_not_lt fun h'=>h ⟨j,h',hj⟩⟩
open Classical in
noncomputable def leastOf (p:Nat->Prop):Nat:=if h:∃ k,p k/\∀ j,p j->k<=j then Classical.choose h else 0
def wI{p:Nat->Prop}(h:∃k,p k):p (leastOf p)/\∀j,p j->leastOf p<=j:=by
 have h':∃k,p k/\∀j,p j->k<=j:=let⟨k,hk⟩:=h;W8 k hk
 unfold leastOf;rw[dif_pos h'];exact Classical.choose_spec h'
theorem QK(tab:W4)(n:Nat):CU P gl orc tab (n+1)=⟨fun ye sc s=>NO P gl orc (CU P gl orc tab n) ye sc s,fun ye f as' m=>xfn gl (CU P gl orc tab n) ye tab f as' m⟩:=rfl
def NT(hO:oN P gl orc){tab:W4}(hT:wH P tab)(n:Nat):qQ P gl orc (CU P gl orc tab n)/\W6 P gl orc (CU P gl orc tab n):=by
 induction n using Nat.strongRecOn with
 |_ n ih=>
  cases n with
  |zero=>exact⟨fun _ _ _ _ _ h=>(by cases h),fun _ _ _ _ _ _ h=>(by cases h)⟩
  |succ n=>
   obtain⟨hC,hF⟩:=ih n zE;rw[QK];refine⟨fun ye sc s ex s' h Q hQ=>?_,fun ye f as' m r m' h K hK=>?_⟩
   ·simp only at h;cases sc with
    |skip=>cases h;exact hQ
    |ops l=>
     simp only[NO]at h;split at h
     case h_2=>cases h
     rename_i s1 h1;cases h;exact Qaq hO hC hF h1 _ hQ
    |draw l l2=>
     simp only[NO]at h;split at h
     case h_2=>cases h
     rename_i s1 h1;cases h;exact Qdp hO hC hF h1 _ hQ
    |drawE j l l2=>
     simp only[NO]at h;split at h
     ·rename_i s1 h1;cases h;cases JN:l.all (fun o=>o.guard.isNone)with
      |false=>simp[JN]at h1
      |true=>
       simp only[JN,cond_true]at h1;obtain⟨q,_,h3⟩:=oP hO hC hF (fun o ho=>by have:=zzax.1 JN o ho;simpa using this) h1 _ hQ;exact .inr (.inl ⟨q,h3⟩)
     split at h
     case h_2=>cases h
     rename_i s1 h1;cases h;exact .inl (Qdp hO hC hF h1 _ hQ)
    |drawZ z j l l2=>simp only[NO]at h;cases h
    |seq a b=>
     simp only[NO]at h;split at h
     ·rename_i s1 h1;exact hC _ _ _ _ _ h1 _ (hC _ _ _ _ _ h _ hQ)
     rename_i eX;refine hC _ _ _ _ _ h _ ?_;cases ex<;>first|exact hQ|exact absurd h (eX _)
    |cond x a b=>
     simp only[NO]at h;simp only[vc];split at h
     case h_2=>cases h
     rename_i t ht;try simp only[ht]
     cases t with
     |true=>exact⟨fun _=>hC _ _ _ _ _ h _ hQ,fun h=>(by cases h)⟩
     |false=>exact⟨fun h=>(by cases h),fun _=>hC _ _ _ _ _ h _ hQ⟩
    |block id c=>
     simp only[NO]at h;split at h
     ·rename_i id' s1 h1;refine hC _ _ _ _ _ h1 _ ?_;simp only[mV];cases aK:Nat.beq id' id with
      |true=>
       simp only[aK,cond_true]at h;cases h;rw[ac (zzds aK)];exact hQ
      |false=>
       simp only[aK,cond_false]at h;cases h;rw[ab (by rintro rfl;simp[Nat.beq_refl]at aK)];exact hQ
     rename_i eX;refine hC _ _ _ _ _ h _ ?_;cases ex<;>first|exact hQ|exact absurd h (eX _ _)
    |loop c=>
     let p:AS->Nat->Prop:=fun x k=>NO P gl orc (CU P gl orc tab k) ye (.loop c) x=some (ex,s')
     refine⟨fun x=>∃k,k<=n/\p x k,fun x=>leastOf (p x),⟨n,zzab _,h⟩,?_⟩;rintro x ⟨k,hk,hx⟩;obtain⟨h1,h2⟩:=wI ⟨k,hx⟩;have cw:=h2 k hx;generalize Ny:leastOf (p x)=k0 at h1 cw;obtain⟨hC0,_⟩:=ih k0 zE;have mJ:NO P gl orc (CU P gl orc tab k0) ye (.loop c) x=some (ex,s'):=h1;simp only[NO]at mJ;split at mJ
     ·rename_i y hy;refine hC0 _ _ _ _ _ hy _ ?_;cases k0 with
      |zero=>cases mJ
      |succ j=>
       have hj:p y j:=mJ;exact⟨⟨j,zE,hj⟩,by have:=(wI ⟨j,hj⟩).2 j hj;show leastOf (p y)<leastOf (p x);omega⟩
     rename_i eX;refine hC0 _ _ _ _ _ mJ _ ?_;cases ex<;>first|exact hQ|exact absurd mJ (eX _)
    |exit id=>cases h;exact hQ
    |scope c=>
     simp only[NO]at h;split at h
     ·cases h
     rename_i eX;refine hC _ _ _ _ _ h _ ?_;cases ex<;>first|exact hQ|exact absurd h (eX _ _)
    |rfunc g ps gZ body=>
     simp only[NO]at h;simp only[vc];split at h
     case h_2=>cases h
     rename_i f first cap hg
     try simp only[hg]
     intro _;split at h
     case h_2=>cases h
     rename_i r1 m1 h1;refine hF _ _ _ _ _ _ h1 _ ?_;split at h
     ·rename_i bM;cases h;simp only[bM,CQ];exact hQ
     ·rename_i ex1 bM;cases h;simp only[bM,CQ];exact hQ
     cases h
    |ret=>cases h;exact hQ
    |bad=>cases h
   simp only[xfn]at h;split at h
   case h_2=>cases h
   rename_i sc rs k ht;refine J5 (hT f sc rs k ht) (fun _=>orc) ?_;split at h
   ·rename_i s1 h1;split at h
    case h_2=>cases h
    rename_i l hl;cases h;have:=CV (P:=P) (orc:=orc) hl;exact hC _ _ _ _ _ h1 _ ⟨this.1,by rw[this.2];exact hK⟩
   ·rename_i s1 h1;split at h
    case h_2=>cases h
    rename_i l hl;cases h;have:=CV (P:=P) (orc:=orc) hl;exact hC _ _ _ _ _ h1 _ ⟨this.1,by rw[this.2];exact hK⟩
   cases h
def FE(hO:oN P gl orc){tab:W4}(hT:wH P tab){n:Nat}{f:FuncId}{as':P2}(h:sA (AT P gl orc tab n f as')=true):Pure P gl f as' (AT P gl orc tab n f as'):=by
 generalize hx:AT P gl orc tab n f as'=x at h;unfold AT at hx;split at hx
 ·rename_i r m hr;exact sy ((NT hO hT n).2 _ _ _ _ _ _ hr _ hx)
 subst hx;cases h
def J8(P:Program)(gl:Nat->AV)(tab:W4)(QL:FuncId->Nat)(aT:Nat):UV
 |0=>fun f _=>bif Nat.beq f 999999&&Nat.beq (QL f) 77 then .aJ 0 []else .gd false .junk
 |k+1=>fun f as'=>bif Nat.beq (QL f) k then AT P gl (J8 P gl tab QL aT k) tab aT f as' else J8 P gl tab QL aT k f as'
def uA{tab:W4}(hT:wH P tab)(QL:FuncId->Nat)(aT:Nat):∀k,oN P gl (J8 P gl tab QL aT k)
 |0=>fun f _ h=>by
  simp only[J8]at h;cases hc:(Nat.beq f 999999&&Nat.beq (QL f) 77)<;>simp[hc,sA]at h
 |k+1=>fun f as' h=>by
  simp only[J8]at h |-
  cases hl:Nat.beq (QL f) k with
  |true=>simp only[hl,cond_true]at h |-;exact FE (uA hT QL aT k) hT h
  |false=>simp only[hl,cond_false]at h |-;exact uA hT QL aT k f as' h
def Qcu{tab:W4}(hT:wH P tab)(QL:FuncId->Nat)(aT k:Nat){f:FuncId}{as':P2}{r:AV}(h:AT P gl (J8 P gl tab QL aT k) tab aT f as'=r)(hr:sA r=true):Pure P gl f as' r:=by
 have:=FE (uA hT QL aT k) hT (f:=f) (as':=as') (n:=aT) (by rw[h];exact hr);rwa [h]at this
def CW(P:Program):Nat->List (Option (SC×List aF×Nat))->Prop
 |_,[]=>True
 |k,none::r=>CW P (k+1) r
 |k,some (sc,rs,n)::r=>cV P k sc rs n/\CW P (k+1) r
def mY:∀{l:List (Option (SC×List aF×Nat))}{k i:Nat}{sc:SC}{rs:List aF}{n:Nat},CW P k l->l.getD i none=some (sc,rs,n)->cV P (k+i) sc rs n
 |[],_,i,_,_,_,_,h=>by simp at h
 |none::r,k,0,_,_,_,_,h=>by simp at h
 |some (sc',rs',n')::r,k,0,sc,rs,n,ho,h=>by simp at h;obtain⟨rfl,rfl,rfl⟩:=h;exact ho.1
 |none::r,k,i+1,sc,rs,n,ho,h=>by
  have:=mY (k:=k+1) (i:=i) ho (Nm h);rwa [show k+(i+1)=k+1+i by omega]
 |some (sc',rs',n')::r,k,i+1,sc,rs,n,ho,h=>by
  have:=mY (k:=k+1) (i:=i) ho.2 (Nm h);rwa [show k+(i+1)=k+1+i by omega]
def arR{l:List (Option (SC×List aF×Nat))}(h:CW P 0 l):wH P fun f=>l.getD f none:=fun f sc rs n hf=>by
 have:=mY h hf;rwa [zzbs]at this
end
def Vn(P:Program)(f:Func):SC:=match f.body with
 |some c=>Ym P c
 |none=>.bad
def Vo(P:Program)(f:Func):List aF:=fK P f.results.toList
def fgH:Nat->Fg
 |0=>.eff
 |1=>.pre
 |_=>.oth
def drH(p:Nat)(l:List SO):Pa->SC
 |[]=>.draw (l.take p) (l.drop p)
 |c::f=>if c<100 then .drawE ((c::f).map fgH) (l.take p) (l.drop p)else .drawZ (c-100) (f.map fgH) (l.take p) (l.drop p)
def Qcj(P:Program):Code->List (Pa)->SC×List (Pa)
 |.skip,h=>(.skip,h)
 |.region _ ops false,h=>(.ops (ops.toList.map (Xl P ops)),h)
 |.region _ ops true,(p::f)::h=>(drH p (ops.toList.map (Xl P ops)) f,h)
 |.seq a b,h=>match Qcj P a h with
  |(x,h)=>match Qcj P b h with
   |(y,h)=>(.seq x y,h)
 |.cond c a b,h=>match Qcj P a h with
  |(x,h)=>match Qcj P b h with
   |(y,h)=>(.cond (aC c) x y,h)
 |.block n a,h=>match Qcj P a h with
  |(x,h)=>(.block n x,h)
 |.loop a,h=>match Qcj P a h with
  |(x,h)=>(.loop x,h)
 |.exit n,h=>(.exit n,h)
 |.label _,h=>(.skip,h)
 |.scope a,h=>match Qcj P a h with
  |(x,h)=>(.scope x,h)
 |.rangeFunc g ps a b,h=>match Qcj P a h with
  |(x,h)=>match Qcj P b h with
   |(y,h)=>(.rfunc (aC g) ps.toList x y,h)
 |.ret,h=>(.ret,h)
 |_,h=>(.bad,h)
def scH(P:Program)(f:Func)(h:List (Pa)):SC:=match f.body with
 |some c=>(Qcj P c h).1
 |none=>.bad
end Go.Abs
