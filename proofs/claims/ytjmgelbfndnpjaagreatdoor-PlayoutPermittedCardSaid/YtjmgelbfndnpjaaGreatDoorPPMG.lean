import Derived.Test.YtjmgelbfndnpjaaGreatDoorPPME
set_option linter.unusedVariables false
set_option linter.unusedSimpArgs false
namespace Go.Abs
open Go Go.RowKit
def Zt {α:Type} (b:Bool) (x:α):Option α:=bif b then some x else none
theorem Qo {α:Type} {b:Bool} {x y:α} (h:Zt b x=some y):b=true/\x=y:=by
 cases b
 ·cases h
 ·exact ⟨rfl,Option.some.inj h⟩
def eqS (a b:ByteArray):Bool:=a.data.toList==b.data.toList
def binIB (op:BinOp) (k:IntKind) (a b:Int):Option AV :=
 match op with
 | .add=>some (.int k (k.wrap (a+b)))
 | .sub=>some (.int k (k.wrap (a - b)))
 | .mul=>some (.int k (k.wrap (a*b)))
 | .quo=>Zt (!(decide (b=0))) (.int k (k.wrap (a.tdiv b)))
 | .rem=>Zt (!(decide (b=0))) (.int k (a.tmod b))
 | .eql=>some (.bool (a==b))
 | .neq=>some (.bool (a != b))
 | .lss=>some (.bool (decide (a < b)))
 | .leq=>some (.bool (decide (a<=b)))
 | .gtr=>some (.bool (decide (b < a)))
 | .geq=>some (.bool (decide (b<=a)))
 | .and=>some (.int k (k.wrap (BitVec.ofInt k.bits a &&& BitVec.ofInt k.bits b).toNat))
 | .or=>some (.int k (k.wrap (BitVec.ofInt k.bits a ||| BitVec.ofInt k.bits b).toNat))
 | .xor=>some (.int k (k.wrap (BitVec.ofInt k.bits a ^^^ BitVec.ofInt k.bits b).toNat))
 | .andNot=>some (.int k (k.wrap (BitVec.ofInt k.bits a &&& ~~~ BitVec.ofInt k.bits b).toNat))
 | _=>none
def binSB (op:BinOp) (a b:ByteArray):Option AV :=
 match op with
 | .add=>Zt (decide (a.size+b.size<=9223372036854775807)) (.str ⟨a.data++b.data⟩)
 | .eql=>some (.bool (eqS a b))
 | .neq=>some (.bool (!(eqS a b)))
 | _=>none
def binVx (op:BinOp) (x y:AV):Prop×AV:=match x,y with
 | .int k a,.int k' b=>(k=k'/\(binI op k a b).1,(binI op k a b).2)
 | .str a,.str b=>binS op a b
 | _,_=>(False,.junk)
def binVBx (op:BinOp) (x y:AV):Option AV:=match x,y with
 | .int k a,.int k' b=>bif decide (k=k') then binIB op k a b else none
 | .str a,.str b=>binSB op a b
 | _,_=>none
def binVB (op:BinOp) (x y:AV):Option AV :=
 match op with
 | .shl=>(match x,y with | .int k a,.int _ b=>Zt (decide (0<=b)) (.int k (k.wrap (a*2 ^ (min b.toNat k.bits)))) | _,_=>none)
 | .shr=>(match x,y with | .int k a,.int _ b=>Zt (decide (0<=b)) (.int k (a.fdiv (2 ^ (min b.toNat k.bits)))) | _,_=>none)
 | op=>binVBx op x y
theorem binV_x {op:BinOp} {x y:AV} (hop:op≠.shl/\op≠.shr):binV op x y=binVx op x y:=by
 cases op<;>first | rfl | simp at hop
theorem binVB_x {op:BinOp} {x y:AV} (hop:op≠.shl/\op≠.shr):binVB op x y=binVBx op x y:=by
 cases op<;>first | rfl | simp at hop
theorem binIB_ok {op:BinOp} {k:IntKind} {a b:Int} {v:AV} (h:binIB op k a b=some v):(binI op k a b).1/\(binI op k a b).2=v:=by
 cases op<;>simp only [binIB,binI] at h |-<;>first
  | (cases h;exact ⟨trivial,rfl⟩)
  | (obtain ⟨h1,h2⟩:=Qo h;exact ⟨by simpa using h1,h2⟩)
  | cases h
theorem eqS_eq (a b:ByteArray):eqS a b=(a.toList==b.toList):=by
 simp [eqS,ByteArray.toList_eq]
theorem append_eq (a b:ByteArray):a++b=⟨a.data++b.data⟩:=by
 cases a;cases b;apply ByteArray.ext;simp
theorem binSB_ok {op:BinOp} {a b:ByteArray} {v:AV} (h:binSB op a b=some v):(binS op a b).1/\(binS op a b).2=v:=by
 cases op<;>simp only [binSB,binS] at h |-<;>first
  | (cases h;done)
  | (cases h;refine ⟨trivial,?_⟩;rw [eqS_eq];done)
  | (obtain ⟨h1,h2⟩:=Qo h;exact ⟨by simpa using h1,by rw [append_eq];exact h2⟩)
theorem binVB_ok {op:BinOp} {x y:AV} {v:AV} (h:binVB op x y=some v):(binV op x y).1/\(binV op x y).2=v:=by
 have gen:(op≠.shl/\op≠.shr)->(binV op x y).1/\(binV op x y).2=v:=fun hop=>by
  rw [binV_x hop]
  rw [binVB_x hop] at h
  unfold binVBx at h
  split at h
  ·rename_i k a k' b
   by_cases hk:k=k'
   ·simp [hk] at h
    have:=binIB_ok h
    exact ⟨⟨hk,by rw [hk];exact this.1⟩,by simp only [binVx,hk];exact this.2⟩
   ·simp [hk] at h
  ·exact binSB_ok h
  ·cases h
 cases op
 case shl =>
  simp only [binVB,binV] at h |-
  split at h
  ·obtain ⟨h1,h2⟩:=Qo h
   exact ⟨by simpa using h1,h2⟩
  ·cases h
 case shr =>
  simp only [binVB,binV] at h |-
  split at h
  ·obtain ⟨h1,h2⟩:=Qo h
   exact ⟨by simpa using h1,h2⟩
  ·cases h
 all_goals exact gen (by simp)
def fillB (cs:List AV):List (Nat×Nat×AV)->Option (List AV)
 | []=>some cs
 | (off,size,a)::r=>bif bare a&&((cellsOf a).length==size)&&Nat.ble (off+size) cs.length then fillB (setA cs off (cellsOf a)) r else none
theorem fillB_ok:∀ {l:List (Nat×Nat×AV)} {cs ds:List AV},fillB cs l=some ds->(Qah cs l).1/\(Qah cs l).2=ds
 | [],_,_,h=>⟨trivial,by cases h;rfl⟩
 | (off,size,a)::r,cs,ds,h=>by
  simp only [fillB] at h
  cases hb:(bare a&&((cellsOf a).length==size)&&Nat.ble (off+size) cs.length) with
  | false=>simp [hb] at h
  | true =>
   simp [hb] at h
   have ih:=fillB_ok h
   simp only [Bool.and_eq_true,beq_iff_eq] at hb
   exact ⟨⟨hb.1.1,hb.1.2,Nat.le_of_ble_eq_true hb.2,ih.1⟩,ih.2⟩
def cutB (agg:Bool) (n:Nat) (cs:List AV):Option AV:=Zt (((cs.take n).length==n)&&(agg||n==1)) (bif agg then .agg (cs.take n) else cs.getD 0 .junk)
theorem cutB_ok {agg:Bool} {n:Nat} {cs:List AV} {v:AV} (h:cutB agg n cs=some v):(Zl agg n cs).1/\(Zl agg n cs).2=v:=by
 obtain ⟨h1,h2⟩:=Qo h
 simp only [Bool.and_eq_true,beq_iff_eq,Bool.or_eq_true] at h1
 refine ⟨⟨h1.1,fun h=>?_⟩,?_⟩
 ·rcases h1.2 with h2 | h2
  ·rw [h] at h2;cases h2
  ·exact h2
 ·cases agg<;>exact h2
def appB (sz bytes:Nat) (rows rows2:List (List AV)):Bool:=(rows++rows2).all (fun row=>row.length==sz)&&Nat.ble ((3*(rows.length+rows2.length)+4000)*bytes) 562949953421312
theorem appB_ok {sz bytes:Nat} {rows rows2:List (List AV)} (h:appB sz bytes rows rows2=true):(∀ row∈rows++rows2,row.length=sz)/\(3*(rows.length+rows2.length)+4000)*bytes<=562949953421312:=by
 simp only [appB,Bool.and_eq_true,List.all_eq_true,beq_iff_eq] at h
 exact ⟨h.1,Nat.le_of_ble_eq_true h.2⟩
def eqFB:AV->AV->Bool
 | .bool a,.bool b=>a==b
 | .int _ a,.int _ b=>a==b
 | .str a,.str b=>eqS a b
 | _,_=>false
def eqFsB:List AV->List AV->Bool
 | a::as,b::bs=>eqFB a b&&eqFsB as bs
 | _,_=>true
theorem eqFB_eq (a b:AV):eqFB a b=eqF a b:=by
 cases a<;>cases b<;>first | rfl | exact eqS_eq _ _
theorem eqFsB_eq:∀ (as bs:List AV),eqFsB as bs=eqFs as bs
 | [],_=>by cases ‹List AV›<;>rfl
 | _::_,[]=>rfl
 | a::as,b::bs=>by simp only [eqFsB,eqFs,eqFB_eq,eqFsB_eq as bs]
def Vy (e:Opd->AV) (m:AM):SOp->Option AV
 | .mv x=>some (e x)
 | .pick c a b=>(match asB (e c),asB (e a),asB (e b) with
  | some (g0,c),some (g1,x),some (g2,y)=>Zt (g0&&(bif c then g1 else g2)) (.bool (bif c then x else y))
  | _,_,_=>none)
 | .build zs parts=>(match fillB zs (parts.map fun p=>(p.1,p.2.1,e p.2.2)) with | some cs=>some (.agg cs) | none=>none)
 | .bsl sz len parts=>(match fillB (List.replicate (len*sz) .junk) (parts.map fun p=>(p.1*sz,sz,e p.2)) with
  | some q=>Zt (q.all Qs&&!(q.any (Zj 6))) (.sl .full (chunk sz len (q.map (cvn m 6))))
  | none=>none)
 | .load agg n x=>(match e x with
  | .ptr id o=>cutB agg n ((m.boxes.getD id []).drop o)
  | .ep row o=>cutB agg n (row.drop o)
  | _=>none)
 | .faddr off x=>(match e x with
  | .ptr id o=>some (.ptr id (o+off))
  | .ep row o=>some (.ep row (o+off))
  | _=>none)
 | .fld agg off n x=>(match e x with
  | .agg cs=>cutB agg n (cs.drop off)
  | _=>none)
 | .iaddr sz x i=>(match e x,e i with
  | .sl _ rows,.int _ i=>Zt (decide (0<=i)&&decide (i < rows.length)&&((rows.getD i.toNat []).length==sz)) (.ep (rows.getD i.toNat []) 0)
  | .bs id off len sz',.int _ i=>Zt (decide (0<=i)&&decide (i < len)&&(sz'==sz)) (.ptr id (off+i.toNat*sz))
  | _,_=>none)
 | .iaddrA len sz x i=>(match e x,e i with
  | .ptr id o,.int _ i=>Zt (decide (0<=i)&&decide (i < len)) (.ptr id (o+i.toNat*sz))
  | .ep row o,.int _ i=>Zt (decide (0<=i)&&decide (i < len)) (.ep row (o+i.toNat*sz))
  | _,_=>none)
 | .idxS x i=>(match e x,e i with
  | .str s,.int _ i=>Zt (decide (0<=i)&&decide (i < s.size)) (.int .u8 (s.data.toList.getD i.toNat 0).toNat)
  | _,_=>none)
 | .idxA agg n sz x i=>(match e x,e i with
  | .agg cs,.int _ i=>bif decide (0<=i)&&decide (i < n) then cutB agg sz (cs.drop (i.toNat*sz)) else none
  | _,_=>none)
 | .bin op x y=>binVB op (e x) (e y)
 | .binB op x y=>(match op,e x,e y with
  | .eql,.bool a,.bool b=>some (.bool (a==b))
  | .neq,.bool a,.bool b=>some (.bool (!(a==b)))
  | _,_,_=>none)
 | .un op x=>(match op,e x with
  | .not,.bool b=>some (.bool (!b))
  | .neg,.int k n=>some (.int k (k.wrap (0 - n)))
  | .xor,.int k n=>some (.int k (k.wrap (BitVec.ofInt k.bits (if k.signed then -1 else k.max) ^^^ BitVec.ofInt k.bits n).toNat))
  | _,_=>none)
 | .conv k x=>(match e x with
  | .int _ n=>some (.int k (k.wrap n))
  | _=>none)
 | .len x=>(match e x with
  | .sl _ rows=>some (.int .i64 rows.length)
  | .bs _ _ len _=>some (.int .i64 len)
  | _=>none)
 | .lenS x=>(match e x with
  | .str s=>some (.int .i64 s.size)
  | _=>none)
 | .mn x y=>(match e x,e y with
  | .int k a,.int _ b=>some (.int k (if b < a then b else a))
  | _,_=>none)
 | .mx x y=>(match e x,e y with
  | .int k a,.int _ b=>some (.int k (if a < b then b else a))
  | _,_=>none)
 | .mm3 big x y z=>(match e x,e y,e z with
  | .int k a,.int _ b,.int _ c=>some (.int k (mm2 big (mm2 big a b) c))
  | _,_,_=>none)
 | .mkfn f first cap=>some (.fn f (first.map e) (cap.map e))
 | .ext x i=>(match e x with
  | .tup vs=>Zt (Nat.ble (i+1) vs.length) (vs.getD i .junk)
  | _=>none)
 | .app sz bytes s x=>(match e s,e x with
  | .sl rt rows,.sl _ rows2=>Zt (Yl rt&&appB sz bytes rows rows2) (.sl .ro (rows++rows2))
  | _,_=>none)
 | .slS x lo hi=>(match e x,lo.map e,hi.map e with
  | .str s,some (.int _ l),some (.int _ h)=>Zt (decide (0<=l)&&decide (l<=h)&&decide (h<=s.size)) (.str (s.extract l.toNat h.toNat))
  | .str s,none,some (.int _ h)=>Zt (decide (0<=h)&&decide (h<=s.size)) (.str (s.extract 0 h.toNat))
  | .str s,some (.int _ l),none=>Zt (decide (0<=l)&&decide (l<=s.size)) (.str (s.extract l.toNat s.size))
  | _,_,_=>none)
 | .nilc x=>(match e x with
  | .ptr id o=>some (.ptr id o)
  | .ep row o=>some (.ep row o)
  | .fn f first cap=>some (.fn f first cap)
  | _=>none)
 | .nilS neg x=>(match e x with
  | .sl .nil _=>some (.bool (!neg))
  | .sl .nn _=>some (.bool neg)
  | .sl _ (_::_)=>some (.bool neg)
  | .bs _ _ _ _=>some (.bool neg)
  | _=>none)
 | .b2s x=>(match e x with
  | .sl _ rows=>(match Yr rows with
   | some l=>some (.str ⟨l.toArray⟩)
   | none=>none)
  | .bs id off len sz=>(match Yr (chunk 1 len ((m.boxes.getD id []).drop off)) with
   | some l=>Zt ((sz==1)&&Nat.ble (off+len) (m.boxes.getD id []).length) (.str ⟨l.toArray⟩)
   | none=>none)
  | _=>none)
 | .eqA neg ks x y=>(match e x,e y with
  | .agg xs,.agg ys=>Zt (Km ks xs ys) (.bool (bif neg then !(eqFsB xs ys) else eqFsB xs ys))
  | _,_=>none)
 | .slL sz x lo hi=>(match e x with
  | .sl _ rows=>(match loOf (lo.map e),hiOf rows.length (hi.map e) with
   | some l,some h=>Zt (decide (0<=l)&&decide (l<=h)&&decide (h<=rows.length)&&rows.all (fun row=>row.length==sz)) (.sl .ro ((rows.drop l.toNat).take (h.toNat - l.toNat)))
   | _,_=>none)
  | .bs id off len sz'=>(match loOf (lo.map e),hiOf len (hi.map e) with
   | some l,some h=>Zt (decide (0<=l)&&decide (l<=h)&&decide (h<=len)&&(sz'==sz)) (bif decide (l < h)||decide (l=0) then .bs id (off+l.toNat*sz) (h.toNat - l.toNat) sz else .sl .nn [])
   | _,_=>none)
  | _=>none)
 | .slA n sz x lo hi=>(match e x with
  | .ptr id o=>(match loOf (lo.map e),hiOf n (hi.map e) with
   | some l,some h=>Zt (decide (0<=l)&&decide (l<=h)&&decide (h<=n)&&Nat.ble (o+n*sz) (m.boxes.getD id []).length&&Nat.ble (id+1) m.boxes.length) (bif decide (l < h)||decide (l=0) then .bs id (o+l.toNat*sz) (h.toNat - l.toNat) sz else .sl .nn [])
   | _,_=>none)
  | _=>none)
 | .look kn ok z x k=>(match e x,keyA kn (e k) with
  | .mp id,some n=>(match m.boxes.getD id [] with
   | [.mobj kn' kvs]=>Zt (kn'==kn) (match Qx n kvs 0 with
    | some (_,a)=>(if ok then .tup [a,.bool true] else a)
    | none=>(if ok then .tup [z,.bool false] else z))
   | _=>none)
  | _,_=>none)
 | .entr x=>(match e x with
  | .it id=>(match m.boxes.getD id [] with
   | [.mitr mid n seen]=>(match m.boxes.getD mid [],seen.getLast? with
    | [.mobj kn kvs],some i=>Zt ((kvs.length==n)&&Nat.ble (i+1) n) (.tup [keyAV kn (kvs.getD i ([],.junk)).1,(kvs.getD i ([],.junk)).2])
    | _,_=>none)
   | _=>none)
  | _=>none)
 | _=>none
theorem ropB_ok {P:Program} {gl:Nat->AV} {orc:Nat->FuncId->List AV->AV} {dst:Option Nat} {e:Opd->AV} {m:AM} {so:SOp} {v:AV} (h:Vy e m so=some v):(rop P gl orc e m dst so).1/\(rop P gl orc e m dst so).2=v:=by
 cases so with
 | pick c a b =>
  simp only [Vy,rop] at h |-
  generalize asB (e c)=X0 at h |-
  generalize asB (e a)=X1 at h |-
  generalize asB (e b)=X2 at h |-
  split at h
  ·obtain ⟨h1,h2⟩:=Qo h
   rename_i g0 c g1 x g2 y
   rw [Bool.and_eq_true] at h1
   refine ⟨⟨h1.1,fun hc=>?_,fun hc=>?_⟩,h2⟩<;>simpa [hc] using h1.2
  ·cases h
 | build zs parts =>
  simp only [Vy,rop] at h |-
  split at h
  ·rename_i cs hf
   cases h
   have:=fillB_ok hf
   exact ⟨this.1,by rw [this.2]⟩
  ·cases h
 | bsl sz len parts =>
  simp only [Vy,rop] at h |-
  split at h
  ·rename_i cs hf
   obtain ⟨h1,h2⟩:=Qo h
   have:=fillB_ok hf
   simp only [Bool.and_eq_true,Bool.not_eq_true'] at h1
   rw [this.2]
   exact ⟨⟨this.1,h1.1,h1.2⟩,h2⟩
  ·cases h
 | idxA agg n sz x i =>
  simp only [Vy,rop] at h |-
  generalize e x=X0 at h |-
  generalize e i=X1 at h |-
  split at h
  ·rename_i cs k i
   cases hb:(decide (0<=i)&&decide (i < (n:Int))) with
   | false=>simp [hb] at h
   | true =>
    simp only [hb,cond_true] at h
    simp only [Bool.and_eq_true,decide_eq_true_eq] at hb
    have:=cutB_ok h
    exact ⟨⟨hb,this.1⟩,this.2⟩
  ·cases h
 | bin op x y=>exact binVB_ok h
 | load agg n x =>
  simp only [Vy,rop] at h |-
  generalize e x=X0 at h |-
  split at h
  ·exact cutB_ok h
  ·exact cutB_ok h
  ·cases h
 | fld agg off n x =>
  simp only [Vy,rop] at h |-
  generalize e x=X0 at h |-
  split at h
  ·exact cutB_ok h
  ·cases h
 | binB op x y =>
  simp only [Vy,rop,binBool] at h |-
  generalize e x=X0 at h |-
  generalize e y=X1 at h |-
  split at h
  ·cases h;exact ⟨trivial,rfl⟩
  ·cases h;exact ⟨trivial,rfl⟩
  ·cases h
 | app sz bytes s x =>
  simp only [Vy,rop] at h |-
  generalize e s=X0 at h |-
  generalize e x=X1 at h |-
  split at h
  ·obtain ⟨h1,h2⟩:=Qo h
   simp only [Bool.and_eq_true] at h1
   exact ⟨⟨h1.1,appB_ok h1.2⟩,h2⟩
  ·cases h
 | b2s x =>
  simp only [Vy,rop] at h |-
  generalize e x=X0 at h |-
  split at h
  ·split at h
   ·rename_i l hl
    cases h
    simp [hl]
   ·cases h
  ·split at h
   ·rename_i l hl
    obtain ⟨h1,h2⟩:=Qo h
    simp only [Bool.and_eq_true,beq_iff_eq] at h1
    simp only [hl]
    exact ⟨⟨h1.1,Nat.le_of_ble_eq_true h1.2⟩,h2⟩
   ·cases h
  ·cases h
 | look kn ok z x k =>
  simp only [Vy,rop] at h |-
  generalize e x=X0 at h |-
  generalize keyA kn (e k)=X1 at h |-
  split at h
  ·split at h
   ·rename_i kvs hb
    obtain ⟨h1,h2⟩:=Qo h
    simp only [hb]
    exact ⟨by simpa using h1,h2⟩
   ·cases h
  ·cases h
 | entr x =>
  simp only [Vy,rop] at h |-
  generalize e x=X0 at h |-
  split at h
  ·split at h
   ·rename_i mid n seen hb
    simp only [hb]
    generalize m.boxes.getD mid []=X1 at h |-
    generalize seen.getLast? = X2 at h |-
    split at h
    ·obtain ⟨h1,h2⟩:=Qo h
     simp only [Bool.and_eq_true,beq_iff_eq] at h1
     exact ⟨⟨h1.1,Nat.le_of_ble_eq_true h1.2⟩,h2⟩
    ·cases h
   ·cases h
  ·cases h
 | eqA neg ks x y =>
  simp only [Vy,rop] at h |-
  generalize e x=X0 at h |-
  generalize e y=X1 at h |-
  split at h
  ·obtain ⟨h1,h2⟩:=Qo h
   refine ⟨h1,?_⟩
   rw [<- h2,eqFsB_eq]
   cases neg<;>rfl
  ·cases h
 | slL sz x lo hi =>
  simp only [Vy,rop] at h |-
  generalize e x=X0 at h |-
  generalize lo.map e=X1 at h |-
  generalize hi.map e=X2 at h |-
  split at h
  ·split at h
   ·rename_i l h' e1 e2
    obtain ⟨h1,h2⟩:=Qo h
    simp only [Bool.and_eq_true,decide_eq_true_eq,List.all_eq_true,beq_iff_eq] at h1
    simp only [e1,e2]
    exact ⟨⟨⟨h1.1.1.1,h1.1.1.2,h1.1.2⟩,h1.2⟩,h2⟩
   ·cases h
  ·split at h
   ·rename_i l h' e1 e2
    obtain ⟨h1,h2⟩:=Qo h
    simp only [Bool.and_eq_true,decide_eq_true_eq,beq_iff_eq] at h1
    simp only [e1,e2]
    refine ⟨⟨⟨h1.1.1.1,h1.1.1.2,h1.1.2⟩,h1.2⟩,?_⟩
    rw [<- h2]
    by_cases hc:l < h'\/l=0
    ·have hd:(decide (l < h')||decide (l=0))=true:=by simpa using hc
     rw [if_pos hc,hd];rfl
    ·have hd:(decide (l < h')||decide (l=0))=false:=by simpa using hc
     rw [if_neg hc,hd];rfl
   ·cases h
  ·cases h
 | slA n sz x lo hi =>
  simp only [Vy,rop] at h |-
  generalize e x=X0 at h |-
  generalize lo.map e=X1 at h |-
  generalize hi.map e=X2 at h |-
  split at h
  ·split at h
   ·rename_i l h' e1 e2
    obtain ⟨h1,h2⟩:=Qo h
    simp only [Bool.and_eq_true,decide_eq_true_eq] at h1
    simp only [e1,e2]
    refine ⟨⟨⟨h1.1.1.1.1,h1.1.1.1.2,h1.1.1.2⟩,Nat.le_of_ble_eq_true h1.1.2,Nat.le_of_ble_eq_true h1.2⟩,?_⟩
    rw [<- h2]
    by_cases hc:l < h'\/l=0
    ·have hd:(decide (l < h')||decide (l=0))=true:=by simpa using hc
     rw [if_pos hc,hd];rfl
    ·have hd:(decide (l < h')||decide (l=0))=false:=by simpa using hc
     rw [if_neg hc,hd];rfl
   ·cases h
  ·cases h
 | ext x i =>
  simp only [Vy,rop] at h |-
  generalize e x=X0 at h |-
  split at h
  ·obtain ⟨h1,h2⟩:=Qo h
   exact ⟨Nat.le_of_ble_eq_true h1,h2⟩
  ·cases h
 | mv x=>cases h;exact ⟨trivial,rfl⟩
 | mkfn f a b=>cases h;exact ⟨trivial,rfl⟩
 | iaddr sz x i =>
  simp only [Vy,rop] at h |-
  generalize e x=X0 at h |-
  generalize e i=X1 at h |-
  split at h
  ·obtain ⟨h1,h2⟩:=Qo h
   simp only [Bool.and_eq_true,decide_eq_true_eq,beq_iff_eq] at h1
   exact ⟨h1,h2⟩
  ·obtain ⟨h1,h2⟩:=Qo h
   simp only [Bool.and_eq_true,decide_eq_true_eq,beq_iff_eq] at h1
   exact ⟨h1,h2⟩
  ·cases h
 | slS x lo hi =>
  simp only [Vy,rop] at h |-
  generalize e x=X0 at h |-
  generalize lo.map e=X1 at h |-
  generalize hi.map e=X2 at h |-
  split at h
  ·obtain ⟨h1,h2⟩:=Qo h
   simp only [Bool.and_eq_true,decide_eq_true_eq] at h1
   exact ⟨⟨h1.1.1,h1.1.2,h1.2⟩,h2⟩
  ·obtain ⟨h1,h2⟩:=Qo h
   simp only [Bool.and_eq_true,decide_eq_true_eq] at h1
   exact ⟨h1,h2⟩
  ·obtain ⟨h1,h2⟩:=Qo h
   simp only [Bool.and_eq_true,decide_eq_true_eq] at h1
   exact ⟨h1,h2⟩
  ·cases h
 | nilS neg x =>
  simp only [Vy,rop] at h |-
  generalize e x=X0 at h |-
  split at h
  ·cases h;exact ⟨trivial,rfl⟩
  ·cases h;exact ⟨trivial,rfl⟩
  ·rename_i rt _ _ h1 h2
   cases h
   cases rt<;>first | exact ⟨trivial,rfl⟩ | exact (h1 _ rfl).elim | exact (h1 rfl).elim | exact (h2 rfl).elim
  ·cases h;exact ⟨trivial,rfl⟩
  ·cases h
 | faddr off x =>
  simp only [Vy,rop] at h |-
  generalize e x=X0 at h |-
  first
   | (cases h;done)
   | (split at h<;>first
    | (cases h;done)
    | (cases h;exact ⟨trivial,rfl⟩)
    | (obtain ⟨h1,h2⟩:=Qo h;simp only [Bool.and_eq_true,decide_eq_true_eq] at h1;exact ⟨h1,h2⟩))
 | iaddrA len sz x i =>
  simp only [Vy,rop] at h |-
  generalize e x=X0 at h |-
  generalize e i=X1 at h |-
  first
   | (cases h;done)
   | (split at h<;>first
    | (cases h;done)
    | (cases h;exact ⟨trivial,rfl⟩)
    | (obtain ⟨h1,h2⟩:=Qo h;simp only [Bool.and_eq_true,decide_eq_true_eq] at h1;exact ⟨h1,h2⟩))
 | idxS x i =>
  simp only [Vy,rop] at h |-
  generalize e x=X0 at h |-
  generalize e i=X1 at h |-
  first
   | (cases h;done)
   | (split at h<;>first
    | (cases h;done)
    | (cases h;exact ⟨trivial,rfl⟩)
    | (obtain ⟨h1,h2⟩:=Qo h;simp only [Bool.and_eq_true,decide_eq_true_eq] at h1;exact ⟨h1,h2⟩))
 | un op x =>
  simp only [Vy,rop] at h |-
  generalize e x=X0 at h |-
  first
   | (cases h;done)
   | (split at h<;>first
    | (cases h;done)
    | (cases h;exact ⟨trivial,rfl⟩)
    | (obtain ⟨h1,h2⟩:=Qo h;simp only [Bool.and_eq_true,decide_eq_true_eq] at h1;exact ⟨h1,h2⟩))
 | conv k x =>
  simp only [Vy,rop] at h |-
  generalize e x=X0 at h |-
  first
   | (cases h;done)
   | (split at h<;>first
    | (cases h;done)
    | (cases h;exact ⟨trivial,rfl⟩)
    | (obtain ⟨h1,h2⟩:=Qo h;simp only [Bool.and_eq_true,decide_eq_true_eq] at h1;exact ⟨h1,h2⟩))
 | len x =>
  simp only [Vy,rop] at h |-
  generalize e x=X0 at h |-
  first
   | (cases h;done)
   | (split at h<;>first
    | (cases h;done)
    | (cases h;exact ⟨trivial,rfl⟩)
    | (obtain ⟨h1,h2⟩:=Qo h;simp only [Bool.and_eq_true,decide_eq_true_eq] at h1;exact ⟨h1,h2⟩))
 | lenS x =>
  simp only [Vy,rop] at h |-
  generalize e x=X0 at h |-
  first
   | (cases h;done)
   | (split at h<;>first
    | (cases h;done)
    | (cases h;exact ⟨trivial,rfl⟩)
    | (obtain ⟨h1,h2⟩:=Qo h;simp only [Bool.and_eq_true,decide_eq_true_eq] at h1;exact ⟨h1,h2⟩))
 | mn x y =>
  simp only [Vy,rop] at h |-
  generalize e x=X0 at h |-
  generalize e y=X1 at h |-
  first
   | (cases h;done)
   | (split at h<;>first
    | (cases h;done)
    | (cases h;exact ⟨trivial,rfl⟩)
    | (obtain ⟨h1,h2⟩:=Qo h;simp only [Bool.and_eq_true,decide_eq_true_eq] at h1;exact ⟨h1,h2⟩))
 | mx x y =>
  simp only [Vy,rop] at h |-
  generalize e x=X0 at h |-
  generalize e y=X1 at h |-
  first
   | (cases h;done)
   | (split at h<;>first
    | (cases h;done)
    | (cases h;exact ⟨trivial,rfl⟩)
    | (obtain ⟨h1,h2⟩:=Qo h;simp only [Bool.and_eq_true,decide_eq_true_eq] at h1;exact ⟨h1,h2⟩))
 | mm3 big x y z =>
  simp only [Vy,rop] at h |-
  generalize e x=X0 at h |-
  generalize e y=X1 at h |-
  generalize e z=X2 at h |-
  split at h
  ·cases h;exact ⟨trivial,rfl⟩
  ·cases h
 | nilc x =>
  simp only [Vy,rop] at h |-
  generalize e x=X0 at h |-
  first
   | (cases h;done)
   | (split at h<;>first
    | (cases h;done)
    | (cases h;exact ⟨trivial,rfl⟩)
    | (obtain ⟨h1,h2⟩:=Qo h;simp only [Bool.and_eq_true,decide_eq_true_eq] at h1;exact ⟨h1,h2⟩))
 | _=>cases h
def cellsB (m:AM) (sz:Nat):AV->Option (List AV)
 | .sl _ rows=>Zt (rows.all (fun row=>row.length==sz)) rows.flatten
 | .bs id off len sz'=>Zt ((sz'==sz)&&Nat.ble (off+len*sz) (m.boxes.getD id []).length&&Nat.ble (id+1) m.boxes.length) (((m.boxes.getD id []).drop off).take (len*sz))
 | _=>none
theorem cellsB_ok {m:AM} {sz:Nat} {y:AV} {l:List AV} (h:cellsB m sz y=some l):(cellsS m sz y).1/\(cellsS m sz y).2=l:=by
 cases y<;>simp only [cellsB] at h<;>first | (cases h;done) | skip
 ·obtain ⟨h1,h2⟩:=Qo h
  exact ⟨by simpa [cellsS] using h1,h2⟩
 ·obtain ⟨h1,h2⟩:=Qo h
  simp only [Bool.and_eq_true,beq_iff_eq] at h1
  exact ⟨⟨h1.1.1,Nat.le_of_ble_eq_true h1.1.2,Nat.le_of_ble_eq_true h1.2⟩,h2⟩
def neB:List AV->Bool
 | []=>false
 | _=>true
theorem neB_ok {l:List AV} (h:neB l=true):l≠[]:=by rintro rfl;cases h
def sopB (mu:Bool) (e:Opd->AV) (m:AM):SOp->Option (AV×AM)
 | .alloc zs=>Zt (zs.all Qs) (.ptr m.boxes.length 0,{ m with boxes:=m.boxes++[zs] })
 | .box x=>Zt (bare (e x)&&(cellsOf (e x)).all Qs) (.ptr m.boxes.length 0,{ m with boxes:=m.boxes++[cellsOf (e x)] })
 | .store n x v=>(match e x with
  | .ptr id o=>Zt (bare (e v)&&(cellsOf (e v)).all Qs&&((cellsOf (e v)).length==n)&&Nat.ble (o+n) (m.boxes.getD id []).length&&Nat.ble (id+1) m.boxes.length)
    (.junk,{ m with boxes:=m.boxes.set id (setA (m.boxes.getD id []) o (cellsOf (e v))) })
  | _=>none)
 | .app sz bytes s x=>(match e s,e x with
  | .sl (.own id sz') rows,.sl _ rows2=>Zt ((sz'==sz)&&(match m.lens[id]? with | some n=>n==rows.length | none=>false)&&appB sz bytes rows rows2) (.sl (.own id sz) (rows++rows2),{ m with lens:=m.lens.set id (rows.length+rows2.length) })
  | .bs id off len sz',y=>(match cellsB m sz y with
   | some cs=>Zt ((sz'==sz)&&(off==0)&&Nat.ble (id+1) m.boxes.length&&neB (m.boxes.getD id [])&&Nat.ble (len*sz) (m.boxes.getD id []).length&&Nat.ble ((3*(len+lenS y)+4000)*bytes) 562949953421312)
    (.bs m.boxes.length 0 (len+lenS y) sz,{ m with boxes:=m.boxes.set id []++[(m.boxes.getD id []).take (len*sz)++cs] })
   | none=>none)
  | .sl rt rows,y=>(bif mu then (match cellsB m sz y with
    | some cs=>Zt (Yl rt&&!(Nat.beq (lenS y) 0)&&rows.all (fun row=>row.length==sz)&&Nat.ble ((3*(rows.length+lenS y)+4000)*bytes) 562949953421312)
     (.bs m.boxes.length 0 (rows.length+lenS y) sz,{ m with boxes:=m.boxes++[rows.flatten++cs] })
    | none=>none)
   else (match y with
    | .sl _ rows2=>Zt (Yl rt&&appB sz bytes rows rows2) (.sl (.own m.lens.length sz) (rows++rows2),{ m with lens:=m.lens++[rows.length+rows2.length] })
    | _=>none))
  | _,_=>none)
 | .bsl sz len parts=>(bif mu then (match fillB (List.replicate (len*sz) .junk) (parts.map fun p=>(p.1*sz,sz,e p.2)) with
   | some q=>Zt (q.all Qs) (.bs m.boxes.length 0 len sz,{ m with boxes:=m.boxes++[q] })
   | none=>none)
  else (match Vy e m (.bsl sz len parts) with | some v=>some (v,m) | none=>none))
 | .mks sz bytes zs l c=>(match e l,e c with
  | .int _ l,.int _ c=>Zt (decide (0<=l)&&decide (l<=c)&&decide (bytes*c<=281474976710656)&&decide (c<=9223372036854775807)&&(zs.length==sz)&&zs.all Qs) (.bs m.boxes.length 0 l.toNat sz,{ m with boxes:=m.boxes++[fills c.toNat zs] })
  | _,_=>none)
 | .cpy sz x y=>(match e x with
  | .bs id off len sz'=>(match e y with
   | .str s=>Zt ((sz'==1)&&(sz==1)&&Nat.ble (id+1) m.boxes.length&&Nat.ble (off+len) (m.boxes.getD id []).length&&neB (m.boxes.getD id [])) (.int .i64 (min s.size len:Nat),{ m with boxes:=m.boxes.set id (setA (m.boxes.getD id []) off ((s.data.toList.take len).map fun b=>.int .u8 b.toNat)) })
   | y=>(match cellsB m sz y with
    | some cs=>Zt ((sz'==sz)&&Nat.ble (id+1) m.boxes.length&&Nat.ble (off+len*sz) (m.boxes.getD id []).length&&neB (m.boxes.getD id [])) (.int .i64 (min (lenS y) len:Nat),{ m with boxes:=m.boxes.set id (setA (m.boxes.getD id []) off (cs.take (len*sz))) })
    | none=>none))
  | _=>none)
 | .clr zs x=>(match e x with
  | .bs id off len sz'=>Zt ((sz'==zs.length)&&zs.all Qs&&Nat.ble (id+1) m.boxes.length&&Nat.ble (off+len*zs.length) (m.boxes.getD id []).length&&neB (m.boxes.getD id [])) (.tup [],{ m with boxes:=m.boxes.set id (setA (m.boxes.getD id []) off (fills len zs)) })
  | .sl _ []=>some (.tup [],m)
  | _=>none)
 | .mkmap kn=>some (.mp m.boxes.length,{ m with boxes:=m.boxes++[[.mobj kn []]] })
 | .mupd kn x k v=>(match e x,keyA kn (e k) with
  | .mp id,some n=>(match m.boxes.getD id [] with
   | [.mobj kn' kvs]=>Zt ((kn'==kn)&&bare (e v)) (.junk,{ m with boxes:=m.boxes.set id [.mobj kn (match Qx n kvs 0 with
    | some (i,_)=>kvs.set i (n,e v)
    | none=>kvs++[(n,e v)])] })
   | _=>none)
  | _,_=>none)
 | .ment kn z x k=>(match e x,keyA kn (e k) with
  | .mp id,some n=>(match m.boxes.getD id [] with
   | [.mobj kn' kvs]=>Zt (kn'==kn) ((match Qx n kvs 0 with
    | some (i,c)=>.tup [c,.int .i64 i]
    | none=>.tup [z,.int .i64 kvs.length]),{ m with boxes:=m.boxes.set id [.mobj kn (match Qx n kvs 0 with
    | some _=>kvs
    | none=>kvs++[(n,z)])] })
   | _=>none)
  | _,_=>none)
 | .esto x s v=>(match e x,e s with
  | .mp id,.int _ i=>(match m.boxes.getD id [] with
   | [.mobj kn kvs]=>Zt (decide (0<=i)&&decide (i < kvs.length)&&bare (e v)) (.junk,{ m with boxes:=m.boxes.set id [.mobj kn (kvs.set i.toNat ((kvs.getD i.toNat ([],.junk)).1,e v))] })
   | _=>none)
  | _,_=>none)
 | .rng x=>(match e x with
  | .mp id=>(match m.boxes.getD id [] with
   | [.mobj _ kvs]=>some (.it m.boxes.length,{ m with boxes:=m.boxes++[[.mitr id kvs.length []]] })
   | _=>none)
  | _=>none)
 | .mks0 sz bytes c=>(match e c with
  | .int _ c=>Zt (decide (0<=c)&&decide (bytes*c<=281474976710656)&&decide (c<=9223372036854775807))
    (if mu=true then (if c.toNat=0 then (.sl .full [],{ m with boxes:=m.boxes++[[]] }) else (.bs m.boxes.length 0 0 sz,{ m with boxes:=m.boxes++[List.replicate (c.toNat*sz) .junk] }))
     else (.sl (.own m.lens.length sz) [],{ m with lens:=m.lens++[0] }))
  | _=>none)
 | so=>(match Vy e m so with | some v=>some (v,m) | none=>none)
theorem sopB_ok {P:Program} {gl:Nat->AV} {orc:Nat->FuncId->List AV->AV} {dst:Option Nat} {e:Opd->AV} {m:AM} {so:SOp} {p:AV×AM} {mu:Bool} (hmu:mutO orc dst=mu) (h:sopB mu e m so=some p):(sop P gl orc e m dst so).1/\(sop P gl orc e m dst so).2=p:=by
 have gen:(match Vy e m so with | some v=>some (v,m) | none=>none)=some p->sop P gl orc e m dst so=((rop P gl orc e m dst so).1,(rop P gl orc e m dst so).2,m)->(sop P gl orc e m dst so).1/\(sop P gl orc e m dst so).2=p:=fun h1 h2=>by
  rw [h2]
  split at h1
  ·rename_i v hv
   cases h1
   have:=ropB_ok (P:=P) (gl:=gl) (orc:=orc) (dst:=dst) hv
   exact ⟨this.1,by simp only [this.2]⟩
  ·cases h1
 cases so with
 | alloc zs=>obtain ⟨h1,h2⟩:=Qo h;exact ⟨h1,h2⟩
 | box x=>obtain ⟨h1,h2⟩:=Qo h;simp only [Bool.and_eq_true] at h1;exact ⟨h1,h2⟩
 | store n x v =>
  simp only [sopB,sop] at h |-
  generalize e x=X0 at h |-
  split at h
  ·obtain ⟨h1,h2⟩:=Qo h
   simp only [Bool.and_eq_true,beq_iff_eq] at h1
   exact ⟨⟨h1.1.1.1.1,h1.1.1.1.2,h1.1.1.2,Nat.le_of_ble_eq_true h1.1.2,Nat.le_of_ble_eq_true h1.2⟩,h2⟩
  ·cases h
 | app sz bytes s x =>
  simp only [sopB,sop] at h |-
  generalize e s=X0 at h |-
  generalize e x=X1 at h |-
  split at h
  ·obtain ⟨h1,h2⟩:=Qo h
   simp only [Bool.and_eq_true,beq_iff_eq] at h1
   obtain ⟨⟨h3,h4⟩,h5⟩:=h1
   split at h4
   ·rename_i n hn
    rw [eq_of_beq h4] at hn
    exact ⟨⟨h3,hn,appB_ok h5⟩,h2⟩
   ·cases h4
  ·rename_i id off len sz' y
   split at h
   ·rename_i cs hcs
    obtain ⟨h1,h2⟩:=Qo h
    simp only [Bool.and_eq_true,beq_iff_eq] at h1
    obtain ⟨k1,k2⟩:=cellsB_ok hcs
    refine ⟨⟨⟨⟨h1.1.1.1.1.1,h1.1.1.1.1.2,Nat.le_of_ble_eq_true h1.1.1.1.2,neB_ok h1.1.1.2,Nat.le_of_ble_eq_true h1.1.2⟩,Nat.le_of_ble_eq_true h1.2⟩,k1⟩,?_⟩
    simp only [k2];exact h2
   ·cases h
  ·rename_i y rt rows hno
   cases mu with
   | true =>
    simp only [cond_true] at h
    have hgoal:∀ (q:Prop×AV×AM),(q.1/\q.2=p)->(q.1/\q.2=p):=fun _ h=>h
    split at h
    ·rename_i cs hcs
     obtain ⟨h1,h2⟩:=Qo h
     simp only [Bool.and_eq_true,Bool.not_eq_true',List.all_eq_true,beq_iff_eq] at h1
     obtain ⟨k1,k2⟩:=cellsB_ok hcs
     have hne:lenS X1≠0:=by rintro h0;rw [h0] at h1;simp at h1
     have hfull:=h1.1.1.1
     cases rt with
     | own id sz'=>simp [Yl] at hfull
     | _ =>
      simp only [hmu,if_true]
      exact ⟨⟨⟨hfull,hne,h1.1.2,Nat.le_of_ble_eq_true h1.2⟩,k1⟩,by rw [k2];exact h2⟩
    ·cases h
   | false =>
    simp only [cond_false] at h
    split at h
    ·rename_i rt2 rows2
     obtain ⟨h1,h2⟩:=Qo h
     simp only [Bool.and_eq_true] at h1
     cases rt with
     | own id sz'=>simp [Yl] at h1
     | _ =>
      simp only [hmu,Bool.false_eq_true,if_false]
      exact ⟨⟨h1.1,appB_ok h1.2⟩,h2⟩
    ·cases h
  ·cases h
 | bsl sz len parts =>
  simp only [sopB,sop] at h |-
  cases mu with
  | true =>
   simp only [cond_true] at h
   rw [if_pos hmu]
   split at h
   ·rename_i q hf
    obtain ⟨h1,h2⟩:=Qo h
    have:=fillB_ok hf
    exact ⟨⟨this.1,by rw [this.2];exact h1⟩,by rw [this.2];exact h2⟩
   ·cases h
  | false =>
   simp only [cond_false] at h
   rw [if_neg (by rw [hmu];simp)]
   split at h
   ·rename_i v hv
    cases h
    have:=ropB_ok (P:=P) (gl:=gl) (orc:=orc) (dst:=dst) hv
    exact ⟨this.1,by rw [this.2]⟩
   ·cases h
 | mks sz bytes zs l c =>
  simp only [sopB,sop] at h |-
  generalize e l=X0 at h |-
  generalize e c=X1 at h |-
  split at h
  ·obtain ⟨h1,h2⟩:=Qo h
   simp only [Bool.and_eq_true,decide_eq_true_eq,beq_iff_eq] at h1
   exact ⟨⟨⟨h1.1.1.1.1.1,h1.1.1.1.1.2,h1.1.1.1.2,h1.1.1.2⟩,h1.1.2,h1.2⟩,h2⟩
  ·cases h
 | cpy sz x y =>
  simp only [sopB,sop] at h |-
  generalize e x=X0 at h |-
  generalize e y=X1 at h |-
  split at h
  ·cases X1 with
   | str s =>
    obtain ⟨h1,h2⟩:=Qo h
    simp only [Bool.and_eq_true,beq_iff_eq] at h1
    exact ⟨⟨⟨h1.1.1.1.1,h1.1.1.1.2⟩,Nat.le_of_ble_eq_true h1.1.1.2,Nat.le_of_ble_eq_true h1.1.2,neB_ok h1.2⟩,h2⟩
   | _ =>
    simp only at h |-
    split at h
    ·rename_i cs hcs
     obtain ⟨h1,h2⟩:=Qo h
     simp only [Bool.and_eq_true,beq_iff_eq] at h1
     obtain ⟨k1,k2⟩:=cellsB_ok hcs
     exact ⟨⟨h1.1.1.1,k1,Nat.le_of_ble_eq_true h1.1.1.2,Nat.le_of_ble_eq_true h1.1.2,neB_ok h1.2⟩,by rw [k2];exact h2⟩
    ·cases h
  ·cases h
 | clr zs x =>
  simp only [sopB,sop] at h |-
  generalize e x=X0 at h |-
  split at h
  ·obtain ⟨h1,h2⟩:=Qo h
   simp only [Bool.and_eq_true,beq_iff_eq] at h1
   exact ⟨⟨⟨h1.1.1.1.1,h1.1.1.1.2⟩,Nat.le_of_ble_eq_true h1.1.1.2,Nat.le_of_ble_eq_true h1.1.2,neB_ok h1.2⟩,h2⟩
  ·cases h;exact ⟨trivial,rfl⟩
  ·cases h
 | mkmap kn=>cases h;exact ⟨trivial,rfl⟩
 | mupd kn x k v =>
  simp only [sopB,sop] at h |-
  generalize e x=X0 at h |-
  generalize keyA kn (e k)=X1 at h |-
  split at h
  ·split at h
   ·rename_i kvs hb
    obtain ⟨h1,h2⟩:=Qo h
    simp only [Bool.and_eq_true,beq_iff_eq] at h1
    simp only [hb]
    exact ⟨h1,h2⟩
   ·cases h
  ·cases h
 | ment kn z x k =>
  simp only [sopB,sop] at h |-
  generalize e x=X0 at h |-
  generalize keyA kn (e k)=X1 at h |-
  split at h
  ·split at h
   ·rename_i kvs hb
    obtain ⟨h1,h2⟩:=Qo h
    simp only [hb]
    exact ⟨by simpa using h1,h2⟩
   ·cases h
  ·cases h
 | esto x s v =>
  simp only [sopB,sop] at h |-
  generalize e x=X0 at h |-
  generalize e s=X1 at h |-
  split at h
  ·split at h
   ·rename_i kvs hb
    obtain ⟨h1,h2⟩:=Qo h
    simp only [Bool.and_eq_true,decide_eq_true_eq] at h1
    simp only [hb]
    exact ⟨h1,h2⟩
   ·cases h
  ·cases h
 | rng x =>
  simp only [sopB,sop] at h |-
  generalize e x=X0 at h |-
  split at h
  ·split at h
   ·rename_i kvs hb
    cases h
    simp only [hb]
    first | exact ⟨trivial,rfl⟩ | exact ⟨trivial,trivial⟩ | simp
   ·cases h
  ·cases h
 | mks0 sz bytes c =>
  simp only [sopB,sop] at h |-
  generalize e c=X0 at h |-
  split at h
  ·obtain ⟨h1,h2⟩:=Qo h
   simp only [Bool.and_eq_true,decide_eq_true_eq] at h1
   simp only [hmu]
   cases mu with
   | true =>
    simp only [if_true] at h2 |-
    split at h2
    ·rename_i hc;rw [if_pos hc];exact ⟨⟨h1.1.1,h1.1.2,h1.2⟩,h2⟩
    ·rename_i hc;rw [if_neg hc];exact ⟨⟨h1.1.1,h1.1.2,h1.2⟩,h2⟩
   | false =>
    simp only [Bool.false_eq_true,if_false] at h2 |-
    exact ⟨⟨h1.1.1,h1.1.2,h1.2⟩,h2⟩
  ·cases h
 | _=>exact gen h rfl
end Go.Abs
namespace Go.Abs
open Go Go.RowKit
inductive YE where
 | nil
 | cons (l:Nat) (T:List AV) (ps:List Nat) (asg body:SC) (rest:YE)
structure Rc where
 code:YE->SC->AS->Option (Exit×AS)
 fn:YE->FuncId->List AV->AM->Option (AV×AM)
def xyld (R:Rc) (l:Nat) (args:List AV) (m:AM):YE->Option (Bool×AM)
 | .nil=>none
 | .cons l0 T ps asg body rest=>bif Nat.beq l l0 then
   (match m.st l0,Nat.beq args.length ps.length with
   | .ready,true=>(match R.code rest asg ⟨Jc T ps args,m⟩ with
    | some (.normal,s1)=>(match s1.m.st l0 with
     | .ready=>(match R.code rest body ⟨s1.T,s1.m.at_ l0 .busy⟩ with
      | some (.normal,s2)=>some (true,s2.m.at_ l0 .ready)
      | some (.ret,s2)=>some (false,s2.m.at_ l0 (.done .ret))
      | some (.exit id,s2)=>some (false,s2.m.at_ l0 (.done (.exit id)))
      | _=>none)
     | _=>none)
    | _=>none)
   | _,_=>none)
  else xyld R l args m rest
def nxtB (m:AM):AV->Option (AV×AM)
 | .it id=>(match m.boxes.getD id [] with
  | [.mitr mid n seen]=>(match m.boxes.getD mid [] with
   | [.mobj kn kvs]=>(match (List.range n).filter (fun i=>!seen.contains i) with
    | []=>Zt (kvs.length==n) (.tup [.bool false],m)
    | [i]=>(match kvs[i]? with
     | some (k,c)=>Zt (kvs.length==n) (.tup [.bool true,keyAV kn k,c],{ m with boxes:=m.boxes.set id [.mitr mid n (seen++[i])] })
     | none=>none)
    | _=>none)
   | _=>none)
  | _=>none)
 | _=>none
theorem nxtB_ok {m:AM} {x:AV} {v:AV} {m':AM} (h:nxtB m x=some (v,m')) {K:AV->AM->Prop} (hK:K v m'):vcNxt m K x:=by
 unfold nxtB at h
 unfold vcNxt
 split at h
 case h_2=>cases h
 rename_i id
 simp only
 generalize m.boxes.getD id []=X0 at h |-
 split at h
 case h_2=>cases h
 rename_i mid n seen
 simp only
 generalize m.boxes.getD mid []=X1 at h |-
 split at h
 case h_2=>cases h
 rename_i kn kvs
 simp only
 have hmem:∀ i,i∈(List.range n).filter (fun i=>!seen.contains i)<->i < n/\i ∉ seen:=fun i=>by simp
 generalize (List.range n).filter (fun i=>!seen.contains i)=l at h hmem
 split at h
 ·obtain ⟨h1,h2⟩:=Qo h
  cases h2
  simp only [beq_iff_eq] at h1
  refine ⟨h1,fun i k c hi hs=>?_,fun _=>hK⟩
  have:i < n:=by have:=(List.getElem?_eq_some_iff.1 hi).1;omega
  exact absurd ((hmem i).2 ⟨this,hs⟩) (by simp)
 ·rename_i i
  split at h
  case h_2=>cases h
  rename_i k c hkc
  obtain ⟨h1,h2⟩:=Qo h
  cases h2
  simp only [beq_iff_eq] at h1
  refine ⟨h1,fun i' k' c' hi hs=>?_,fun hall=>?_⟩
  ·have:i' < n:=by have:=(List.getElem?_eq_some_iff.1 hi).1;omega
   have:=(hmem i').2 ⟨this,hs⟩
   simp at this
   subst this
   rw [hkc] at hi
   cases hi
   exact hK
  ·have:=(hmem i).1 (by simp)
   exact absurd (hall i this.1) this.2
 ·cases h
def mutB (orc:FuncId->List AV->AV):Bool:=match orc 999999 [] with
 | .mobj _ []=>true
 | _=>false
def pureV:AV->Bool
 | .gd _ _=>false
 | .junk=>false
 | .mobj _ _=>false
 | _=>true
def isEff:AV->Bool
 | .gd false _=>true
 | _=>false
section
variable (gl:Nat->AV) (orc:FuncId->List AV->AV) (R:Rc) (ye:YE)
def xcallP (e:Opd->AV) (m:AM) (f:Opd) (args:List Opd):Option AV :=
 match e f with
 | .fn f first cap=>let r:=orc f ((first++args.map e++cap).map (cvn m 6));Zt (pureV r&&(!((first++args.map e++cap).any (Zj 6))||flat r)) r
 | _=>none
def xop (e:Opd->AV) (m:AM):SOp->Option (AV×AM)
 | .call f args=>(match e f with
  | .yld l=>(match xyld R l (args.map e) m ye with | some (b,m')=>some (.bool b,m') | none=>none)
  | .fn g first cap=>bif isEff (orc g ((first++args.map e++cap).map (cvn m 6))) then R.fn ye g (first++args.map e++cap) m
    else (match xcallP orc e m f args with | some v=>some (v,m) | none=>none)
  | _=>none)
 | .nxt x=>nxtB m (e x)
 | so=>sopB (mutB orc) e m so
def xrop (e:Opd->AV) (m:AM):SOp->Option AV
 | .call f args=>xcallP orc e m f args
 | so=>Vy e m so
def gokB (T:List AV) (g:Bool):List Opd->Bool
 | []=>true
 | x::r=>(match ev gl T x with | .gd g' _=>!g||g' | _=>true)&&gokB T g r
def effyB (e:Opd->AV) (m:AM):SOp->Bool
 | .call f args=>(match e f with
  | .yld _=>true
  | .fn g first cap=>isEff (orc g ((first++args.map e++cap).map (cvn m 6)))
  | _=>false)
 | .nxt _=>true
 | _=>false
end
section
variable (P:Program) (gl:Nat->AV) (orc:FuncId->List AV->AV) (R:Rc) (ye:YE)
def xops:List SO->AS->Option AS
 | [],s=>some s
 | o::rest,s=>match o.guard with
  | none=>(match xop orc R ye (ev gl s.T) s.m o.op with
   | some (v,m')=>xops rest ⟨put s.T o.dst v,m'⟩
   | none=>none)
  | some (some t,want)=>(match gvw want (s.T.getD t .junk) with
   | some gw=>bif gokB gl s.T gw (gxs o.op o.xs) then
     (bif gw then
      (bif effyB orc (evG gl s.T o.op) s.m o.op then
       (match xop orc R ye (evG gl s.T o.op) s.m o.op with
       | some (v,m')=>xops rest ⟨put s.T o.dst (.gd true v),m'⟩
       | none=>none)
      else (match xrop orc (evG gl s.T o.op) s.m o.op with
       | some v=>xops rest ⟨put s.T o.dst (.gd true v),s.m⟩
       | none=>none))
     else bif effyB orc (evG gl s.T o.op) s.m o.op then xops rest ⟨put s.T o.dst (.gd false (.bool false)),s.m⟩
      else xops rest ⟨put s.T o.dst (.gd false (rop P gl (fun _=>orc) (evG gl s.T o.op) s.m o.dst o.op).2),s.m⟩)
    else none
   | _=>none)
  | some (none,_)=>none
def xdrw (l2:List SO):List SO->List AV->AM->List (List AV)->Option AS
 | [],T,m,nb=>xops P gl orc R ye l2 ⟨T,{ m with boxes:=m.boxes++nb }⟩
 | o::r,T,m,nb=>match o.guard with
  | none=>(match o.op with
   | .alloc zs=>bif zs.all Qs then xdrw l2 r (put T o.dst (.ptr (m.boxes.length+nb.length) 0)) m (nb++[zs]) else none
   | .box x=>bif bare (ev gl T x)&&(cellsOf (ev gl T x)).all Qs then xdrw l2 r (put T o.dst (.ptr (m.boxes.length+nb.length) 0)) m (nb++[cellsOf (ev gl T x)]) else none
   | op=>(match xrop orc (ev gl T) m op with
    | some v=>xdrw l2 r (put T o.dst v) m nb
    | none=>none))
  | some (some t,want)=>(match gvw want (T.getD t .junk) with
   | some gw=>bif gokB gl T gw (gxs o.op o.xs) then
     (bif gw then (match xrop orc (evG gl T o.op) m o.op with
      | some v=>xdrw l2 r (put T o.dst (.gd true v)) m nb
      | none=>none)
     else xdrw l2 r (put T o.dst (.gd false (rop P gl (fun _=>orc) (evG gl T o.op) m o.dst o.op).2)) m nb)
    else none
   | _=>none)
  | some (none,_)=>none
def eqL {α:Type} (f:α->α->Bool):List α->List α->Bool
 | [],[]=>true
 | a::r,b::r'=>f a b&&eqL f r r'
 | _,_=>false
def eqRt:Rt->Rt->Bool
 | .ro,.ro=>true
 | .full,.full=>true
 | .nil,.nil=>true
 | .nn,.nn=>true
 | .own i s,.own i' s'=>(i==i')&&(s==s')
 | _,_=>false
def eqAV:Nat->AV->AV->Bool
 | 0,_,_=>false
 | d+1,a,b=>match a,b with
  | .bool x,.bool y=>x==y
  | .int k n,.int k' n'=>decide (k=k')&&decide (n=n')
  | .str s,.str t=>s.data.toList==t.data.toList
  | .agg cs,.agg ds=>eqL (eqAV d) cs ds
  | .sl rt rows,.sl rt' rows'=>eqRt rt rt'&&eqL (eqL (eqAV d)) rows rows'
  | .ptr i o,.ptr i' o'=>(i==i')&&(o==o')
  | .bs i o n z,.bs i' o' n' z'=>(i==i')&&(o==o')&&(n==n')&&(z==z')
  | .ep row o,.ep row' o'=>(o==o')&&eqL (eqAV d) row row'
  | .mp i,.mp i'=>i==i'
  | .it i,.it i'=>i==i'
  | .yld i,.yld i'=>i==i'
  | .nilfn,.nilfn=>true
  | .nilv p,.nilv q=>p==q
  | .fn f a b,.fn f' a' b'=>decide (f=f')&&eqL (eqAV d) a a'&&eqL (eqAV d) b b'
  | _,_=>false
def stab (e:Opd->AV) (m m1:AM):SOp->Bool
 | .load _ _ x=>(match e x with | .ptr id _=>eqL (eqAV 6) (m1.boxes.getD id []) (m.boxes.getD id []) | _=>true)
 | .call f args=>(match e f with | .fn g first cap=>!((first++args.map e++cap).any (Zj 6))&&pureV (orc g ((first++args.map e++cap).map (cvn m 6))) | _=>true)
 | .bsl _ _ _=>false
 | .look _ _ _ _ _=>false
 | .entr _=>false
 | .slA _ _ x _ _=>(match e x with | .ptr id _=>Nat.beq (m1.boxes.getD id []).length (m.boxes.getD id []).length&&Nat.beq m1.boxes.length m.boxes.length | _=>true)
 | .b2s x=>(match e x with | .bs _ _ _ _=>false | _=>true)
 | _=>true
def xdrE (l2:List SO) (m:AM):List SO->List Fg->AM->List (AV×AM)->List AV->List (SOp×List AV)->Option AS
 | [],_,mc,ms,T,acc=>bif acc.all (fun q=>ms.all fun x=>stab orc (ev gl q.2) m x.2 q.1) then xops P gl orc R ye l2 ⟨T,mc⟩ else none
 | _::_,[],_,_,_,_=>none
 | o::r,.eff::fl,mc,ms,T,acc=>(match o.op with
  | .call f args=>(match ev gl T f with
   | .fn g first cap=>(match R.fn ye g (first++args.map (ev gl T)++cap) mc with
    | some (av,m1)=>xdrE l2 m r fl m1 (ms++[(av,m1)]) (put T o.dst av) acc
    | none=>none)
   | _=>none)
  | so=>bif memEff so then (match sopB (mutB orc) (ev gl T) mc so with
   | some (v,m1)=>xdrE l2 m r fl m1 (ms++[(effV v so,m1)]) (put T o.dst (effV v so)) acc
   | none=>none) else none)
 | o::r,.pre::fl,mc,ms,T,acc=>(match xrop orc (ev gl T) m o.op with
  | some v=>xdrE l2 m r fl mc ms (put T o.dst v) acc
  | none=>none)
 | o::r,.oth::fl,mc,ms,T,acc=>(match xrop orc (ev gl T) m o.op with
  | some v=>xdrE l2 m r fl mc ms (put T o.dst v) ((o.op,T)::acc)
  | none=>none)
abbrev Tab:=FuncId->Option (SC×List SOp×Nat)
def retB (s:AS):List SOp->Option (List AV)
 | []=>some []
 | o::r=>(match Vy (ev gl s.T) s.m o with
  | some v=>(match retB s r with | some l=>some (v::l) | none=>none)
  | none=>none)
def Wu (sc:SC) (s:AS):Option (Exit×AS) :=
 match sc with
 | .skip=>some (.normal,s)
 | .ops l=>(match xops P gl orc R ye l s with | some s'=>some (.normal,s') | none=>none)
 | .draw l l2=>(match xdrw P gl orc R ye l2 l s.T s.m [] with | some s'=>some (.normal,s') | none=>none)
 | .drawE fl l l2=>(match xdrE P gl orc R ye l2 s.m l fl s.m [] s.T [] with
  | some s'=>some (.normal,s')
  | none=>(match xdrw P gl orc R ye l2 l s.T s.m [] with | some s'=>some (.normal,s') | none=>none))
 | .seq a b=>(match R.code ye a s with
  | some (.normal,s')=>R.code ye b s'
  | r=>r)
 | .cond x a b=>(match ev gl s.T x with
  | .bool t=>R.code ye (bif t then a else b) s
  | _=>none)
 | .block id c=>(match R.code ye c s with
  | some (.exit id',s')=>bif Nat.beq id' id then some (.normal,s') else some (.exit id',s')
  | r=>r)
 | .loop c=>(match R.code ye c s with
  | some (.normal,s')=>R.code ye (.loop c) s'
  | r=>r)
 | .exit id=>some (.exit id,s)
 | .scope c=>(match R.code ye c s with
  | some (.goto _,_)=>none
  | r=>r)
 | .rfunc g ps asg body=>(match ev gl s.T g with
  | .fn f first cap=>(match R.fn (.cons s.m.ln s.T ps asg body ye) f (first++[.yld s.m.ln]++cap) s.m.begin_ with
   | some (_,m')=>(match m'.st s.m.ln with
    | .ready=>some (.normal,⟨s.T,m'.at_ s.m.ln .gone⟩)
    | .done ex=>some (ex,⟨s.T,m'.at_ s.m.ln .gone⟩)
    | _=>none)
   | none=>none)
  | _=>none)
 | .ret=>some (.ret,s)
 | .bad=>none
def xfn (tab:Tab) (f:FuncId) (as:List AV) (m:AM):Option (AV×AM) :=
 match tab f with
 | some (sc,rs,n)=>(match R.code ye sc ⟨as++List.replicate (n - as.length) .junk,m⟩ with
  | some (.normal,s)=>(match retB gl s rs with | some l=>some (oneOf l,s.m) | none=>none)
  | some (.ret,s)=>(match retB gl s rs with | some l=>some (oneOf l,s.m) | none=>none)
  | _=>none)
 | none=>none
end
def xrun (P:Program) (gl:Nat->AV) (orc:FuncId->List AV->AV) (tab:Tab) (n:Nat):Rc :=
 Nat.rec ⟨fun _ _ _=>none,fun _ _ _ _=>none⟩ (fun _ R=>⟨fun ye sc s=>Wu P gl orc R ye sc s,fun ye f as m=>xfn gl R ye tab f as m⟩) n
def xpure (P:Program) (gl:Nat->AV) (orc:FuncId->List AV->AV) (tab:Tab) (n:Nat) (f:FuncId) (as:List AV):AV :=
 match (xrun P gl orc tab n).fn .nil f as ⟨[],[],fun _=>.gone,0⟩ with
 | some (r,m)=>cvn m 6 r
 | none=>.junk
section
variable {P:Program} {gl:Nat->AV} {orc:FuncId->List AV->AV}
def YofE (P:Program) (gl:Nat->AV) (orc:FuncId->List AV->AV):YE->YT
 | .nil=>Y0
 | .cons l T ps asg body rest=>Yin (YofE P gl orc rest) l ps.length fun args m K=>vc P gl (fun _=>orc) (YofE P gl orc rest) asg ⟨Jc T ps args,m⟩ (Qasg l fun s'=>vc P gl (fun _=>orc) (YofE P gl orc rest) body s' (Qrnd l K))
def OrcOK (P:Program) (gl:Nat->AV) (orc:FuncId->List AV->AV):Prop:=∀ f as,pureV (orc f as)=true->Pure P gl f as (orc f as)
def TabOK (P:Program) (tab:Tab):Prop:=∀ f sc rs n,tab f=some (sc,rs,n)->FCode P f sc rs n
def CodeOK (P:Program) (gl:Nat->AV) (orc:FuncId->List AV->AV) (R:Rc):Prop:=∀ ye sc s ex s',R.code ye sc s=some (ex,s')->∀ Q:Exit->AS->Prop,Q ex s'->vc P gl (fun _=>orc) (YofE P gl orc ye) sc s Q
def FnOK (P:Program) (gl:Nat->AV) (orc:FuncId->List AV->AV) (R:Rc):Prop:=∀ ye f as m r m',R.fn ye f as m=some (r,m')->∀ K:AV->AM->Prop,K r m'->EffY P gl (YofE P gl orc ye) f as m K
theorem xyld_ok {R:Rc} (hR:CodeOK P gl orc R) {l:Nat} {args:List AV} {m:AM}:∀ {ye:YE} {b:Bool} {m':AM},xyld R l args m ye=some (b,m')->∀ K:Bool->AM->Prop,K b m'->YofE P gl orc ye l args m K
 | .nil,_,_,h,_,_=>by cases h
 | .cons l0 T ps asg body rest,b,m',h,K,hK=>by
  simp only [xyld] at h
  simp only [YofE,Yin]
  cases hl:Nat.beq l l0 with
  | false =>
   simp [hl] at h
   have:l≠l0:=by rintro rfl;simp [Nat.beq_refl] at hl
   rw [if_neg this]
   exact xyld_ok hR h K hK
  | true =>
   simp [hl] at h
   obtain rfl:=Nat.eq_of_beq_eq_true hl
   rw [if_pos rfl]
   split at h
   case h_2=>cases h
   rename_i hst hlen
   refine ⟨hst,Nat.eq_of_beq_eq_true hlen,?_⟩
   split at h
   case h_2=>cases h
   rename_i s1 h1
   split at h
   case h_2=>cases h
   rename_i hst1
   refine hR _ _ _ _ _ h1 _ ⟨hst1,?_⟩
   split at h
   ·rename_i s2 h2;cases h;exact hR _ _ _ _ _ h2 _ hK
   ·rename_i s2 h2;cases h;exact hR _ _ _ _ _ h2 _ hK
   ·rename_i id s2 h2;cases h;exact hR _ _ _ _ _ h2 _ hK
   ·cases h
theorem pureV_callV {f:FuncId} {as:List AV} {m:AM} {r:AV} (h:pureV r=true):callV P gl f as m r=(Pure P gl f (as.map (cvn m 6)) r/\(as.any (Zj 6)=true->flat r=true),r):=by
 cases r<;>first | rfl | simp [pureV] at h
theorem xcallP_ok (hO:OrcOK P gl orc) {e:Opd->AV} {m:AM} {dst:Option Nat} {f:Opd} {args:List Opd} {v:AV} (h:xcallP orc e m f args=some v) :
  (rop P gl (fun _=>orc) e m dst (.call f args)).1/\(rop P gl (fun _=>orc) e m dst (.call f args)).2=v:=by
 simp only [xcallP,rop] at h |-
 generalize e f=X at h |-
 split at h
 ·obtain ⟨h1,h2⟩:=Qo h
  simp only [Bool.and_eq_true,Bool.or_eq_true,Bool.not_eq_true'] at h1
  simp only [pureV_callV h1.1]
  refine ⟨⟨hO _ _ h1.1,fun ha=>?_⟩,h2⟩
  rcases h1.2 with h3 | h3
  ·rw [ha] at h3;cases h3
  ·exact h3
 ·cases h
theorem xrop_ok (hO:OrcOK P gl orc) {e:Opd->AV} {m:AM} {dst:Option Nat} {so:SOp} {v:AV} (h:xrop orc e m so=some v) :
  (rop P gl (fun _=>orc) e m dst so).1/\(rop P gl (fun _=>orc) e m dst so).2=v:=by
 cases so<;>first | exact xcallP_ok hO h | exact ropB_ok h
theorem Qai {e:Opd->AV} {m:AM} {dst:Option Nat} {so:SOp}:effy (fun _=>orc) e m dst so=effyB orc e m so:=by
 cases so with
 | call f args =>
  simp only [effy,effyB]
  generalize e f=X
  cases X<;>first | rfl | (simp only [isEff];rfl)
 | _=>rfl
theorem xop_eff {R:Rc} (hC:CodeOK P gl orc R) (hF:FnOK P gl orc R) {ye:YE} {e:Opd->AV} {m:AM} {so:SOp} {v:AV} {m':AM} (h:xop orc R ye e m so=some (v,m')) (he:effyB orc e m so=true) (K:AV->AM->Prop) (hK:K v m') :
  Kw P gl (YofE P gl orc ye) e m K so:=by
 cases so with
 | call f args =>
  simp only [xop,Kw,effyB] at h he |-
  generalize e f=X at h he |-
  cases X with
  | yld l =>
   simp only at h |-
   split at h
   ·rename_i b m1 h1
    cases h
    exact xyld_ok hC h1 _ hK
   ·cases h
  | fn g first cap =>
   simp only at h he |-
   simp only [he,cond_true] at h
   exact hF _ _ _ _ _ _ h K hK
  | _=>cases he
 | nxt x=>exact nxtB_ok h hK
 | _=>cases he
theorem xop_sop (hO:OrcOK P gl orc) {R:Rc} {ye:YE} {e:Opd->AV} {m:AM} {dst:Option Nat} {so:SOp} {p:AV×AM} (h:xop orc R ye e m so=some p) (he:effyB orc e m so=false) :
  (sop P gl (fun _=>orc) e m dst so).1/\(sop P gl (fun _=>orc) e m dst so).2=p:=by
 cases so with
 | call f args =>
  simp only [effyB] at he
  simp only [xop] at h
  have key:(match xcallP orc e m f args with | some v=>some (v,m) | none=>none)=some p->(sop P gl (fun _=>orc) e m dst (.call f args)).1/\(sop P gl (fun _=>orc) e m dst (.call f args)).2=p:=fun h=>by
   split at h
   ·rename_i v hv
    cases h
    have:=xcallP_ok (P:=P) (gl:=gl) hO (dst:=dst) hv
    exact ⟨this.1,by simp only [sop,this.2]⟩
   ·cases h
  revert h he
  cases hX:e f with
  | yld l=>intro h he;cases he
  | fn g first cap =>
   intro h he
   simp only [he,cond_false] at h
   exact key h
  | _=>intro h;cases h
 | nxt x=>cases he
 | _=>exact sopB_ok rfl h
theorem gokB_ok {T:List AV} {g:Bool}:∀ {xs:List Opd},gokB gl T g xs=true->gok gl T g xs
 | [],_=>trivial
 | x::r,h=>by
  simp only [gokB,Bool.and_eq_true] at h
  refine ⟨?_,gokB_ok h.2⟩
  have h1:=h.1
  generalize ev gl T x=X at h1 |-
  cases X with
  | gd g' a=>intro hg;simpa [hg] using h1
  | _=>trivial
theorem Jv (hO:OrcOK P gl orc) {R:Rc} (hC:CodeOK P gl orc R) (hF:FnOK P gl orc R) {ye:YE}:∀ {l:List SO} {s s':AS},xops P gl orc R ye l s=some s'->∀ K:AS->Prop,K s'->Xy P gl (fun _=>orc) (YofE P gl orc ye) l s K
 | [],s,s',h,K,hK=>by cases h;exact hK
 | o::rest,s,s',h,K,hK=>by
  simp only [xops] at h
  simp only [Xy]
  cases hg:o.guard with
  | none =>
   simp only [hg] at h |-
   split at h
   case h_2=>cases h
   rename_i v m1 h1
   cases hE:effyB orc (ev gl s.T) s.m o.op with
   | true =>
    rw [if_pos (by rw [Qai];exact hE)]
    exact xop_eff hC hF h1 hE _ (Jv hO hC hF h K hK)
   | false =>
    rw [if_neg (by rw [Qai,hE];simp)]
    have:=xop_sop (P:=P) (gl:=gl) hO (dst:=o.dst) h1 hE
    refine ⟨this.1,?_⟩
    rw [this.2]
    exact Jv hO hC hF h K hK
  | some q =>
   obtain ⟨t,want⟩:=q
   cases t with
   | none=>simp [hg] at h
   | some t =>
    simp only [hg] at h |-
    split at h
    case h_2=>cases h
    rename_i gw hgt
    try simp only [hgt]
    cases hgo:gokB gl s.T gw (gxs o.op o.xs) with
    | false=>simp [hgo] at h
    | true =>
     simp only [hgo,cond_true] at h
     refine ⟨gokB_ok hgo,?_⟩
     cases hgw:gw with
     | true =>
      simp only [hgw,cond_true] at h
      cases hE:effyB orc (evG gl s.T o.op) s.m o.op with
      | true =>
       rw [if_pos (by rw [Qai];exact hE)]
       simp only [hE,cond_true] at h
       split at h
       case h_2=>cases h
       rename_i v m1 h1
       exact ⟨fun _=>xop_eff hC hF h1 hE _ (Jv hO hC hF h K hK),fun h=>(by cases h)⟩
      | false =>
       rw [if_neg (by rw [Qai,hE];simp)]
       simp only [hE,cond_false] at h
       split at h
       case h_2=>cases h
       rename_i v h1
       have:=xrop_ok (P:=P) (gl:=gl) hO (dst:=o.dst) h1
       refine ⟨fun _=>this.1,?_⟩
       rw [this.2]
       exact Jv hO hC hF h K hK
     | false =>
      simp only [hgw,cond_false] at h
      cases hE:effyB orc (evG gl s.T o.op) s.m o.op with
      | true =>
       rw [if_pos (by rw [Qai];exact hE)]
       simp only [hE,cond_true] at h
       exact ⟨fun h=>(by cases h),fun _=>Jv hO hC hF h K hK⟩
      | false =>
       rw [if_neg (by rw [Qai,hE];simp)]
       simp only [hE,cond_false] at h
       exact ⟨fun h=>(by cases h),Jv hO hC hF h K hK⟩
theorem Qas (hO:OrcOK P gl orc) {R:Rc} (hC:CodeOK P gl orc R) (hF:FnOK P gl orc R) {ye:YE} {l2:List SO}:∀ {l:List SO} {T:List AV} {m:AM} {nb:List (List AV)} {s':AS},xdrw P gl orc R ye l2 l T m nb=some s'->∀ K:AS->Prop,K s' ->
  vcD P gl (fun _=>orc) (YofE P gl orc ye) l2 K l T m nb
 | [],T,m,nb,s',h,K,hK=>Jv hO hC hF h K hK
 | o::r,T,m,nb,s',h,K,hK=>by
  simp only [xdrw] at h
  simp only [vcD,dop]
  cases hg:o.guard with
  | none =>
   simp only [hg] at h |-
   have gen:∀ op,(match xrop orc (ev gl T) m op with
     | some v=>xdrw P gl orc R ye l2 r (put T o.dst v) m nb
     | none=>none)=some s'->(rop P gl (fun _=>orc) (ev gl T) m o.dst op).1/\vcD P gl (fun _=>orc) (YofE P gl orc ye) l2 K r (put T o.dst (rop P gl (fun _=>orc) (ev gl T) m o.dst op).2) m nb:=fun op h=>by
    split at h
    case h_2=>cases h
    rename_i v h1
    have:=xrop_ok (P:=P) (gl:=gl) hO (dst:=o.dst) h1
    refine ⟨this.1,?_⟩
    rw [this.2]
    exact Qas hO hC hF h K hK
   cases hop:o.op with
   | alloc zs =>
    simp only [hop] at h |-
    cases hz:zs.all Qs with
    | false=>simp [hz] at h
    | true=>simp only [hz,cond_true] at h;exact ⟨rfl,Qas hO hC hF h K hK⟩
   | box x =>
    simp only [hop] at h |-
    cases hz:(bare (ev gl T x)&&(cellsOf (ev gl T x)).all Qs) with
    | false=>simp [hz] at h
    | true =>
     simp only [hz,cond_true] at h
     simp only [Bool.and_eq_true] at hz
     exact ⟨hz,Qas hO hC hF h K hK⟩
   | mks sz bytes zs x y=>simp [hop,xrop,Vy] at h
   | _=>simp only [hop] at h |-;exact gen _ h
  | some q =>
   obtain ⟨t,want⟩:=q
   cases t with
   | none=>simp [hg] at h
   | some t =>
    simp only [hg] at h |-
    split at h
    case h_2=>cases h
    rename_i gw hgt
    try simp only [hgt]
    cases hgo:gokB gl T gw (gxs o.op o.xs) with
    | false=>simp [hgo] at h
    | true =>
     simp only [hgo,cond_true] at h
     cases hgw:gw with
     | true =>
      rw [hgw] at hgo
      simp only [hgw,cond_true] at h
      split at h
      case h_2=>cases h
      rename_i v h1
      have:=xrop_ok (P:=P) (gl:=gl) hO (dst:=o.dst) h1
      refine ⟨⟨gokB_ok hgo,fun _=>this.1⟩,?_⟩
      rw [this.2]
      exact Qas hO hC hF h K hK
     | false =>
      rw [hgw] at hgo
      simp only [hgw,cond_false] at h
      exact ⟨⟨gokB_ok hgo,fun h=>(by cases h)⟩,Qas hO hC hF h K hK⟩
theorem eqL_ok {α:Type} {f:α->α->Bool} (hf:∀ a b,f a b=true->a=b):∀ {l l':List α},eqL f l l'=true->l=l'
 | [],[],_=>rfl
 | [],_::_,h=>by cases h
 | _::_,[],h=>by cases h
 | a::r,b::r',h=>by
  simp only [eqL,Bool.and_eq_true] at h
  rw [hf a b h.1,eqL_ok hf h.2]
theorem eqRt_ok {a b:Rt} (h:eqRt a b=true):a=b:=by
 cases a<;>cases b<;>simp [eqRt] at h<;>first | rfl | (obtain ⟨rfl,rfl⟩:=h;rfl)
theorem eqAV_ok:∀ d a b,eqAV d a b=true->a=b
 | 0,_,_,h=>by cases h
 | d+1,a,b,h=>by
  have ih:=eqAV_ok d
  unfold eqAV at h
  split at h
  ·rw [eq_of_beq h]
  ·simp only [Bool.and_eq_true,decide_eq_true_eq] at h;rw [h.1,h.2]
  ·rename_i s t
   have:=eq_of_beq h
   cases s;cases t
   simp only at this
   rw [Array.toList_inj.1 this]
  ·rw [eqL_ok ih h]
  ·simp only [Bool.and_eq_true] at h;rw [eqRt_ok h.1,eqL_ok (fun a b=>eqL_ok ih) h.2]
  ·simp only [Bool.and_eq_true,beq_iff_eq] at h;rw [h.1,h.2]
  ·simp only [Bool.and_eq_true,beq_iff_eq] at h;rw [h.1.1.1,h.1.1.2,h.1.2,h.2]
  ·simp only [Bool.and_eq_true,beq_iff_eq] at h;rw [h.1,eqL_ok ih h.2]
  ·rw [eq_of_beq h]
  ·rw [eq_of_beq h]
  ·rw [eq_of_beq h]
  ·rfl
  ·rw [eq_of_beq h]
  ·simp only [Bool.and_eq_true,decide_eq_true_eq] at h;rw [h.1.1,eqL_ok ih h.1.2,eqL_ok ih h.2]
  ·cases h
theorem cvn_noP {m m1:AM}:∀ d a,Zj d a=false->cvn m d a=cvn m1 d a
 | 0,_,h=>by cases h
 | d+1,a,h=>by
  have ih:=cvn_noP (m:=m) (m1:=m1) d
  have hl:∀ l:List AV,l.any (Zj d)=false->l.map (cvn m d)=l.map (cvn m1 d):=fun l hl=>List.map_congr_left fun a ha=>ih a (by
   rw [List.any_eq_false] at hl;simpa using hl a ha)
  cases a with
  | agg cs=>simp only [Zj] at h;simp only [cvn,hl cs h]
  | tup cs=>simp only [Zj] at h;simp only [cvn,hl cs h]
  | fn f x y=>simp only [Zj,Bool.or_eq_false_iff] at h;simp only [cvn,hl x h.1,hl y h.2]
  | ptr i o=>cases h
  | bs i o n z=>cases h
  | sl rt rows=>cases rt<;>rfl
  | _=>rfl
theorem stab_ok {e:Opd->AV} {m m1:AM} {dst:Option Nat} {so:SOp} (h:stab orc e m m1 so=true):rop P gl (fun _=>orc) e m1 dst so=rop P gl (fun _=>orc) e m dst so:=by
 cases so with
 | load agg n x =>
  simp only [stab,rop] at h |-
  generalize e x=X at h |-
  cases X<;>first | rfl | (simp only;rw [eqL_ok (eqAV_ok 6) h])
 | call f args =>
  simp only [stab,rop] at h |-
  generalize e f=X at h |-
  cases X with
  | fn g first cap =>
   simp only [Bool.and_eq_true,Bool.not_eq_true'] at h |-
   have hm:(first++args.map e++cap).map (cvn m1 6)=(first++args.map e++cap).map (cvn m 6):=List.map_congr_left fun a ha=>cvn_noP 6 a (by
    have:=h.1;rw [List.any_eq_false] at this;simpa using this a ha)
   rw [hm,pureV_callV h.2,pureV_callV h.2,hm]
  | _=>rfl
 | bsl a b c=>cases h
 | look a b c d=>cases h
 | entr a=>cases h
 | slA n sz x lo hi =>
  simp only [stab,rop] at h |-
  generalize e x=X at h |-
  cases X<;>first | rfl | skip
  simp only [Bool.and_eq_true] at h |-
  have h1:=Nat.eq_of_beq_eq_true h.1
  have h2:=Nat.eq_of_beq_eq_true h.2
  simp only [h1,h2]
 | b2s x =>
  simp only [stab,rop] at h |-
  generalize e x=X at h |-
  cases X<;>first | rfl | cases h
 | _=>rfl
theorem xdrE_ok (hO:OrcOK P gl orc) {R:Rc} (hC:CodeOK P gl orc R) (hF:FnOK P gl orc R) {ye:YE} {l2:List SO} {m:AM}:∀ {l:List SO} {fl:List Fg} {mc:AM} {ms:List (AV×AM)} {T:List AV} {acc:List (SOp×List AV)} {s':AS},xdrE P gl orc R ye l2 m l fl mc ms T acc=some s'->∀ K:AS->Prop,K s' ->
  ∃ q,acc.all (fun a=>(ms++q).all fun x=>stab orc (ev gl a.2) m x.2 a.1)=true/\vcE P gl (fun _=>orc) (YofE P gl orc ye) l2 K m (ms++q) l fl q mc T
 | [],fl,mc,ms,T,acc,s',h,K,hK=>by
  simp only [xdrE] at h
  cases ha:acc.all (fun q=>ms.all fun x=>stab orc (ev gl q.2) m x.2 q.1) with
  | false=>simp [ha] at h
  | true =>
   simp only [ha,cond_true] at h
   refine ⟨[],by simpa using ha,?_⟩
   unfold vcE
   exact ⟨rfl,Jv hO hC hF h K hK⟩
 | o::r,[],mc,ms,T,acc,s',h,K,hK=>by simp [xdrE] at h
 | o::r,.eff::fl,mc,ms,T,acc,s',h,K,hK=>by
  have mem:∀ so,o.op=so->(∀ f args,so≠.call f args)->(bif memEff so then (match sopB (mutB orc) (ev gl T) mc so with
   | some (v,m1)=>xdrE P gl orc R ye l2 m r fl m1 (ms++[(effV v so,m1)]) (put T o.dst (effV v so)) acc
   | none=>none) else none)=some s'->∃ q,acc.all (fun a=>(ms++q).all fun x=>stab orc (ev gl a.2) m x.2 a.1)=true/\vcE P gl (fun _=>orc) (YofE P gl orc ye) l2 K m (ms++q) (o::r) (.eff::fl) q mc T:=fun so hso hnc h=>by
   cases hme:memEff so with
   | false=>simp [hme] at h
   | true =>
    simp only [hme,cond_true] at h
    split at h
    case h_2=>cases h
    rename_i av m1 hst
    obtain ⟨q,q1,q2⟩:=xdrE_ok hO hC hF h K hK
    have h1:=sopB_ok (P:=P) (gl:=gl) (orc:=fun _=>orc) (dst:=o.dst) (mu:=mutB orc) rfl hst
    refine ⟨(effV av so,m1)::q,by simpa using q1,?_⟩
    rw [List.append_assoc] at q2
    simp only [vcE]
    refine ⟨?_,q2⟩
    rw [hso]
    cases so<;>first | (exact absurd rfl (hnc _ _)) | exact ⟨hme,h1.1,by rw [h1.2],by rw [h1.2]⟩
  simp only [xdrE] at h
  split at h
  ·rename_i f args hop
   split at h
   case h_2=>cases h
   rename_i g first cap hev
   split at h
   case h_2=>cases h
   rename_i av m1 hfn
   obtain ⟨q,q1,q2⟩:=xdrE_ok hO hC hF h K hK
   refine ⟨(av,m1)::q,by simpa using q1,?_⟩
   rw [List.append_assoc] at q2
   simp only [vcE,effC,hop,hev]
   exact ⟨hF _ _ _ _ _ _ hfn _ ⟨rfl,rfl⟩,q2⟩
  ·rename_i hno
   exact mem _ rfl (fun f args hf=>hno f args hf) h
 | o::r,.pre::fl,mc,ms,T,acc,s',h,K,hK=>by
  simp only [xdrE] at h
  split at h
  case h_2=>cases h
  rename_i v hv
  obtain ⟨q,q1,q2⟩:=xdrE_ok hO hC hF h K hK
  have h1:=xrop_ok (P:=P) (gl:=gl) hO (dst:=o.dst) hv
  refine ⟨q,q1,?_⟩
  simp only [vcE]
  exact ⟨h1.1,by rw [h1.2];exact q2⟩
 | o::r,.oth::fl,mc,ms,T,acc,s',h,K,hK=>by
  simp only [xdrE] at h
  split at h
  case h_2=>cases h
  rename_i v hv
  obtain ⟨q,q1,q2⟩:=xdrE_ok hO hC hF h K hK
  simp only [List.all_cons,Bool.and_eq_true] at q1
  have h1:=xrop_ok (P:=P) (gl:=gl) hO (dst:=o.dst) hv
  refine ⟨q,q1.2,?_⟩
  simp only [vcE]
  exact ⟨h1.1,fun x hx=>stab_ok (List.all_eq_true.1 q1.1 x hx),by rw [h1.2];exact q2⟩
theorem retB_ok {s:AS}:∀ {rs:List SOp} {l:List AV},retB gl s rs=some l->(Yo P gl (fun _=>orc) s rs).1/\(Yo P gl (fun _=>orc) s rs).2=l
 | [],l,h=>by cases h;exact ⟨trivial,rfl⟩
 | o::r,l,h=>by
  simp only [retB] at h
  split at h
  case h_2=>cases h
  rename_i v hv
  split at h
  case h_2=>cases h
  rename_i l' hl
  cases h
  have h1:=ropB_ok (P:=P) (gl:=gl) (orc:=fun _=>orc) (dst:=none) hv
  have h2:=retB_ok hl
  exact ⟨⟨h1.1,h2.1⟩,by simp only [Yo,h1.2,h2.2]⟩
theorem least_ex {p:Nat->Prop}:∀ k,p k->∃ k,p k/\∀ j,p j->k<=j:=fun k=>by
 induction k using Nat.strongRecOn with
 | _ k ih =>
  intro hk
  by_cases h:∃ j,j < k/\p j
  ·obtain ⟨j,h1,h2⟩:=h;exact ih j h1 h2
  ·exact ⟨k,hk,fun j hj=>Nat.le_of_not_lt fun h'=>h ⟨j,h',hj⟩⟩
open Classical in
noncomputable def leastOf (p:Nat->Prop):Nat:=if h:∃ k,p k/\∀ j,p j->k<=j then Classical.choose h else 0
theorem leastOf_ok {p:Nat->Prop} (h:∃ k,p k):p (leastOf p)/\∀ j,p j->leastOf p<=j:=by
 have h':∃ k,p k/\∀ j,p j->k<=j:=let ⟨k,hk⟩:=h;least_ex k hk
 unfold leastOf
 rw [dif_pos h']
 exact Classical.choose_spec h'
theorem xrun_succ (tab:Tab) (n:Nat):xrun P gl orc tab (n+1)=⟨fun ye sc s=>Wu P gl orc (xrun P gl orc tab n) ye sc s,fun ye f as m=>xfn gl (xrun P gl orc tab n) ye tab f as m⟩:=rfl
theorem xrun_ok (hO:OrcOK P gl orc) {tab:Tab} (hT:TabOK P tab) (n:Nat):CodeOK P gl orc (xrun P gl orc tab n)/\FnOK P gl orc (xrun P gl orc tab n):=by
 induction n using Nat.strongRecOn with
 | _ n ih =>
  cases n with
  | zero=>exact ⟨fun _ _ _ _ _ h=>(by cases h),fun _ _ _ _ _ _ h=>(by cases h)⟩
  | succ n =>
   obtain ⟨hC,hF⟩:=ih n (by omega)
   rw [xrun_succ]
   refine ⟨fun ye sc s ex s' h Q hQ=>?_,fun ye f as m r m' h K hK=>?_⟩
   ·simp only at h
    cases sc with
    | skip=>cases h;exact hQ
    | ops l =>
     simp only [Wu] at h
     split at h
     case h_2=>cases h
     rename_i s1 h1
     cases h
     exact Jv hO hC hF h1 _ hQ
    | draw l l2 =>
     simp only [Wu] at h
     split at h
     case h_2=>cases h
     rename_i s1 h1
     cases h
     exact Qas hO hC hF h1 _ hQ
    | drawE j l l2 =>
     simp only [Wu] at h
     split at h
     ·rename_i s1 h1
      cases h
      obtain ⟨q,_,h3⟩:=xdrE_ok hO hC hF h1 _ hQ
      exact .inr (.inl ⟨q,h3⟩)
     ·split at h
      case h_2=>cases h
      rename_i s1 h1
      cases h
      exact .inl (Qas hO hC hF h1 _ hQ)
    | seq a b =>
     simp only [Wu] at h
     split at h
     ·rename_i s1 h1
      exact hC _ _ _ _ _ h1 _ (hC _ _ _ _ _ h _ hQ)
     ·rename_i hno
      refine hC _ _ _ _ _ h _ ?_
      cases ex<;>first | exact hQ | exact absurd h (hno _)
    | cond x a b =>
     simp only [Wu] at h
     simp only [vc]
     split at h
     case h_2=>cases h
     rename_i t ht
     try simp only [ht]
     cases t with
     | true=>exact ⟨fun _=>hC _ _ _ _ _ h _ hQ,fun h=>(by cases h)⟩
     | false=>exact ⟨fun h=>(by cases h),fun _=>hC _ _ _ _ _ h _ hQ⟩
    | block id c =>
     simp only [Wu] at h
     split at h
     ·rename_i id' s1 h1
      refine hC _ _ _ _ _ h1 _ ?_
      simp only [Qblock]
      cases hid:Nat.beq id' id with
      | true =>
       simp only [hid,cond_true] at h
       cases h
       rw [if_pos (Nat.eq_of_beq_eq_true hid)]
       exact hQ
      | false =>
       simp only [hid,cond_false] at h
       cases h
       rw [if_neg (by rintro rfl;simp [Nat.beq_refl] at hid)]
       exact hQ
     ·rename_i hno
      refine hC _ _ _ _ _ h _ ?_
      cases ex<;>first | exact hQ | exact absurd h (hno _ _)
    | loop c =>
     let p:AS->Nat->Prop:=fun x k=>Wu P gl orc (xrun P gl orc tab k) ye (.loop c) x=some (ex,s')
     refine ⟨fun x=>∃ k,k<=n/\p x k,fun x=>leastOf (p x),⟨n,Nat.le_refl _,h⟩,?_⟩
     rintro x ⟨k,hk,hx⟩
     obtain ⟨h1,h2⟩:=leastOf_ok ⟨k,hx⟩
     have hle:=h2 k hx
     generalize hk0:leastOf (p x)=k0 at h1 hle
     obtain ⟨hC0,_⟩:=ih k0 (by omega)
     have h1':Wu P gl orc (xrun P gl orc tab k0) ye (.loop c) x=some (ex,s'):=h1
     simp only [Wu] at h1'
     split at h1'
     ·rename_i y hy
      refine hC0 _ _ _ _ _ hy _ ?_
      cases k0 with
      | zero=>cases h1'
      | succ j =>
       have hj:p y j:=h1'
       exact ⟨⟨j,by omega,hj⟩,by have:=(leastOf_ok ⟨j,hj⟩).2 j hj;show leastOf (p y) < leastOf (p x);omega⟩
     ·rename_i hno
      refine hC0 _ _ _ _ _ h1' _ ?_
      cases ex<;>first | exact hQ | exact absurd h1' (hno _)
    | exit id=>cases h;exact hQ
    | scope c =>
     simp only [Wu] at h
     split at h
     ·cases h
     ·rename_i hno
      refine hC _ _ _ _ _ h _ ?_
      cases ex<;>first | exact hQ | exact absurd h (hno _ _)
    | rfunc g ps asg body =>
     simp only [Wu] at h
     simp only [vc]
     split at h
     case h_2=>cases h
     rename_i f first cap hg
     try simp only [hg]
     intro _
     split at h
     case h_2=>cases h
     rename_i r1 m1 h1
     refine hF _ _ _ _ _ _ h1 _ ?_
     split at h
     ·rename_i hst;cases h;simp only [hst,Qend];exact hQ
     ·rename_i ex1 hst;cases h;simp only [hst,Qend];exact hQ
     ·cases h
    | ret=>cases h;exact hQ
    | bad=>cases h
   ·simp only [xfn] at h
    split at h
    case h_2=>cases h
    rename_i sc rs k ht
    refine eff_of (hT f sc rs k ht) (fun _=>orc) ?_
    split at h
    ·rename_i s1 h1
     split at h
     case h_2=>cases h
     rename_i l hl
     cases h
     have:=retB_ok (P:=P) (orc:=orc) hl
     exact hC _ _ _ _ _ h1 _ ⟨this.1,by rw [this.2];exact hK⟩
    ·rename_i s1 h1
     split at h
     case h_2=>cases h
     rename_i l hl
     cases h
     have:=retB_ok (P:=P) (orc:=orc) hl
     exact hC _ _ _ _ _ h1 _ ⟨this.1,by rw [this.2];exact hK⟩
    ·cases h
theorem xpure_ok (hO:OrcOK P gl orc) {tab:Tab} (hT:TabOK P tab) {n:Nat} {f:FuncId} {as:List AV} (h:pureV (xpure P gl orc tab n f as)=true):Pure P gl f as (xpure P gl orc tab n f as):=by
 generalize hx:xpure P gl orc tab n f as=x at h
 unfold xpure at hx
 split at hx
 ·rename_i r m hr
  exact pure_of_eff ((xrun_ok hO hT n).2 _ _ _ _ _ _ hr _ hx)
 ·subst hx;cases h
def Wn (P:Program) (gl:Nat->AV) (tab:Tab) (lvl:FuncId->Nat) (fuel:Nat):Nat->FuncId->List AV->AV
 | 0=>fun f _=>bif Nat.beq f 999999&&Nat.beq (lvl f) 77 then .mobj 0 [] else .gd false .junk
 | k+1=>fun f as=>bif Nat.beq (lvl f) k then xpure P gl (Wn P gl tab lvl fuel k) tab fuel f as else Wn P gl tab lvl fuel k f as
theorem orcL_ok {tab:Tab} (hT:TabOK P tab) (lvl:FuncId->Nat) (fuel:Nat):∀ k,OrcOK P gl (Wn P gl tab lvl fuel k)
 | 0=>fun f _ h=>by
  simp only [Wn] at h
  cases hc:(Nat.beq f 999999&&Nat.beq (lvl f) 77)<;>simp [hc,pureV] at h
 | k+1=>fun f as h=>by
  simp only [Wn] at h |-
  cases hl:Nat.beq (lvl f) k with
  | true=>simp only [hl,cond_true] at h |-;exact xpure_ok (orcL_ok hT lvl fuel k) hT h
  | false=>simp only [hl,cond_false] at h |-;exact orcL_ok hT lvl fuel k f as h
theorem pure_run {tab:Tab} (hT:TabOK P tab) (lvl:FuncId->Nat) (fuel k:Nat) {f:FuncId} {as:List AV} {r:AV} (h:xpure P gl (Wn P gl tab lvl fuel k) tab fuel f as=r) (hr:pureV r=true):Pure P gl f as r:=by
 have:=xpure_ok (orcL_ok hT lvl fuel k) hT (f:=f) (as:=as) (n:=fuel) (by rw [h];exact hr)
 rwa [h] at this
def okFrom (P:Program):Nat->List (Option (SC×List SOp×Nat))->Prop
 | _,[]=>True
 | k,none::r=>okFrom P (k+1) r
 | k,some (sc,rs,n)::r=>FCode P k sc rs n/\okFrom P (k+1) r
theorem okFrom_get:∀ {l:List (Option (SC×List SOp×Nat))} {k i:Nat} {sc:SC} {rs:List SOp} {n:Nat},okFrom P k l->l.getD i none=some (sc,rs,n)->FCode P (k+i) sc rs n
 | [],_,i,_,_,_,_,h=>by simp at h
 | none::r,k,0,_,_,_,_,h=>by simp at h
 | some (sc',rs',n')::r,k,0,sc,rs,n,ho,h=>by simp at h;obtain ⟨rfl,rfl,rfl⟩:=h;exact ho.1
 | none::r,k,i+1,sc,rs,n,ho,h=>by
  have:=okFrom_get (k:=k+1) (i:=i) ho (by simpa using h)
  rwa [show k+(i+1)=k+1+i by omega]
 | some (sc',rs',n')::r,k,i+1,sc,rs,n,ho,h=>by
  have:=okFrom_get (k:=k+1) (i:=i) ho.2 (by simpa using h)
  rwa [show k+(i+1)=k+1+i by omega]
theorem tabOK_of {l:List (Option (SC×List SOp×Nat))} (h:okFrom P 0 l):TabOK P fun f=>l.getD f none:=fun f sc rs n hf=>by
 have:=okFrom_get h hf
 rwa [Nat.zero_add] at this
end
def Qm (P:Program) (f:Func):SC:=match f.body with
 | some c=>Vi P c
 | none=>.bad
def fgH : Nat -> Fg
 | 0 => .eff
 | 1 => .pre
 | _ => .oth
def drH (p : Nat) (l : List SO) : List Nat -> SC
 | [] => .draw (l.take p) (l.drop p)
 | f => .drawE (f.map fgH) (l.take p) (l.drop p)
def stripH (P : Program) : Code -> List (List Nat) -> SC × List (List Nat)
 | .skip, h => (.skip, h)
 | .region _ ops false, h => (.ops (ops.toList.map (Xl P ops)), h)
 | .region _ ops true, (p :: f) :: h => (drH p (ops.toList.map (Xl P ops)) f, h)
 | .seq a b, h => match stripH P a h with
  | (x, h) => match stripH P b h with
   | (y, h) => (.seq x y, h)
 | .cond c a b, h => match stripH P a h with
  | (x, h) => match stripH P b h with
   | (y, h) => (.cond (opd c) x y, h)
 | .block n a, h => match stripH P a h with
  | (x, h) => (.block n x, h)
 | .loop a, h => match stripH P a h with
  | (x, h) => (.loop x, h)
 | .exit n, h => (.exit n, h)
 | .label _, h => (.skip, h)
 | .scope a, h => match stripH P a h with
  | (x, h) => (.scope x, h)
 | .rangeFunc g ps a b, h => match stripH P a h with
  | (x, h) => match stripH P b h with
   | (y, h) => (.rfunc (opd g) ps.toList x y, h)
 | .ret, h => (.ret, h)
 | _, h => (.bad, h)
def scH (P : Program) (f : Func) (h : List (List Nat)) : SC := match f.body with
 | some c => (stripH P c h).1
 | none => .bad
def Xz (P:Program) (f:Func):List SOp:=resOf P f.results.toList
end Go.Abs
