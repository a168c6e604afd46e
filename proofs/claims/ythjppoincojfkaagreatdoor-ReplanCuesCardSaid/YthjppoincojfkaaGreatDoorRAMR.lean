import Derived.Test.YthjppoincojfkaaGreatDoorRAMQ
import Derived.Test.YthjppoincojfkaaGreatDoorRARiI
set_option linter.all false
set_option maxRecDepth 100000
set_option maxHeartbeats 64000000
namespace Go.Proofs.YthjppoincojfkaaGreatDoor
open Go Go.Abs
section
variable {α:Type}
def af(k:Int):List (Int×α)->Option α
 |[]=>none
 |x::r=>if x.1=k then some x.2 else af k r
def Vm(k:Int)(v:α):List (Int×α)->List (Int×α)
 |[]=>[(k,v)]
 |x::r=>if x.1=k then(k,v)::r else x::Vm k v r
def bG(row:α->AV)(l:List (Int×α)):List (Pi×AV):=l.map fun x=>([x.1],row x.2)
@[simp] theorem avE(row:α->AV):bG row []=[]:=rfl
@[simp] def avF(row:α->AV)(l:List (Int×α)):(bG row l).length=l.length:=by simp[bG]
def Xx(row:α->AV)(k:Int):∀(l:List (Int×α))(i:Nat),
  (af k l=none/\Xi [k] (bG row l) i=none/\(∀v,Vm k v l=l++[(k,v)])/\∀v,bG row l++[([k],row v)]=bG row (Vm k v l))\/
  ∃u n,af k l=some u/\Xi [k] (bG row l) i=some (i+n,row u)/\n<l.length/\(bG row l).getD n ([],.junk)=([k],row u)/\(∀v,(Vm k v l).length=l.length)/\∀v,(bG row l).set n ([k],row v)=bG row (Vm k v l)
 |[],i=>.inl ⟨rfl,rfl,fun _=>rfl,fun _=>rfl⟩
 |x::r,i=>by
  by_cases h:x.1=k
  ·refine .inr ⟨x.2,0,by rw[af,if_pos h],by simp[bG,Xi,h],zd,by simp[bG,h],fun v=>by rw[Vm,if_pos h];rfl,fun v=>by rw[Vm,if_pos h];simp[bG]⟩
  have hk:¬([k]:Pi)=[x.1]:=by intro e;cases e;exact h rfl
  rcases Xx row k r (i+1)with⟨h1,h2,h3,h4⟩|⟨u,n,h1,h2,h3,h4,h5,h6⟩
  ·refine .inl ⟨by rw[af,if_neg h];exact h1,?_,fun v=>by rw[Vm,if_neg h,h3];rfl,fun v=>?_⟩
   ·simp only[bG,zzaz,Xi];rw[if_neg hk];exact h2
   rw[Vm,if_neg h];simp only[bG,zzaz,zzad];exact congrArg _ (h4 v)
  refine .inr ⟨u,n+1,by rw[af,if_neg h];exact h1,?_,by simp;omega,by simpa[bG]using h4,fun v=>by rw[Vm,if_neg h];simp[h5 v],fun v=>?_⟩
  ·simp only[bG,zzaz,Xi];rw[if_neg hk,zzfb n 1,<- zzan];exact h2
  rw[Vm,if_neg h];simp only[bG,zzaz,zzdx];exact congrArg _ (h6 v)
def Jc(k q:Int)(v:α):∀l:List (Int×α),af q (Vm k v l)=if q=k then some v else af q l
 |[]=>by
  by_cases h:q=k
  ·subst h;simp[Vm,af]
  have:¬k=q:=fun e=>h e.symm;simp[Vm,af,h,this]
 |x::r=>by
  have ih:=Jc k q v r;by_cases h:x.1=k
  ·rw[Vm,if_pos h];by_cases hq:q=k
   ·subst hq;simp[af]
   have:¬k=q:=fun e=>hq e.symm;have hx:¬x.1=q:=zE
   simp[af,hq,this,hx]
  rw[Vm,if_neg h,af,ih,af];by_cases hx:x.1=q
  ·have:¬q=k:=zE
   simp[hx,this]
  rw[if_neg hx];by_cases hq:q=k<;>simp[hq,hx]
def Gt(k:Int)(v:α):∀l:List (Int×α),(Vm k v l).length<=l.length+1
 |[]=>by simp[Vm]
 |x::r=>by
  rw[Vm];split
  ·simp
  have:=Gt k v r;simp only[zzbd];omega
def ayN(l:List (Int×α)):Prop:=(l.map (·.1)).Nodup
end
def Gu:List En->Nat->List (Int×Int)->List (Int×Int)
 |[],_,a=>a
 |e::r,i,a=>Gu r (i+1) (match af e.id a with|some _=>a|none=>Vm e.id (i:Int) a)
def KZ:List It->List (Int×It)->List (Int×It)
 |[],a=>a
 |x::r,a=>KZ r (match af x.id a with|some _=>a|none=>Vm x.id x a)
def z6:List It->List (Int×It)->List (Int×Int)->List (Int×Int)
 |[],_,s=>s
 |x::r,a,s=>(match af x.id a with
  |some _=>z6 r a s
  |none=>z6 r (Vm x.id x a) (if 1<=x.sp/\x.sp<=200 then Vm x.sp x.id s else s))
def Dk(p:Pl):List (Int×Int):=Gu p.ens 0 []
def z7(p:Pl):List (Int×It):=KZ p.aN []
def Ub(p:Pl):List (Int×Int):=z6 p.aN [] []
def z8(id:Int):List En->Nat->Option Nat
 |[],_=>none
 |e::r,i=>if e.id=id then some i else z8 id r (i+1)
def NY(id:Int):∀(l:List En)(i:Nat)(a:List (Int×Int)),af id (Gu l i a)=match af id a with|some v=>some v|none=>(z8 id l i).map fun n=>(n:Int)
 |[],i,a=>by simp only[Gu,z8];cases af id a<;>rfl
 |e::r,i,a=>by
  rw[Gu,NY id r,z8];cases h:af e.id a with
  |some v=>
   simp only;cases h':af id a with
   |some u=>rfl
   |none=>
    have:¬e.id=id:=by rintro rfl;rw[h]at h';cases h'
    simp[this]
  |none=>
   simp only;rw[Jc];by_cases e1:id=e.id
   ·subst e1;simp[h]
   have e2:¬e.id=id:=fun h=>e1 h.symm;simp[e1,e2]
def uO(p:Pl)(id:Int):af id (Dk p)=(z8 id p.ens 0).map fun n=>(n:Int):=by rw[Dk,NY];rfl
def NZ(id:Int):∀(l:List It)(a:List (Int×It)),af id (KZ l a)=match af id a with|some v=>some v|none=>Xk id l
 |[],a=>by simp only[KZ,Xk];cases af id a<;>rfl
 |e::r,a=>by
  rw[KZ,NZ id r,Xk];cases h:af e.id a with
  |some v=>
   simp only;cases h':af id a with
   |some u=>rfl
   |none=>
    have:¬e.id=id:=by rintro rfl;rw[h]at h';cases h'
    simp[this]
  |none=>
   simp only;rw[Jc];by_cases e1:id=e.id
   ·subst e1;simp[h]
   have e2:¬e.id=id:=fun h=>e1 h.symm;simp[e1,e2]
def uP(p:Pl)(id:Int):af id (z7 p)=Xk id p.aN:=by rw[z7,NZ];rfl
structure Ad where
 it:Int
 re:Int
 fr:Int
 fs:Int
def Vn(a:Ad):P2:=[I a.it,I a.re,I a.fr,I a.fs]
def rF(a:Ad):Bool:=decide (a.re=0/\0<=a.fr/\a.fr<=100000000/\1<=a.fs/\a.fs<=100000000)
def Yb(u:List (Int×Int))(it:Int):List (Int×Int):=Vm it ((af it u).getD 0+1) u
def Zo(p:Pl)(en:List (Int×Int))(it e:Int):List (Int×Int):=match Xk it p.aN with
 |some x=>Vm x.sp (max ((af x.sp en).getD 0) e) en
 |none=>en
def N0:List Ad->List (Int×Int)->List (Int×Int)
 |[],u=>u
 |a::r,u=>N0 r (if rF a then Yb u a.it else u)
def N1(p:Pl):List Ad->List (Int×Int)->List (Int×Int)
 |[],u=>u
 |a::r,u=>N1 p r (if rF a then Zo p u a.it (a.fr+a.fs)else u)
def N2(ki it rg:Int):List Cl->Int->Int
 |[],n=>n
 |c::r,n=>N2 ki it rg r (if c.ki=ki/\gR c it rg=true/\Zd c=true then c.n else n)
def Wu(p:Pl)(it:Int):Int:=match Xk it p.aN with
 |some x=>if x.ki=5 then -1 else N2 3 it 0 p.cls (-1)
 |none=>N2 3 it 0 p.cls (-1)
def pR(a b:Int):List Cl->Int->Int
 |[],g=>g
 |c::r,g=>pR a b r (if c.ki=5/\(c.a=a/\c.b=b\/c.a=b/\c.b=a)/\Zd c=true then max g c.n else g)
def Kh(p:Pl)(a b:Int):Int:=match Xk a p.aN,Xk b p.aN with
 |some x,some y=>if x.sp=0\/Vh p.nu p.de=false\/y.sp=0\/x.sp=y.sp then 0 else xE p.nu p.de (pR x.sp y.sp p.cls 0)
 |_,_=>0
def Gv(at_ n:Int):List Sp->Option Int
 |[]=>none
 |s::r=>if max s.1 at_<s.2/\n<=s.2-max s.1 at_ then some (max s.1 at_)else Gv at_ n r
def lP(l:List Sp)(at_ n:Int):Option Int:=if n<=0 then some at_ else Gv at_ n (Xl l)
def Za(p:Pl)(it n:Int):List Sp:=Xl (Vw p it 0 (n*1000000,(n+1)*1000000)++Vw p it 0 ((n+1)*1000000,(n+2)*1000000))
def Ss(p:Pl)(e:En)(last from_ n:Int):Option Int:=
 if n*1000000<=last then
  match lP (Za p e.it n) from_ e.fr with
  |none=>Ss p e last from_ (n+1)
  |some s=>if last<s then none else some s
 else none
termination_by(last-n*1000000+1000000).toNat
decreasing_by omega
def mC(p:Pl)(e:En):Int:=min (min e.la (p.ln-e.fr)) 100000000
def Yk(p:Pl)(e:En)(from_:Int):Option Int:=
 if e.fr<1\/1000000<e.fr\/p.ln<e.fr then none else Ss p e (mC p e) (max from_ 0) ((max from_ 0).tdiv 1000000)
def Kz(p:Pl)(it:Int):List Sp:=match Xk it p.aN with
 |none=>[]
 |some y=>match af y.sp (Ub p)with
  |none=>[]
  |some _=>(Ub p).filterMap fun x=>if 0<Kh p x.2 it then some (x.1,Kh p x.2 it)else none
def Uk(en:List (Int×Int)):List Sp->Int->Int
 |[],f=>f
 |r::l,f=>Uk en l (match af r.1 en with|some e=>max f (e+r.2)|none=>f)
def Jl(p:Pl):Pi->List (Int×Int)->List (Int×Int)->Int->Int->Option (List Sp)
 |[],_,_,_,_=>some []
 |id::r,us,en,free,last=>match z8 id p.ens 0 with
  |none=>none
  |some k=>if(k:Int)<=last then none else match p.ens[k]? with
   |none=>none
   |some e=>if Wu p e.it≠ -1/\Wu p e.it<=(af e.it us).getD 0 then none else
    match Yk p e (Uk en (Kz p e.it) (max e.ea free))with
    |none=>none
    |some s=>match Jl p r (Yb us e.it) (Zo p en e.it (s+e.fr)) (s+e.fr) k with
     |none=>none
     |some l=>some ((id,s)::l)
def Yu(p:Pl)(at_:Int)(past:List Ad)(ids:Pi):Option (List Sp):=Jl p ids (N0 past []) (N1 p past []) at_ (-1)
def Dl{at_ n:Int}:∀{l:List Sp}{s:Int},Gv at_ n l=some s->∃a∈l,max a.1 at_=s/\s<a.2/\n<=a.2-s
 |a::r,s,h=>by
  rw[Gv]at h;split at h
  ·rename_i hc;cases h;exact⟨a,zd,rfl,hc.1,hc.2⟩
  obtain⟨b,hb,h1⟩:=Dl h;exact⟨b,by simp[hb],h1⟩
def Qci(p:Pl)(it n x:Int):Xv (Za p it n) x<->n*1000000<=x/\x<(n+2)*1000000/\gU p it 0 x:=by
 rw[Za,(Zy _).2,Yv,kV _ _ _ _ (by simp only;omega),kV _ _ _ _ (by simp only;omega)];simp only;constructor
 ·rintro(⟨h1,h2,h3⟩|⟨h1,h2,h3⟩)<;>exact⟨zE,zE,h3⟩
 rintro⟨h1,h2,h3⟩;by_cases h:x<(n+1)*1000000
 ·exact .inl ⟨h1,h,h3⟩
 exact .inr ⟨zE,h2,h3⟩
def aev{p:Pl}{it n at_ m s:Int}(hm:1<=m)(h:lP (Za p it n) at_ m=some s):at_<=s/\∀x,s<=x->x<s+m->gU p it 0 x:=by
 rw[lP,if_neg zE]at h;obtain⟨a,ha,h1,h2,h3⟩:=Dl h;refine⟨zE,fun x hx hx2=>?_⟩;have:Xv (Xl (Za p it n)) x:=⟨a,ha,zE,zE⟩;rw[(Zy _).2,Qci]at this;exact this.2.2
def Ys{p:Pl}{e:En}{last from_ n s:Int}(he:1<=e.fr)(h:Ss p e last from_ n=some s):from_<=s/\s<=last/\∀x,s<=x->x<s+e.fr->gU p e.it 0 x:=by
 unfold Ss at h;split at h
 ·rename_i hc;cases hs:lP (Za p e.it n) from_ e.fr with
  |none=>rw[hs]at h;exact Ys he h
  |some t=>
   rw[hs]at h;simp only at h;split at h
   ·cases h
   rename_i hl;cases h;obtain⟨h1,h2⟩:=aev he hs;exact⟨h1,zE,h2⟩
 cases h
termination_by(last-n*1000000+1000000).toNat
decreasing_by omega
def Qbg{p:Pl}{e:En}{from_ s:Int}(h:Yk p e from_=some s):(1<=e.fr/\e.fr<=1000000)/\from_<=s/\0<=s/\s<=e.la/\s+e.fr<=p.ln/\s<=100000000/\∀x,s<=x->x<s+e.fr->gU p e.it 0 x:=by
 rw[Yk]at h;split at h
 ·cases h
 rename_i hc;obtain⟨h1,h2,h3⟩:=Ys zE h;simp only[mC]at h2;exact⟨zE,zE,zE,zE,zE,zE,h3⟩
def Gw(en:List (Int×Int)):∀(l:List Sp)(f:Int),f<=Uk en l f
 |[],f=>zzbu _
 |r::l,f=>by
  rw[Uk];refine zzhk ?_ (Gw en l _);split<;>omega
def xW(en:List (Int×Int)){l l':List Sp}(h:l.Perm l'):∀f,Uk en l f=Uk en l' f:=by
 induction h with
 |nil=>exact fun _=>rfl
 |cons x _ ih=>intro f;simp only[Uk,ih]
 |swap x y l=>
  intro f;simp only[Uk];congr 1;cases af x.1 en<;>cases af y.1 en<;>simp only<;>omega
 |trans _ _ ih1 ih2=>exact fun f=>(ih1 f).trans (ih2 f)
def rG{id:Int}:∀{l:List En}{i k:Nat},z8 id l i=some k->i<=k/\∃e,l[k-i]?=some e/\e.id=id/\Zh id l=some e
 |[],i,k,h=>by cases h
 |e::r,i,k,h=>by
  rw[z8]at h;split at h
  ·rename_i hc;cases h;exact⟨zzab _,e,zd,hc,by simp[Zh,hc]⟩
  rename_i hc;obtain⟨h1,x,h2,h3,h4⟩:=rG h;refine⟨zE,x,?_,h3,by simp[Zh,hc,h4]⟩;obtain⟨d,hd⟩:∃d,k-i=d+1:=⟨k-i-1,zE⟩;rw[hd,zzcm,<- h2];congr 1;omega
def QV(ki it rg:Int)(c:Cl):Bool:=decide (c.ki=ki)&&(gR c it rg&&Zd c)
def Bm(ki it rg:Int)(c:Cl):∀(l:List Cl)(n:Int),N2 ki it rg (l++[c]) n=if QV ki it rg c=true then c.n else N2 ki it rg l n
 |[],n=>by simp[N2,QV]
 |d::l,n=>by rw[zzad,N2,Bm ki it rg c l,N2]
def Bn(cs:List Cl)(ki it rg:Int):UV:=fun _ f l=>
 if f=193 then .fn 234 [] [.ep [.sl .ro (cs.map Qg)] 0]else if f=191 then(match l with
  |[.agg [.int _ a,.int _ b,.int _ c,.int _ d,.int _ e,.int _ f,.int _ g,.int _ h],_,_]=>.bool (gR ⟨a,b,c,d,e,f,g,h⟩ it rg)
  |_=>.junk)else(match l with
  |[.agg [.int _ a,.int _ b,.int _ c,.int _ d,.int _ e,.int _ f,.int _ g,.int _ h]]=>.bool (Zd ⟨a,b,c,d,e,f,g,h⟩)
  |_=>.junk)
def aew(cs:List Cl)(ki it rg no:Int)(hl:cs.length<=1000000000):Pure Tryz.prog aD 265 [.sl .ro (cs.map Qg),I ki,I it,I rg,I no] (I (N2 ki it rg cs no)):=by
 have alV:=mj cs;have cU:=mq cs hl;obtain⟨T,hT⟩:∃T,N2 ki it rg cs no=T:=⟨_,rfl⟩;rw[hT];refine Qo adr (Bn cs ki it rg) zd ?_;simp[ahW,Bn];refine⟨alV,?_⟩;refine jk (xs:=P7 cs cs.length) zd cU FR (fun i m=>i<=cs.length/\N2 ki it rg (cs.take (cs.length-i)) no=T/\∃bx,m.boxes=[I ki]::[I it]::[I rg]::[I 0]::bx) (fun ex m=>ex=.ret/\∃bx,m.boxes=[I ki]::[I it]::[I rg]::[I T]::bx) ?_ ?_ ?_ ?_ ?_ ?_
 ·exact⟨zE,Nm hT,[],zd⟩
 ·rintro i m m' ⟨h1,h2,bx,h3⟩ ⟨⟨b2,e1⟩,_,_⟩;exact⟨h1,h2,bx++b2,by rw[e1,h3];rfl⟩
 ·rintro ex m m' ⟨h1,bx,h3⟩ ⟨⟨b2,e1⟩,_,_⟩;exact⟨h1,bx++b2,by rw[e1,h3];rfl⟩
 ·rintro l i m x hg hr ⟨h1,h2,bx,hb⟩ hx K' k1 k2 _;obtain⟨k,c,hc,hk,rfl⟩:=xk cs cs.length i x (zzab _) hx;rw[Jm]at hb
  have bA:cs.take (cs.length-i)=cs.take (cs.length-(i+1))++[c]:=by
   rw[show cs.length-i=k+1 by omega,show cs.length-(i+1)=k by omega,zzax,hc];rfl
  rw[bA,Bm]at h2;have c1:=mw c it rg;have c2:=Ky c;by_cases e1:c.ki=ki
  ·subst e1;cases e2:gR c it rg with
   |false=>
    rw[e2]at c1;rw[if_neg (by simp[QV,e2])]at h2;simp[hr,Zr,hb,Qg,Bn,e2];refine⟨by simpa[Qg]using c1,k1 _ ⟨zE,h2,bx++[Qg c],?_⟩⟩;simp[Qg]
   |true=>
    rw[e2]at c1;cases e3:Zd c with
    |false=>
     rw[e3]at c2;rw[if_neg (by simp[QV,e3])]at h2;simp[hr,Zr,hb,Qg,Bn,e2,e3];refine⟨by simpa[Qg]using c1,by simpa[Qg]using c2,k1 _ ⟨zE,h2,bx++[Qg c],?_⟩⟩;simp[Qg]
    |true=>
     rw[e3]at c2;rw[if_pos (by simp[QV,e2,e3])]at h2;simp[hr,Zr,hb,Qg,Bn,e2,e3];refine⟨by simpa[Qg]using c1,by simpa[Qg]using c2,k2 _ ⟨rfl,bx++[Qg c],?_⟩⟩;simp[Qg,h2]
  rw[if_neg (by simp[QV,e1])]at h2;simp[hr,Zr,hb,Qg,Bn,e1];refine k1 _ ⟨zE,h2,bx++[Qg c],?_⟩;simp[Qg]
 ·rintro m ⟨h1,h2,bx,hb⟩;rw[FQ,zzfn,zzhc]at h2;have h2:no=T:=h2;simp[hb,Up,h2]
 rintro ex m ⟨rfl,bx,hb⟩;simp[hb,Up]
def aex(p:Pl)(it:Int)(hc:p.cls.length<=1000000000)(cU:p.aN.length<=1000000000):Pure Tryz.prog aD 226 [.agg (Qa p),I it,I 0] (I (Wu p it)):=by
 have sP:=kT p it cU;have axi:=aew p.cls 3 it 0 (-1) hc
 have asI:Pure Tryz.prog aD 249 [.sl .ro (p.cls.map Qg),I it,I 0] (I (N2 3 it 0 p.cls (-1))):=by
  refine Qo adl (fun _ _ _=>I (N2 3 it 0 p.cls (-1))) zd ?_;simp[ahN,ahO];exact axi
 refine Qo ac5 (fun _ f _=>if f=80 then Zq (Xk it p.aN)else I (N2 3 it 0 p.cls (-1))) zd ?_;cases hf:Xk it p.aN with
 |none=>
  rw[hf]at sP;simp[Na,Nb,Qa,hf,Zq,Wu];exact⟨by simpa[Qa,Zq]using sP,asI⟩
 |some x=>
  rw[hf]at sP;by_cases h5:x.ki=5
  ·simp[Na,Nb,Qa,hf,Zq,Qm,Wu,h5];simpa[Qa,Zq,Qm,h5]using sP
  simp[Na,Nb,Qa,hf,Zq,Qm,Wu,h5];exact⟨by simpa[Qa,Zq,Qm]using sP,asI⟩
def K3(a b:Int)(c:Cl):Bool:=(decide (c.a=a)&&decide (c.b=b))||(decide (c.a=b)&&decide (c.b=a))
def YA(a b:Int)(c:Cl):Bool:=decide (c.ki=5)&&(K3 a b c&&Zd c)
def Bo(a b:Int)(c:Cl)(r:List Cl)(g:Int):pR a b (c::r) g=pR a b r (if YA a b c=true then max g c.n else g):=by
 rw[pR];congr 1;by_cases h:c.ki=5/\(c.a=a/\c.b=b\/c.a=b/\c.b=a)/\Zd c=true
 ·rw[if_pos h,if_pos (by simp[YA,K3,h.1,h.2.2];exact h.2.1)]
 rw[if_neg h,if_neg (by intro h';apply h;simp[YA,K3]at h';exact⟨h'.1,h'.2.1,h'.2.2⟩)]
def Gx{c:Cl}(h:Zd c=true)(h5:c.ki=5):0<=c.n/\c.n<=86400:=by
 unfold Zd at h;simp only[zzac]at h;have h2:=h.2;unfold Wx at h2;simp[h5,wi]at h2;omega
def N3(a b:Int):∀(l:List Cl)(g:Int),0<=g/\g<=86400->0<=pR a b l g/\pR a b l g<=86400
 |[],g,h=>h
 |c::r,g,h=>by
  rw[Bo];apply N3 a b r;split
  ·rename_i hh;simp[YA]at hh;have:=Gx hh.2.2 hh.1;omega
  exact h
def axj(a b T:Int)(cs:List Cl)(f:Nat->AV)(m:AM):Prop:=∃(i:Nat)(g:Int)(bx:T5),f 13=I i/\f 7=I g/\i<=cs.length/\pR a b (cs.drop i) g=T/\m=⟨bx,[],fun _=>.gone,0⟩
def amd(cs:List Cl)(a b:Int)(hl:cs.length<=1000000000):Pure Tryz.prog aD 250 [.sl .ro (cs.map Qg),I a,I b] (I (pR a b cs 0)):=by
 obtain⟨T,hT⟩:∃T,pR a b cs 0=T:=⟨_,rfl⟩;rw[hT];refine Qo adm Bi zd ?_;simp[T9];refine Qk vK (axj a b T cs) (fun f _=>cs.length-(numOf (f 13)).toNat) ?_ ?_
 ·exact⟨0,0,_,zd,zd,zE,Nm hT,rfl⟩
 rintro f m ⟨i,g,bx,eU,h7,hi,hx,rfl⟩;rcases zzaa i cs.length with ai|bn
 ·obtain⟨c,hc⟩:=aV ai;have ah:Qj (cs.map Qg) i=Qg c:=Qu (by simp[hc]);have aa:(i:Int)<(cs.length:Int):=zE
  have hw:=bO i zE;have k:=Ky c;rw[Zb hc,Bo]at hx;have axk:∀E,fP vK E E:=fun E=>Qb _ _;obtain⟨v0,h0⟩:∃v,(c.ki==5)=v:=⟨_,rfl⟩;obtain⟨v1,h1⟩:∃v,(c.a==a)=v:=⟨_,rfl⟩;obtain⟨v2,h2⟩:∃v,(c.b==b)=v:=⟨_,rfl⟩;obtain⟨v3,h3⟩:∃v,(c.a==b)=v:=⟨_,rfl⟩;obtain⟨v4,h4⟩:∃v,(c.b==a)=v:=⟨_,rfl⟩
  have hh:YA a b c=(v0&&(((v1&&v2)||(v3&&v4))&&Zd c)):=by
   rw[<- h0,<- h1,<- h2,<- h3,<- h4];rfl
  obtain⟨v5,h5⟩:∃v,Zd c=v:=⟨_,rfl⟩;have hk5:v5=true->v0=true->0<=c.n/\c.n<=86400:=fun e e'=>Gx (h5.trans e) (by rw[e']at h0;simpa using h0);rw[hh,h5]at hx;rw[h5]at k;have k':Abs.Pure Tryz.prog aD 48 [.agg [I c.ki,I c.it,I c.fr,I c.to,I c.re,I c.n,I c.a,I c.b]] (.bool v5):=k;clear hh k;cases v0
  ·cases v1<;>cases v2<;>cases v3<;>cases v4<;>simp only[Bool.false_and,zzbh,if_false]at hx
   all_goals
    simp[eU,h7,ai,aa,ah,Qg,Bi,h0,h1,h2,h3,h4,vK,hw];refine⟨aQ,⟨i+1,g,_,zd,by simp[h7],zE,hx,rfl⟩,zE⟩
  cases v1<;>cases v2<;>cases v3<;>cases v4<;>cases v5<;>simp only[zzgd,zzhd,zzds,Bool.false_and,Bool.or_true,Bool.or_false,zzfo,Bool.false_or,zzbh,if_false,if_true,Bool.or_self,Bool.and_self]at hx
  all_goals
   simp[eU,h7,ai,aa,ah,Qg,Bi,h0,h1,h2,h3,h4,h5,vK,hw];first
   |(
    refine⟨ag ?_,⟨i+1,g,_,zd,by simp[h7],zE,hx,rfl⟩,zE⟩;repeat(first|exact Qb _ _|refine Qc _ rfl ?_))
   |(
    refine⟨k',ag ?_,⟨i+1,g,_,zd,by simp[h7],zE,hx,rfl⟩,zE⟩;repeat(first|exact Qb _ _|refine Qc _ rfl ?_))
   |(
    refine⟨k',ag ?_,⟨i+1,max g c.n,_,zd,by simp;omega,zE,hx,rfl⟩,zE⟩;repeat(first|exact Qb _ _|refine Qc _ rfl ?_))
 have bQ:¬(i:Int)<(cs.length:Int):=zE
 rw[zzal bn]at hx;have hx:g=T:=hx;subst hx;simp[eU,h7,bQ,zzbk.2 bn,vK,ahP]
def sZ(p:Pl)(a b:Int):UV:=fun d f l=>
 if f=80 then(match l with|[_,.int _ n]=>Zq (Xk n p.aN)|_=>.junk)else if f=132 then .bool (Vh p.nu p.de)else if f=250 then(match l with|[_,.int _ x,.int _ y]=>I (pR x y p.cls 0)|_=>.junk)else
 if f=86 then(match l with|[_,.int _ x]=>I (xE p.nu p.de x)|_=>.junk)else .junk
def ame(p:Pl)(a b:Int)(hc:p.cls.length<=1000000000)(cU:p.aN.length<=1000000000):Pure Tryz.prog aD 227 [.agg (Qa p),I a,I b] (I (Kh p a b)):=by
 have ka:=kT p a cU;have kb:=kT p b cU;have kr:=Wt p.nu p.de;refine Qo ac6 (sZ p a b) zd ?_;cases uQ:Xk a p.aN with
 |none=>
  rw[uQ]at ka;have hg:Kh p a b=0:=by simp[Kh,uQ]
  rw[hg];simp[si,sj,Qa,sZ,uQ,Zq];simpa[Qa,Zq]using ka
 |some x=>
  rw[uQ]at ka;by_cases c1:x.sp=0
  ·have hg:Kh p a b=0:=by cases ua:Xk b p.aN<;>simp[Kh,uQ,ua,c1]
   rw[hg];simp[si,sj,Qa,sZ,uQ,Zq,Qm,c1];simpa[Qa,Zq,Qm,c1]using ka
  cases c2:Vh p.nu p.de with
  |false=>
   rw[c2]at kr;have hg:Kh p a b=0:=by cases ua:Xk b p.aN<;>simp[Kh,uQ,ua,c2]
   rw[hg];simp[si,sj,Qa,sZ,uQ,Zq,Qm,c1,c2];exact⟨by simpa[Qa,Zq,Qm]using ka,kr⟩
  |true=>
   rw[c2]at kr;cases ua:Xk b p.aN with
   |none=>
    rw[ua]at kb;have hg:Kh p a b=0:=by simp[Kh,uQ,ua]
    rw[hg];simp[si,sj,Qa,sZ,uQ,ua,Zq,Qm,c1,c2];exact⟨by simpa[Qa,Zq,Qm]using ka,kr,by simpa[Qa,Zq,Qm]using kb⟩
   |some y=>
    rw[ua]at kb;by_cases c3:y.sp=0
    ·have hg:Kh p a b=0:=by simp[Kh,uQ,ua,c3]
     rw[hg];simp[si,sj,Qa,sZ,uQ,ua,Zq,Qm,c1,c2,c3];exact⟨by simpa[Qa,Zq,Qm]using ka,kr,by simpa[Qa,Zq,Qm,c3]using kb⟩
    by_cases c4:x.sp=y.sp
    ·have hg:Kh p a b=0:=by simp[Kh,uQ,ua,c4]
     rw[hg];simp[si,sj,Qa,sZ,uQ,ua,Zq,Qm,c1,c2,c3,<- c4];rw[<- c4]at c3;exact⟨by simpa[Qa,Zq,Qm]using ka,kr,by simpa[Qa,Zq,Qm,c4]using kb⟩
    have hg:Kh p a b=xE p.nu p.de (pR x.sp y.sp p.cls 0):=by simp[Kh,uQ,ua,c1,c2,c3,c4]
    rw[hg];have kg:=amd p.cls x.sp y.sp hc;have kf:=A9 p.nu p.de (pR x.sp y.sp p.cls 0);simp[si,sj,Qa,sZ,uQ,ua,Zq,Qm,c1,c2,c3,c4];exact⟨by simpa[Qa,Zq,Qm]using ka,kr,by simpa[Qa,Zq,Qm]using kb,kg,kf⟩
structure Bd where
 p:Pl
 at_:Int
 us:List (Int×Int)
 en:List (Int×Int)
 rv:List (Int×(Rt×List Sp))
 li:List (Int×Int)
 pm:List ((Int×Int)×List Sp)
abbrev iA(n:Int):AV:=I n
def rH(x:It):AV:=.agg (Qm x)
def rvA(x:Rt×List Sp):AV:=.sl x.1 (x.2.map Qe)
def St(l:List ((Int×Int)×List Sp)):List (Pi×AV):=l.map fun x=>([x.1.1,x.1.2],.sl .ro (x.2.map Qe))
def Qp(k:Nat)(b:Bd):P2:=Qa b.p++[I b.at_,.mp (k+1),.mp (k+2),.mp (k+3),.mp (k+4),.mp (k+5),.mp (k+6),.mp (k+7),.mp (k+8)]
def aW(k:Nat)(b:Bd)(post:T5):T5:=
 Qa b.p::[.aJ 0 (bG iA (Dk b.p))]::[.aJ 0 (bG rH (z7 b.p))]::[.aJ 0 (bG iA (Ub b.p))]::[.aJ 0 (bG iA b.us)]::[.aJ 0 (bG iA b.en)]::
  [.aJ 0 (bG rvA b.rv)]::[.aJ 0 (bG iA b.li)]::[.aJ 2 (St b.pm)]::Qp k b::post
def aP(pre:T5)(b:Bd)(post:T5)(ls:Pa):AM:=⟨pre++aW pre.length b post,ls,fun _=>.gone,0⟩
def amf(b:Bd):Prop:=∀k v,af k b.li=some v->v=Wu b.p k
def aey(pre post:T5)(ls:Pa)(b:Bd)(it:Int)(hc:b.p.cls.length<=1000000000)(cU:b.p.aN.length<=1000000000)(hli:amf b)(Y:YT)(K:So)
  (hK:∀li,amf {b with li:=li}->K (I (Wu b.p it)) (aP pre {b with li:=li} post ls)):
  aB Tryz.prog aD Y 170 [.ptr (pre.length+9) 0,I it] (aP pre b post ls) K:=by
 have axl:=aex b.p it hc cU;refine Xn acu (fun _ _ _=>I (Wu b.p it)) zd ?_;rcases Xx iA it b.li 0 with⟨h1,h2,h3,h4⟩|⟨u,n,h1,h2,_,_,_,h4⟩
 ·simp[TN,TO,aP,aW,Qp,Qa,h2];refine⟨by simpa[Qa]using axl,?_⟩
  have:=hK (Vm it (Wu b.p it) b.li) (fun k v h=>by
   rw[Jc]at h;split at h
   ·rename_i e;cases h;rw[e]
   exact hli k v h)
  have Su:bG iA b.li++[([it],I (Wu b.p it))]=bG iA (Vm it (Wu b.p it) b.li):=h4 _;rw[Su];exact this
 simp[TN,TO,aP,aW,Qp,Qa,h2];have hu:=hli it u h1;subst hu;exact hK b.li hli
def aez(b:Bd):Prop:=∀k x,af k b.rv=some x->∀it y,Xk it b.p.aN=some y->y.sp=k->x.2.Perm (Kz b.p it)
def xX(p:Pl)(it:Int)(L:List (Int×Int)):List Sp:=L.filterMap fun x=>if 0<Kh p x.2 it then some (x.1,Kh p x.2 it)else none
def atL{α:Type}(d:α)(L:List α)(seen:Pa):List α:=seen.map fun i=>L.getD i d
def aeA{α:Type}(d:α)(L:List α)(seen:Pa)(hn:seen.Nodup)(bD:∀i,i<L.length->i∈seen)(hb:∀i∈seen,i<L.length):(atL d L seen).Perm L:=by
 have hp:seen.Perm (List.range L.length):=by
  rw[zzge hn zzdh];intro i;simp only[zzav];exact⟨hb i,bD i⟩
 have h1:=hp.map fun i=>L.getD i d
 have h2:(List.range L.length).map (fun i=>L.getD i d)=L:=by
  apply zzeu zd;intro i h1 h2;simp[h2]
 rw[h2]at h1;exact h1
def aeB{p:Pl}{a i j:Int}{x y:It}(hi:Xk i p.aN=some x)(hj:Xk j p.aN=some y)(h:x.sp=y.sp):Kh p a i=Kh p a j:=by
 simp only[Kh,hi,hj];cases Xk a p.aN with
 |none=>rfl
 |some z=>simp only[h]
def aeC{p:Pl}{i j:Int}{x y:It}(hi:Xk i p.aN=some x)(hj:Xk j p.aN=some y)(h:x.sp=y.sp):Kz p i=Kz p j:=by
 simp only[Kz,hi,hj,h];cases af y.sp (Ub p)with
 |none=>rfl
 |some _=>simp only[aeB hi hj h]
def xY:∀(l:List It)(a:List (Int×It))(s:List (Int×Int)),af 0 s=none->af 0 (z6 l a s)=none
 |[],a,s,h=>h
 |x::r,a,s,h=>by
  rw[z6];cases af x.id a with
  |some _=>exact xY r a s h
  |none=>
   refine xY r _ _ ?_;split
   ·rw[Jc,if_neg zE];exact h
   exact h
