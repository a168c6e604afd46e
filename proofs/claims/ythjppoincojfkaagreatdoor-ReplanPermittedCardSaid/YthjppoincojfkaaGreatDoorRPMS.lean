import Derived.Test.YthjppoincojfkaaGreatDoorRPMQ
import Derived.Test.YthjppoincojfkaaGreatDoorRPSeB
set_option linter.all false
set_option maxRecDepth 100000
set_option maxHeartbeats 64000000
namespace Go.Proofs.YthjppoincojfkaaGreatDoor
open Go Go.Abs
section
variable {α:Type}
def af(k:Int):List (Int×α)->Option α
 |[]=>none
 |x::r=>if x.1=k then some x.2 else af k r
def Vf(k:Int)(v:α):List (Int×α)->List (Int×α)
 |[]=>[(k,v)]
 |x::r=>if x.1=k then(k,v)::r else x::Vf k v r
def bG(row:α->AV)(l:List (Int×α)):List (Pi×AV):=l.map fun x=>([x.1],row x.2)
@[simp] theorem av5(row:α->AV):bG row []=[]:=rfl
@[simp] def av6(row:α->AV)(l:List (Int×α)):(bG row l).length=l.length:=by simp[bG]
def Xw(row:α->AV)(k:Int):∀(l:List (Int×α))(i:Nat),
  (af k l=none/\Xk [k] (bG row l) i=none/\(∀v,Vf k v l=l++[(k,v)])/\∀v,bG row l++[([k],row v)]=bG row (Vf k v l))\/
  ∃u n,af k l=some u/\Xk [k] (bG row l) i=some (i+n,row u)/\n<l.length/\(bG row l).getD n ([],.junk)=([k],row u)/\(∀v,(Vf k v l).length=l.length)/\∀v,(bG row l).set n ([k],row v)=bG row (Vf k v l)
 |[],i=>.inl ⟨rfl,rfl,fun _=>rfl,fun _=>rfl⟩
 |x::r,i=>by
  by_cases h:x.1=k
  ·refine .inr ⟨x.2,0,by rw[af,if_pos h],by simp[bG,Xk,h],zd,by simp[bG,h],fun v=>by rw[Vf,if_pos h];rfl,fun v=>by rw[Vf,if_pos h];simp[bG]⟩
  have hk:¬([k]:Pi)=[x.1]:=by intro e;cases e;exact h rfl
  rcases Xw row k r (i+1)with⟨h1,h2,h3,h4⟩|⟨u,n,h1,h2,h3,h4,h5,h6⟩
  ·refine .inl ⟨by rw[af,if_neg h];exact h1,?_,fun v=>by rw[Vf,if_neg h,h3];rfl,fun v=>?_⟩
   ·simp only[bG,zzbb,Xk];rw[if_neg hk];exact h2
   rw[Vf,if_neg h];simp only[bG,zzbb,zzae];exact congrArg _ (h4 v)
  refine .inr ⟨u,n+1,by rw[af,if_neg h];exact h1,?_,by simp;omega,by simpa[bG]using h4,fun v=>by rw[Vf,if_neg h];simp[h5 v],fun v=>?_⟩
  ·simp only[bG,zzbb,Xk];rw[if_neg hk,zzfe n 1,<- zzan];exact h2
  rw[Vf,if_neg h];simp only[bG,zzbb,zzdq];exact congrArg _ (h6 v)
def Uk(k q:Int)(v:α):∀l:List (Int×α),af q (Vf k v l)=if q=k then some v else af q l
 |[]=>by
  by_cases h:q=k
  ·subst h;simp[Vf,af]
  have:¬k=q:=fun e=>h e.symm;simp[Vf,af,h,this]
 |x::r=>by
  have ih:=Uk k q v r;by_cases h:x.1=k
  ·rw[Vf,if_pos h];by_cases hq:q=k
   ·subst hq;simp[af]
   have:¬k=q:=fun e=>hq e.symm;have hx:¬x.1=q:=zE
   simp[af,hq,this,hx]
  rw[Vf,if_neg h,af,ih,af];by_cases hx:x.1=q
  ·have:¬q=k:=zE
   simp[hx,this]
  rw[if_neg hx];by_cases hq:q=k<;>simp[hq,hx]
def Gl(k:Int)(v:α):∀l:List (Int×α),(Vf k v l).length<=l.length+1
 |[]=>by simp[Vf]
 |x::r=>by
  rw[Vf];split
  ·simp
  have:=Gl k v r;simp only[zzaz];omega
def aze(l:List (Int×α)):Prop:=(l.map (·.1)).Nodup
end
def Gm:List En->Nat->List (Int×Int)->List (Int×Int)
 |[],_,a=>a
 |e::r,i,a=>Gm r (i+1) (match af e.id a with|some _=>a|none=>Vf e.id (i:Int) a)
def KY:List It->List (Int×It)->List (Int×It)
 |[],a=>a
 |x::r,a=>KY r (match af x.id a with|some _=>a|none=>Vf x.id x a)
def zQ:List It->List (Int×It)->List (Int×Int)->List (Int×Int)
 |[],_,s=>s
 |x::r,a,s=>(match af x.id a with
  |some _=>zQ r a s
  |none=>zQ r (Vf x.id x a) (if 1<=x.sp/\x.sp<=200 then Vf x.sp x.id s else s))
def De(p:Pl):List (Int×Int):=Gm p.ens 0 []
def zR(p:Pl):List (Int×It):=KY p.aM []
def Yy(p:Pl):List (Int×Int):=zQ p.aM [] []
def za(id:Int):List En->Nat->Option Nat
 |[],_=>none
 |e::r,i=>if e.id=id then some i else za id r (i+1)
def N3(id:Int):∀(l:List En)(i:Nat)(a:List (Int×Int)),af id (Gm l i a)=match af id a with|some v=>some v|none=>(za id l i).map fun n=>(n:Int)
 |[],i,a=>by simp only[Gm,za];cases af id a<;>rfl
 |e::r,i,a=>by
  rw[Gm,N3 id r,za];cases h:af e.id a with
  |some v=>
   simp only;cases h':af id a with
   |some u=>rfl
   |none=>
    have:¬e.id=id:=by rintro rfl;rw[h]at h';cases h'
    simp[this]
  |none=>
   simp only;rw[Uk];by_cases e1:id=e.id
   ·subst e1;simp[h]
   have e2:¬e.id=id:=fun h=>e1 h.symm;simp[e1,e2]
def uG(p:Pl)(id:Int):af id (De p)=(za id p.ens 0).map fun n=>(n:Int):=by rw[De,N3];rfl
def N4(id:Int):∀(l:List It)(a:List (Int×It)),af id (KY l a)=match af id a with|some v=>some v|none=>Xj id l
 |[],a=>by simp only[KY,Xj];cases af id a<;>rfl
 |e::r,a=>by
  rw[KY,N4 id r,Xj];cases h:af e.id a with
  |some v=>
   simp only;cases h':af id a with
   |some u=>rfl
   |none=>
    have:¬e.id=id:=by rintro rfl;rw[h]at h';cases h'
    simp[this]
  |none=>
   simp only;rw[Uk];by_cases e1:id=e.id
   ·subst e1;simp[h]
   have e2:¬e.id=id:=fun h=>e1 h.symm;simp[e1,e2]
def uH(p:Pl)(id:Int):af id (zR p)=Xj id p.aM:=by rw[zR,N4];rfl
structure Ad where
 it:Int
 re:Int
 fr:Int
 fs:Int
def Vi(a:Ad):P2:=[I a.it,I a.re,I a.fr,I a.fs]
def rz(a:Ad):Bool:=decide (a.re=0/\0<=a.fr/\a.fr<=100000000/\1<=a.fs/\a.fs<=100000000)
def Vv(u:List (Int×Int))(it:Int):List (Int×Int):=Vf it ((af it u).getD 0+1) u
def Zn(p:Pl)(en:List (Int×Int))(it e:Int):List (Int×Int):=match Xj it p.aM with
 |some x=>Vf x.sp (max ((af x.sp en).getD 0) e) en
 |none=>en
def N5:List Ad->List (Int×Int)->List (Int×Int)
 |[],u=>u
 |a::r,u=>N5 r (if rz a then Vv u a.it else u)
def N6(p:Pl):List Ad->List (Int×Int)->List (Int×Int)
 |[],u=>u
 |a::r,u=>N6 p r (if rz a then Zn p u a.it (a.fr+a.fs)else u)
def N7(ki it rg:Int):List Cl->Int->Int
 |[],n=>n
 |c::r,n=>N7 ki it rg r (if c.ki=ki/\gN c it rg=true/\Zc c=true then c.n else n)
def Wy(p:Pl)(it:Int):Int:=match Xj it p.aM with
 |some x=>if x.ki=5 then -1 else N7 3 it 0 p.cls (-1)
 |none=>N7 3 it 0 p.cls (-1)
def pR(a b:Int):List Cl->Int->Int
 |[],g=>g
 |c::r,g=>pR a b r (if c.ki=5/\(c.a=a/\c.b=b\/c.a=b/\c.b=a)/\Zc c=true then max g c.n else g)
def Ki(p:Pl)(a b:Int):Int:=match Xj a p.aM,Xj b p.aM with
 |some x,some y=>if x.sp=0\/Vd p.nu p.de=false\/y.sp=0\/x.sp=y.sp then 0 else xk p.nu p.de (pR x.sp y.sp p.cls 0)
 |_,_=>0
def Gn(at_ n:Int):List Sp->Option Int
 |[]=>none
 |s::r=>if max s.1 at_<s.2/\n<=s.2-max s.1 at_ then some (max s.1 at_)else Gn at_ n r
def lR(l:List Sp)(at_ n:Int):Option Int:=if n<=0 then some at_ else Gn at_ n (Xm l)
def Xy(p:Pl)(it n:Int):List Sp:=Xm (Vt p it 0 (n*1000000,(n+1)*1000000)++Vt p it 0 ((n+1)*1000000,(n+2)*1000000))
def SB(p:Pl)(e:En)(last from_ n:Int):Option Int:=
 if n*1000000<=last then
  match lR (Xy p e.it n) from_ e.fr with
  |none=>SB p e last from_ (n+1)
  |some s=>if last<s then none else some s
 else none
termination_by(last-n*1000000+1000000).toNat
decreasing_by omega
def mD(p:Pl)(e:En):Int:=min (min e.la (p.ln-e.fr)) 100000000
def Vq(p:Pl)(e:En)(from_:Int):Option Int:=
 if e.fr<1\/1000000<e.fr\/p.ln<e.fr then none else SB p e (mD p e) (max from_ 0) ((max from_ 0).tdiv 1000000)
def Km(p:Pl)(it:Int):List Sp:=match Xj it p.aM with
 |none=>[]
 |some y=>match af y.sp (Yy p)with
  |none=>[]
  |some _=>(Yy p).filterMap fun x=>if 0<Ki p x.2 it then some (x.1,Ki p x.2 it)else none
def Ub(en:List (Int×Int)):List Sp->Int->Int
 |[],f=>f
 |r::l,f=>Ub en l (match af r.1 en with|some e=>max f (e+r.2)|none=>f)
def Uu(p:Pl):Pi->List (Int×Int)->List (Int×Int)->Int->Int->Option (List Sp)
 |[],_,_,_,_=>some []
 |id::r,us,en,free,last=>match za id p.ens 0 with
  |none=>none
  |some k=>if(k:Int)<=last then none else match p.ens[k]? with
   |none=>none
   |some e=>if Wy p e.it≠ -1/\Wy p e.it<=(af e.it us).getD 0 then none else
    match Vq p e (Ub en (Km p e.it) (max e.ea free))with
    |none=>none
    |some s=>match Uu p r (Vv us e.it) (Zn p en e.it (s+e.fr)) (s+e.fr) k with
     |none=>none
     |some l=>some ((id,s)::l)
def Yc(p:Pl)(at_:Int)(past:List Ad)(ids:Pi):Option (List Sp):=Uu p ids (N5 past []) (N6 p past []) at_ (-1)
def Df{at_ n:Int}:∀{l:List Sp}{s:Int},Gn at_ n l=some s->∃a∈l,max a.1 at_=s/\s<a.2/\n<=a.2-s
 |a::r,s,h=>by
  rw[Gn]at h;split at h
  ·rename_i hc;cases h;exact⟨a,zd,rfl,hc.1,hc.2⟩
  obtain⟨b,hb,h1⟩:=Df h;exact⟨b,by simp[hb],h1⟩
def Qck(p:Pl)(it n x:Int):Xu (Xy p it n) x<->n*1000000<=x/\x<(n+2)*1000000/\KZ p it 0 x:=by
 rw[Xy,(Zw _).2,Yq,kS _ _ _ _ (by simp only;omega),kS _ _ _ _ (by simp only;omega)];simp only;constructor
 ·rintro(⟨h1,h2,h3⟩|⟨h1,h2,h3⟩)<;>exact⟨zE,zE,h3⟩
 rintro⟨h1,h2,h3⟩;by_cases h:x<(n+1)*1000000
 ·exact .inl ⟨h1,h,h3⟩
 exact .inr ⟨zE,h2,h3⟩
def aeI{p:Pl}{it n at_ m s:Int}(hm:1<=m)(h:lR (Xy p it n) at_ m=some s):at_<=s/\∀x,s<=x->x<s+m->KZ p it 0 x:=by
 rw[lR,if_neg zE]at h;obtain⟨a,ha,h1,h2,h3⟩:=Df h;refine⟨zE,fun x hx hx2=>?_⟩;have:Xu (Xm (Xy p it n)) x:=⟨a,ha,zE,zE⟩;rw[(Zw _).2,Qck]at this;exact this.2.2
def X7{p:Pl}{e:En}{last from_ n s:Int}(he:1<=e.fr)(h:SB p e last from_ n=some s):from_<=s/\s<=last/\∀x,s<=x->x<s+e.fr->KZ p e.it 0 x:=by
 unfold SB at h;split at h
 ·rename_i hc;cases hs:lR (Xy p e.it n) from_ e.fr with
  |none=>rw[hs]at h;exact X7 he h
  |some t=>
   rw[hs]at h;simp only at h;split at h
   ·cases h
   rename_i hl;cases h;obtain⟨h1,h2⟩:=aeI he hs;exact⟨h1,zE,h2⟩
 cases h
termination_by(last-n*1000000+1000000).toNat
decreasing_by omega
def Jz{p:Pl}{e:En}{from_ s:Int}(h:Vq p e from_=some s):(1<=e.fr/\e.fr<=1000000)/\from_<=s/\0<=s/\s<=e.la/\s+e.fr<=p.ln/\s<=100000000/\∀x,s<=x->x<s+e.fr->KZ p e.it 0 x:=by
 rw[Vq]at h;split at h
 ·cases h
 rename_i hc;obtain⟨h1,h2,h3⟩:=X7 zE h;simp only[mD]at h2;exact⟨zE,zE,zE,zE,zE,zE,h3⟩
def xH(en:List (Int×Int)):∀(l:List Sp)(f:Int),f<=Ub en l f
 |[],f=>zzbt _
 |r::l,f=>by
  rw[Ub];refine zzhl ?_ (xH en l _);split<;>omega
def xI(en:List (Int×Int)){l l':List Sp}(h:l.Perm l'):∀f,Ub en l f=Ub en l' f:=by
 induction h with
 |nil=>exact fun _=>rfl
 |cons x _ ih=>intro f;simp only[Ub,ih]
 |swap x y l=>
  intro f;simp only[Ub];congr 1;cases af x.1 en<;>cases af y.1 en<;>simp only<;>omega
 |trans _ _ ih1 ih2=>exact fun f=>(ih1 f).trans (ih2 f)
def kT{id:Int}:∀{l:List En}{i k:Nat},za id l i=some k->i<=k/\∃e,l[k-i]?=some e/\e.id=id/\Xb id l=some e
 |[],i,k,h=>by cases h
 |e::r,i,k,h=>by
  rw[za]at h;split at h
  ·rename_i hc;cases h;exact⟨zzab _,e,zd,hc,by simp[Xb,hc]⟩
  rename_i hc;obtain⟨h1,x,h2,h3,h4⟩:=kT h;refine⟨zE,x,?_,h3,by simp[Xb,hc,h4]⟩;obtain⟨d,hd⟩:∃d,k-i=d+1:=⟨k-i-1,zE⟩;rw[hd,zzcc,<- h2];congr 1;omega
def QS(ki it rg:Int)(c:Cl):Bool:=decide (c.ki=ki)&&(gN c it rg&&Zc c)
def Bc(ki it rg:Int)(c:Cl):∀(l:List Cl)(n:Int),N7 ki it rg (l++[c]) n=if QS ki it rg c=true then c.n else N7 ki it rg l n
 |[],n=>by simp[N7,QS]
 |d::l,n=>by rw[zzae,N7,Bc ki it rg c l,N7]
def Be(cs:List Cl)(ki it rg:Int):UV:=fun _ f l=>
 if f=193 then .fn 234 [] [.ep [.sl .ro (cs.map Qg)] 0]else if f=191 then(match l with
  |[.agg [.int _ a,.int _ b,.int _ c,.int _ d,.int _ e,.int _ f,.int _ g,.int _ h],_,_]=>.bool (gN ⟨a,b,c,d,e,f,g,h⟩ it rg)
  |_=>.junk)else(match l with
  |[.agg [.int _ a,.int _ b,.int _ c,.int _ d,.int _ e,.int _ f,.int _ g,.int _ h]]=>.bool (Zc ⟨a,b,c,d,e,f,g,h⟩)
  |_=>.junk)
def aeJ(cs:List Cl)(ki it rg no:Int)(hl:cs.length<=1000000000):Pure Tryz.prog aD 265 [.sl .ro (cs.map Qg),I ki,I it,I rg,I no] (I (N7 ki it rg cs no)):=by
 have amd:=mz cs;have cM:=mA cs hl;obtain⟨T,hT⟩:∃T,N7 ki it rg cs no=T:=⟨_,rfl⟩;rw[hT];refine Qp adL (Be cs ki it rg) zd ?_;simp[ail,Be];refine⟨amd,?_⟩;refine je (xs:=P7 cs cs.length) zd cM FX (fun i m=>i<=cs.length/\N7 ki it rg (cs.take (cs.length-i)) no=T/\∃bx,m.boxes=[I ki]::[I it]::[I rg]::[I 0]::bx) (fun ex m=>ex=.ret/\∃bx,m.boxes=[I ki]::[I it]::[I rg]::[I T]::bx) ?_ ?_ ?_ ?_ ?_ ?_
 ·exact⟨zE,Nm hT,[],zd⟩
 ·rintro i m m' ⟨h1,h2,bx,h3⟩ ⟨⟨b2,e1⟩,_,_⟩;exact⟨h1,h2,bx++b2,by rw[e1,h3];rfl⟩
 ·rintro ex m m' ⟨h1,bx,h3⟩ ⟨⟨b2,e1⟩,_,_⟩;exact⟨h1,bx++b2,by rw[e1,h3];rfl⟩
 ·rintro l i m x hg hr ⟨h1,h2,bx,hb⟩ hx K' k1 k2 _;obtain⟨k,c,hc,hk,rfl⟩:=xd cs cs.length i x (zzab _) hx;rw[Jm]at hb
  have bA:cs.take (cs.length-i)=cs.take (cs.length-(i+1))++[c]:=by
   rw[show cs.length-i=k+1 by omega,show cs.length-(i+1)=k by omega,zzb,hc];rfl
  rw[bA,Bc]at h2;have c1:=mB c it rg;have c2:=Wi c;by_cases e1:c.ki=ki
  ·subst e1;cases e2:gN c it rg with
   |false=>
    rw[e2]at c1;rw[if_neg (by simp[QS,e2])]at h2;simp[hr,Zq,hb,Qg,Be,e2];refine⟨by simpa[Qg]using c1,k1 _ ⟨zE,h2,bx++[Qg c],?_⟩⟩;simp[Qg]
   |true=>
    rw[e2]at c1;cases e3:Zc c with
    |false=>
     rw[e3]at c2;rw[if_neg (by simp[QS,e3])]at h2;simp[hr,Zq,hb,Qg,Be,e2,e3];refine⟨by simpa[Qg]using c1,by simpa[Qg]using c2,k1 _ ⟨zE,h2,bx++[Qg c],?_⟩⟩;simp[Qg]
    |true=>
     rw[e3]at c2;rw[if_pos (by simp[QS,e2,e3])]at h2;simp[hr,Zq,hb,Qg,Be,e2,e3];refine⟨by simpa[Qg]using c1,by simpa[Qg]using c2,k2 _ ⟨rfl,bx++[Qg c],?_⟩⟩;simp[Qg,h2]
  rw[if_neg (by simp[QS,e1])]at h2;simp[hr,Zq,hb,Qg,Be,e1];refine k1 _ ⟨zE,h2,bx++[Qg c],?_⟩;simp[Qg]
 ·rintro m ⟨h1,h2,bx,hb⟩;rw[FV,zzfp,zzhd]at h2;have h2:no=T:=h2;simp[hb,UG,h2]
 rintro ex m ⟨rfl,bx,hb⟩;simp[hb,UG]
def aeK(p:Pl)(it:Int)(hc:p.cls.length<=1000000000)(cM:p.aM.length<=1000000000):Pure Tryz.prog aD 226 [.agg (Qa p),I it,I 0] (I (Wy p it)):=by
 have sK:=kQ p it cM;have axH:=aeJ p.cls 3 it 0 (-1) hc
 have asY:Pure Tryz.prog aD 249 [.sl .ro (p.cls.map Qg),I it,I 0] (I (N7 3 it 0 p.cls (-1))):=by
  refine Qp adD (fun _ _ _=>I (N7 3 it 0 p.cls (-1))) zd ?_;simp[aib,aic];exact axH
 refine Qp adp (fun _ f _=>if f=80 then Zj (Xj it p.aM)else I (N7 3 it 0 p.cls (-1))) zd ?_;cases hf:Xj it p.aM with
 |none=>
  rw[hf]at sK;simp[Nl,Nn,Qa,hf,Zj,Wy];exact⟨by simpa[Qa,Zj]using sK,asY⟩
 |some x=>
  rw[hf]at sK;by_cases h5:x.ki=5
  ·simp[Nl,Nn,Qa,hf,Zj,Qj,Wy,h5];simpa[Qa,Zj,Qj,h5]using sK
  simp[Nl,Nn,Qa,hf,Zj,Qj,Wy,h5];exact⟨by simpa[Qa,Zj,Qj]using sK,asY⟩
def K3(a b:Int)(c:Cl):Bool:=(decide (c.a=a)&&decide (c.b=b))||(decide (c.a=b)&&decide (c.b=a))
def X8(a b:Int)(c:Cl):Bool:=decide (c.ki=5)&&(K3 a b c&&Zc c)
def Bf(a b:Int)(c:Cl)(r:List Cl)(g:Int):pR a b (c::r) g=pR a b r (if X8 a b c=true then max g c.n else g):=by
 rw[pR];congr 1;by_cases h:c.ki=5/\(c.a=a/\c.b=b\/c.a=b/\c.b=a)/\Zc c=true
 ·rw[if_pos h,if_pos (by simp[X8,K3,h.1,h.2.2];exact h.2.1)]
 rw[if_neg h,if_neg (by intro h';apply h;simp[X8,K3]at h';exact⟨h'.1,h'.2.1,h'.2.2⟩)]
def Gp{c:Cl}(h:Zc c=true)(h5:c.ki=5):0<=c.n/\c.n<=86400:=by
 unfold Zc at h;simp only[zzac]at h;have h2:=h.2;unfold Gq at h2;simp[h5,wi]at h2;omega
def N8(a b:Int):∀(l:List Cl)(g:Int),0<=g/\g<=86400->0<=pR a b l g/\pR a b l g<=86400
 |[],g,h=>h
 |c::r,g,h=>by
  rw[Bf];apply N8 a b r;split
  ·rename_i hh;simp[X8]at hh;have:=Gp hh.2.2 hh.1;omega
  exact h
def axI(a b T:Int)(cs:List Cl)(f:Nat->AV)(m:AM):Prop:=∃(i:Nat)(g:Int)(bx:T5),f 13=I i/\f 7=I g/\i<=cs.length/\pR a b (cs.drop i) g=T/\m=⟨bx,[],fun _=>.gone,0⟩
def amu(cs:List Cl)(a b:Int)(hl:cs.length<=1000000000):Pure Tryz.prog aD 250 [.sl .ro (cs.map Qg),I a,I b] (I (pR a b cs 0)):=by
 obtain⟨T,hT⟩:∃T,pR a b cs 0=T:=⟨_,rfl⟩;rw[hT];refine Qp adG A9 zd ?_;simp[UF];refine Qi vA (axI a b T cs) (fun f _=>cs.length-(numOf (f 13)).toNat) ?_ ?_
 ·exact⟨0,0,_,zd,zd,zE,Nm hT,rfl⟩
 rintro f m ⟨i,g,bx,eR,h7,hi,hx,rfl⟩;rcases zzaa i cs.length with ai|bq
 ·obtain⟨c,hc⟩:=aV ai;have ah:Qh (cs.map Qg) i=Qg c:=Qu (by simp[hc]);have aa:(i:Int)<(cs.length:Int):=zE
  have hw:=bP i zE;have k:=Wi c;rw[Za hc,Bf]at hx;have axJ:∀E,fJ vA E E:=fun E=>Qb _ _;obtain⟨v0,h0⟩:∃v,(c.ki==5)=v:=⟨_,rfl⟩;obtain⟨v1,h1⟩:∃v,(c.a==a)=v:=⟨_,rfl⟩;obtain⟨v2,h2⟩:∃v,(c.b==b)=v:=⟨_,rfl⟩;obtain⟨v3,h3⟩:∃v,(c.a==b)=v:=⟨_,rfl⟩;obtain⟨v4,h4⟩:∃v,(c.b==a)=v:=⟨_,rfl⟩
  have hh:X8 a b c=(v0&&(((v1&&v2)||(v3&&v4))&&Zc c)):=by
   rw[<- h0,<- h1,<- h2,<- h3,<- h4];rfl
  obtain⟨v5,h5⟩:∃v,Zc c=v:=⟨_,rfl⟩;have hk5:v5=true->v0=true->0<=c.n/\c.n<=86400:=fun e e'=>Gp (h5.trans e) (by rw[e']at h0;simpa using h0);rw[hh,h5]at hx;rw[h5]at k;have k':Abs.Pure Tryz.prog aD 48 [.agg [I c.ki,I c.it,I c.fr,I c.to,I c.re,I c.n,I c.a,I c.b]] (.bool v5):=k;clear hh k;cases v0
  ·cases v1<;>cases v2<;>cases v3<;>cases v4<;>simp only[Bool.false_and,zzbh,if_false]at hx
   all_goals
    simp[eR,h7,ai,aa,ah,Qg,A9,h0,h1,h2,h3,h4,vA,hw];refine⟨aQ,⟨i+1,g,_,zd,by simp[h7],zE,hx,rfl⟩,zE⟩
  cases v1<;>cases v2<;>cases v3<;>cases v4<;>cases v5<;>simp only[zzgg,zzhe,zzdk,Bool.false_and,Bool.or_true,Bool.or_false,Bool.true_or,Bool.false_or,zzbh,if_false,if_true,Bool.or_self,Bool.and_self]at hx
  all_goals
   simp[eR,h7,ai,aa,ah,Qg,A9,h0,h1,h2,h3,h4,h5,vA,hw];first
   |(
    refine⟨ag ?_,⟨i+1,g,_,zd,by simp[h7],zE,hx,rfl⟩,zE⟩;repeat(first|exact Qb _ _|refine Qc _ rfl ?_))
   |(
    refine⟨k',ag ?_,⟨i+1,g,_,zd,by simp[h7],zE,hx,rfl⟩,zE⟩;repeat(first|exact Qb _ _|refine Qc _ rfl ?_))
   |(
    refine⟨k',ag ?_,⟨i+1,max g c.n,_,zd,by simp;omega,zE,hx,rfl⟩,zE⟩;repeat(first|exact Qb _ _|refine Qc _ rfl ?_))
 have bO:¬(i:Int)<(cs.length:Int):=zE
 rw[zzal bq]at hx;have hx:g=T:=hx;subst hx;simp[eR,h7,bO,zzbk.2 bq,vA,aid]
def sS(p:Pl)(a b:Int):UV:=fun d f l=>
 if f=80 then(match l with|[_,.int _ n]=>Zj (Xj n p.aM)|_=>.junk)else if f=132 then .bool (Vd p.nu p.de)else if f=250 then(match l with|[_,.int _ x,.int _ y]=>I (pR x y p.cls 0)|_=>.junk)else
 if f=86 then(match l with|[_,.int _ x]=>I (xk p.nu p.de x)|_=>.junk)else .junk
def amv(p:Pl)(a b:Int)(hc:p.cls.length<=1000000000)(cM:p.aM.length<=1000000000):Pure Tryz.prog aD 227 [.agg (Qa p),I a,I b] (I (Ki p a b)):=by
 have ka:=kQ p a cM;have kb:=kQ p b cM;have kr:=Wx p.nu p.de;refine Qp adq (sS p a b) zd ?_;cases Ef:Xj a p.aM with
 |none=>
  rw[Ef]at ka;have hg:Ki p a b=0:=by simp[Ki,Ef]
  rw[hg];simp[r8,r9,Qa,sS,Ef,Zj];simpa[Qa,Zj]using ka
 |some x=>
  rw[Ef]at ka;by_cases c1:x.sp=0
  ·have hg:Ki p a b=0:=by cases IK:Xj b p.aM<;>simp[Ki,Ef,IK,c1]
   rw[hg];simp[r8,r9,Qa,sS,Ef,Zj,Qj,c1];simpa[Qa,Zj,Qj,c1]using ka
  cases c2:Vd p.nu p.de with
  |false=>
   rw[c2]at kr;have hg:Ki p a b=0:=by cases IK:Xj b p.aM<;>simp[Ki,Ef,IK,c2]
   rw[hg];simp[r8,r9,Qa,sS,Ef,Zj,Qj,c1,c2];exact⟨by simpa[Qa,Zj,Qj]using ka,kr⟩
  |true=>
   rw[c2]at kr;cases IK:Xj b p.aM with
   |none=>
    rw[IK]at kb;have hg:Ki p a b=0:=by simp[Ki,Ef,IK]
    rw[hg];simp[r8,r9,Qa,sS,Ef,IK,Zj,Qj,c1,c2];exact⟨by simpa[Qa,Zj,Qj]using ka,kr,by simpa[Qa,Zj,Qj]using kb⟩
   |some y=>
    rw[IK]at kb;by_cases c3:y.sp=0
    ·have hg:Ki p a b=0:=by simp[Ki,Ef,IK,c3]
     rw[hg];simp[r8,r9,Qa,sS,Ef,IK,Zj,Qj,c1,c2,c3];exact⟨by simpa[Qa,Zj,Qj]using ka,kr,by simpa[Qa,Zj,Qj,c3]using kb⟩
    by_cases c4:x.sp=y.sp
    ·have hg:Ki p a b=0:=by simp[Ki,Ef,IK,c4]
     rw[hg];simp[r8,r9,Qa,sS,Ef,IK,Zj,Qj,c1,c2,c3,<- c4];rw[<- c4]at c3;exact⟨by simpa[Qa,Zj,Qj]using ka,kr,by simpa[Qa,Zj,Qj,c4]using kb⟩
    have hg:Ki p a b=xk p.nu p.de (pR x.sp y.sp p.cls 0):=by simp[Ki,Ef,IK,c1,c2,c3,c4]
    rw[hg];have kg:=amu p.cls x.sp y.sp hc;have kf:=A5 p.nu p.de (pR x.sp y.sp p.cls 0);simp[r8,r9,Qa,sS,Ef,IK,Zj,Qj,c1,c2,c3,c4];exact⟨by simpa[Qa,Zj,Qj]using ka,kr,by simpa[Qa,Zj,Qj]using kb,kg,kf⟩
structure Bd where
 p:Pl
 at_:Int
 us:List (Int×Int)
 en:List (Int×Int)
 rv:List (Int×(Rt×List Sp))
 li:List (Int×Int)
 pm:List ((Int×Int)×List Sp)
abbrev iA(n:Int):AV:=I n
def rA(x:It):AV:=.agg (Qj x)
def rvA(x:Rt×List Sp):AV:=.sl x.1 (x.2.map Qf)
def SD(l:List ((Int×Int)×List Sp)):List (Pi×AV):=l.map fun x=>([x.1.1,x.1.2],.sl .ro (x.2.map Qf))
def Qo(k:Nat)(b:Bd):P2:=Qa b.p++[I b.at_,.mp (k+1),.mp (k+2),.mp (k+3),.mp (k+4),.mp (k+5),.mp (k+6),.mp (k+7),.mp (k+8)]
def aW(k:Nat)(b:Bd)(post:T5):T5:=
 Qa b.p::[.aJ 0 (bG iA (De b.p))]::[.aJ 0 (bG rA (zR b.p))]::[.aJ 0 (bG iA (Yy b.p))]::[.aJ 0 (bG iA b.us)]::[.aJ 0 (bG iA b.en)]::
  [.aJ 0 (bG rvA b.rv)]::[.aJ 0 (bG iA b.li)]::[.aJ 2 (SD b.pm)]::Qo k b::post
def aP(pre:T5)(b:Bd)(post:T5)(ls:Pa):AM:=⟨pre++aW pre.length b post,ls,fun _=>.gone,0⟩
def amw(b:Bd):Prop:=∀k v,af k b.li=some v->v=Wy b.p k
def aeL(pre post:T5)(ls:Pa)(b:Bd)(it:Int)(hc:b.p.cls.length<=1000000000)(cM:b.p.aM.length<=1000000000)(hli:amw b)(Y:YT)(K:So)
  (hK:∀li,amw {b with li:=li}->K (I (Wy b.p it)) (aP pre {b with li:=li} post ls)):
  aB Tryz.prog aD Y 170 [.ptr (pre.length+9) 0,I it] (aP pre b post ls) K:=by
 have axK:=aeK b.p it hc cM;refine Xn acN (fun _ _ _=>I (Wy b.p it)) zd ?_;rcases Xw iA it b.li 0 with⟨h1,h2,h3,h4⟩|⟨u,n,h1,h2,_,_,_,h4⟩
 ·simp[TU,TV,aP,aW,Qo,Qa,h2];refine⟨by simpa[Qa]using axK,?_⟩
  have:=hK (Vf it (Wy b.p it) b.li) (fun k v h=>by
   rw[Uk]at h;split at h
   ·rename_i e;cases h;rw[e]
   exact hli k v h)
  have SE:bG iA b.li++[([it],I (Wy b.p it))]=bG iA (Vf it (Wy b.p it) b.li):=h4 _;rw[SE];exact this
 simp[TU,TV,aP,aW,Qo,Qa,h2];have hu:=hli it u h1;subst hu;exact hK b.li hli
def aeM(b:Bd):Prop:=∀k x,af k b.rv=some x->∀it y,Xj it b.p.aM=some y->y.sp=k->x.2.Perm (Km b.p it)
def xJ(p:Pl)(it:Int)(L:List (Int×Int)):List Sp:=L.filterMap fun x=>if 0<Ki p x.2 it then some (x.1,Ki p x.2 it)else none
def atL{α:Type}(d:α)(L:List α)(seen:Pa):List α:=seen.map fun i=>L.getD i d
def aeN{α:Type}(d:α)(L:List α)(seen:Pa)(hn:seen.Nodup)(bD:∀i,i<L.length->i∈seen)(hb:∀i∈seen,i<L.length):(atL d L seen).Perm L:=by
 have hp:seen.Perm (List.range L.length):=by
  rw[zzgh hn zzdf];intro i;simp only[zzaw];exact⟨hb i,bD i⟩
 have h1:=hp.map fun i=>L.getD i d
 have h2:(List.range L.length).map (fun i=>L.getD i d)=L:=by
  apply zzex zd;intro i h1 h2;simp[h2]
 rw[h2]at h1;exact h1
def aeO{p:Pl}{a i j:Int}{x y:It}(hi:Xj i p.aM=some x)(hj:Xj j p.aM=some y)(h:x.sp=y.sp):Ki p a i=Ki p a j:=by
 simp only[Ki,hi,hj];cases Xj a p.aM with
 |none=>rfl
 |some z=>simp only[h]
def aeP{p:Pl}{i j:Int}{x y:It}(hi:Xj i p.aM=some x)(hj:Xj j p.aM=some y)(h:x.sp=y.sp):Km p i=Km p j:=by
 simp only[Km,hi,hj,h];cases af y.sp (Yy p)with
 |none=>rfl
 |some _=>simp only[aeO hi hj h]
def xK:∀(l:List It)(a:List (Int×It))(s:List (Int×Int)),af 0 s=none->af 0 (zQ l a s)=none
 |[],a,s,h=>h
 |x::r,a,s,h=>by
  rw[zQ];cases af x.id a with
  |some _=>exact xK r a s h
  |none=>
   refine xK r _ _ ?_;split
   ·rw[Uk,if_neg zE];exact h
   exact h
def Qy(n:Int):P2:=[I n]
def X9(LL:List (Rt×List Sp))(f:Nat->AV)(m:AM):Prop:=∃(i:Nat)(bx:T5),f 11=I i/\i<=LL.length/\f 3=I (((LL.take i).map fun x=>x.2).flatten.length:Nat)/\m=⟨bx,[],fun _=>.gone,0⟩
def Ys(LL:List (Rt×List Sp))(f:Nat->AV)(m:AM):Prop:=∃(i:Nat)(rt:Rt)(ls:Pa)(bx:T5),f 27=I i/\i<=LL.length/\f 6=.sl rt (((LL.take i).map fun x=>x.2).flatten.map Qf)/\
 (((LL.take i).map fun x=>x.2).flatten=[]/\rt=.nil/\i=0\/∃k,rt=.own k 2/\ls[k]?=some ((LL.take i).map fun x=>x.2).flatten.length)/\m=⟨bx,ls,fun _=>.gone,0⟩
def N9(LL:List (Rt×List Sp)){i:Nat}{x:Rt×List Sp}(h:LL[i]?=some x):((LL.take (i+1)).map fun x=>x.2).flatten=((LL.take i).map fun x=>x.2).flatten++x.2:=by
 simp[zzb,h]
def Oa(LL:List (Rt×List Sp))(i:Nat):((LL.take i).map fun x=>x.2).flatten.length<=(LL.map fun x=>x.2).flatten.length:=by
 have h:(LL.map fun x=>x.2)=((LL.take i).map fun x=>x.2)++(LL.drop i).map fun x=>x.2:=by rw[<- zzci,zzdo]
 rw[h,zzek,zzak];omega
def uI:UV:=fun _ f _=>if f=270 then .gd false .junk else .junk
def QT(LL:List (Rt×List Sp))(aO:LL≠[])(hl:LL.length<=1000000)(hf:(LL.map fun x=>x.2).flatten.length<=1000000000):Pure Tryz.prog aD 266 [.sl .full (LL.map fun x=>[.sl x.1 (x.2.map Qf)])] (.sl .ro ((LL.map fun x=>x.2).flatten.map Qf)):=by
 have lF:=zzdb.2 aO;have mj:LL.take LL.length=LL:=zzbz;refine Qp adM uI zd ?_;simp[aim];refine Qi Ci (X9 LL) (fun f _=>LL.length-(numOf (f 11)).toNat) ?_ ?_
 ·exact⟨0,[],zd,zE,zd,rfl⟩
 rintro f m ⟨i,bx,pG,hi,h3,rfl⟩;rcases zzaa i LL.length with ai|bq
 ·obtain⟨x,hx⟩:=aV ai;have ah:Qh (LL.map fun x=>[.sl x.1 (x.2.map Qf)]) i=[.sl x.1 (x.2.map Qf)]:=Qu (by simp[hx]);have aa:(i:Int)<(LL.length:Int):=zE
  have hw:=bP i zE;have hc:=N9 LL hx;have qu:=Oa LL (i+1);obtain⟨n,hn⟩:∃n,((LL.take i).map fun x=>x.2).flatten.length=n:=⟨_,rfl⟩;have hcn:((LL.take (i+1)).map fun x=>x.2).flatten.length=n+x.2.length:=by rw[hc,zzak,hn]
  rw[hn]at h3;have fQ:IntKind.i64.wrap ((n:Int)+(x.2.length:Int))=((n+x.2.length:Nat):Int):=by rw[Ql]<;>omega
  have vJ:¬(n:Int)+(x.2.length:Int)<0:=zE
  simp[pG,h3,ai,aa,ah,Ci,hw,fQ,vJ];refine⟨aQ,⟨i+1,_,zd,zE,by rw[hcn];simp[fQ],rfl⟩,zE⟩
 have bO:¬(i:Int)<(LL.length:Int):=zE
 obtain rfl:i=LL.length:=zE
 rw[mj]at h3;obtain⟨n,hn⟩:∃n,(LL.map fun x=>x.2).flatten.length=n:=⟨_,rfl⟩;rw[hn]at h3 hf;have fin:∀(rt:Rt)(ls:Pa),(rt=.nil\/∃k,rt=.own k 2/\ls[k]?=some 0)->∀(E:QQ),True:=fun _ _ _ _=>trivial;simp[pG,h3,bO,zzbk.2 bq,Ci,uI];refine aeQ hf (fun h0=>?_) (fun h0=>?_)
 all_goals
  try simp[pG,h3,Ci]
  refine Qi Cj (Ys LL) (fun f _=>LL.length-(numOf (f 27)).toNat) ?_ ?_
 ·exact⟨0,.nil,[],bx,zd,zE,zd,.inl ⟨zd,rfl,rfl⟩,rfl⟩
 rotate_left
 ·exact⟨0,.own 0 2,[0],bx,zd,zE,zd,.inr ⟨0,rfl,zd⟩,rfl⟩
 all_goals
  clear h0;rintro f m ⟨i,rt,ls,bx,h27,hi,h6,aX,rfl⟩;rcases zzaa i LL.length with ai|bq
  ·obtain⟨x,hx⟩:=aV ai;have ah:Qh (LL.map fun x=>[.sl x.1 (x.2.map Qf)]) i=[.sl x.1 (x.2.map Qf)]:=Qu (by simp[hx]);have aa:(i:Int)<(LL.length:Int):=zE
   have hw:=bP i zE;have hc:=N9 LL hx;have qu:=Oa LL (i+1);obtain⟨F,hF⟩:∃F,((LL.take i).map fun x=>x.2).flatten=F:=⟨_,rfl⟩;rw[hF]at h6 aX hc;rw[hc,zzak,hn]at qu;obtain⟨rfl,rfl,rfl⟩|⟨k,rfl,hk⟩:=aX
   ·have lM:IntKind.i64.wrap 1=1:=by decide
    simp[h27,h6,ai,aa,ah,Cj,hw,lM,uI];refine⟨⟨?_,zE⟩,aQ,⟨1,.own ls.length 2,_,bx,zd,zE,by rw[hc];simp,.inr ⟨ls.length,rfl,by rw[hc];simp⟩,rfl⟩,zE⟩
    ·rintro a b row _ rfl;rfl
   have qv:=(zza.1 hk).1;simp[h27,h6,ai,aa,ah,Cj,hw,hk,uI];refine⟨⟨?_,zE⟩,aQ,⟨i+1,.own k 2,_,bx,zd,zE,by rw[hc];simp,.inr ⟨k,rfl,by rw[hc];simp[qv]⟩,rfl⟩,zE⟩
   ·rintro row (⟨a,b,_,rfl⟩|⟨a,b,_,rfl⟩)<;>rfl
  have bO:¬(i:Int)<(LL.length:Int):=zE
  obtain rfl:i=LL.length:=zE
  rw[mj]at h6 aX;obtain⟨_,_,h0⟩|⟨k,rfl,hk⟩:=aX
  ·omega
  simp[h27,h6,bO,zzbk.2 bq,Cj,ain]
def aeR(LL:List (Rt×Pi))(f:Nat->AV)(m:AM):Prop:=∃(i:Nat)(bx:T5),f 11=I i/\i<=LL.length/\f 3=I (((LL.take i).map fun x=>x.2).flatten.length:Nat)/\m=⟨bx,[],fun _=>.gone,0⟩
def aeS(LL:List (Rt×Pi))(f:Nat->AV)(m:AM):Prop:=∃(i:Nat)(rt:Rt)(ls:Pa)(bx:T5),f 27=I i/\i<=LL.length/\f 6=.sl rt (((LL.take i).map fun x=>x.2).flatten.map Qy)/\
 (((LL.take i).map fun x=>x.2).flatten=[]/\rt=.nil/\i=0\/∃k,rt=.own k 1/\ls[k]?=some ((LL.take i).map fun x=>x.2).flatten.length)/\m=⟨bx,ls,fun _=>.gone,0⟩
def YA(LL:List (Rt×Pi)){i:Nat}{x:Rt×Pi}(h:LL[i]?=some x):((LL.take (i+1)).map fun x=>x.2).flatten=((LL.take i).map fun x=>x.2).flatten++x.2:=by
 simp[zzb,h]
def YB(LL:List (Rt×Pi))(i:Nat):((LL.take i).map fun x=>x.2).flatten.length<=(LL.map fun x=>x.2).flatten.length:=by
 have h:(LL.map fun x=>x.2)=((LL.take i).map fun x=>x.2)++(LL.drop i).map fun x=>x.2:=by rw[<- zzci,zzdo]
 rw[h,zzek,zzak];omega
def Dg:UV:=fun _ f _=>if f=230 then .gd false .junk else .junk
def YC(LL:List (Rt×Pi))(aO:LL≠[])(hl:LL.length<=1000000)(hf:(LL.map fun x=>x.2).flatten.length<=1000000000):Pure Tryz.prog aD 174 [.sl .full (LL.map fun x=>[.sl x.1 (x.2.map Qy)])] (.sl .ro ((LL.map fun x=>x.2).flatten.map Qy)):=by
 have lF:=zzdb.2 aO;have mj:LL.take LL.length=LL:=zzbz;refine Qp acQ Dg zd ?_;simp[ahh];refine Qi B9 (aeR LL) (fun f _=>LL.length-(numOf (f 11)).toNat) ?_ ?_
 ·exact⟨0,[],zd,zE,zd,rfl⟩
 rintro f m ⟨i,bx,pG,hi,h3,rfl⟩;rcases zzaa i LL.length with ai|bq
 ·obtain⟨x,hx⟩:=aV ai;have ah:Qh (LL.map fun x=>[.sl x.1 (x.2.map Qy)]) i=[.sl x.1 (x.2.map Qy)]:=Qu (by simp[hx]);have aa:(i:Int)<(LL.length:Int):=zE
  have hw:=bP i zE;have hc:=YA LL hx;have qu:=YB LL (i+1);obtain⟨n,hn⟩:∃n,((LL.take i).map fun x=>x.2).flatten.length=n:=⟨_,rfl⟩;have hcn:((LL.take (i+1)).map fun x=>x.2).flatten.length=n+x.2.length:=by rw[hc,zzak,hn]
  rw[hn]at h3;have fQ:IntKind.i64.wrap ((n:Int)+(x.2.length:Int))=((n+x.2.length:Nat):Int):=by rw[Ql]<;>omega
  have vJ:¬(n:Int)+(x.2.length:Int)<0:=zE
  simp[pG,h3,ai,aa,ah,B9,hw,fQ,vJ];refine⟨aQ,⟨i+1,_,zd,zE,by rw[hcn];simp[fQ],rfl⟩,zE⟩
 have bO:¬(i:Int)<(LL.length:Int):=zE
 obtain rfl:i=LL.length:=zE
 rw[mj]at h3;obtain⟨n,hn⟩:∃n,(LL.map fun x=>x.2).flatten.length=n:=⟨_,rfl⟩;rw[hn]at h3 hf;have fin:∀(rt:Rt)(ls:Pa),(rt=.nil\/∃k,rt=.own k 1/\ls[k]?=some 0)->∀(E:QQ),True:=fun _ _ _ _=>trivial;simp[pG,h3,bO,zzbk.2 bq,B9,Dg];refine aeT hf (fun h0=>?_) (fun h0=>?_)
 all_goals
  try simp[pG,h3,B9]
  refine Qi Cb (aeS LL) (fun f _=>LL.length-(numOf (f 27)).toNat) ?_ ?_
 ·exact⟨0,.nil,[],bx,zd,zE,zd,.inl ⟨zd,rfl,rfl⟩,rfl⟩
 rotate_left
 ·exact⟨0,.own 0 1,[0],bx,zd,zE,zd,.inr ⟨0,rfl,zd⟩,rfl⟩
 all_goals
  clear h0;rintro f m ⟨i,rt,ls,bx,h27,hi,h6,aX,rfl⟩;rcases zzaa i LL.length with ai|bq
  ·obtain⟨x,hx⟩:=aV ai;have ah:Qh (LL.map fun x=>[.sl x.1 (x.2.map Qy)]) i=[.sl x.1 (x.2.map Qy)]:=Qu (by simp[hx]);have aa:(i:Int)<(LL.length:Int):=zE
   have hw:=bP i zE;have hc:=YA LL hx;have qu:=YB LL (i+1);obtain⟨F,hF⟩:∃F,((LL.take i).map fun x=>x.2).flatten=F:=⟨_,rfl⟩;rw[hF]at h6 aX hc;rw[hc,zzak,hn]at qu;obtain⟨rfl,rfl,rfl⟩|⟨k,rfl,hk⟩:=aX
   ·have lM:IntKind.i64.wrap 1=1:=by decide
    simp[h27,h6,ai,aa,ah,Cb,hw,lM,Dg];refine⟨⟨?_,zE⟩,aQ,⟨1,.own ls.length 1,_,bx,zd,zE,by rw[hc];simp,.inr ⟨ls.length,rfl,by rw[hc];simp⟩,rfl⟩,zE⟩
    ·first|(rintro a _;rfl)|(rintro row a _ rfl;rfl)
   have qv:=(zza.1 hk).1;simp[h27,h6,ai,aa,ah,Cb,hw,hk,Dg];refine⟨⟨?_,zE⟩,aQ,⟨i+1,.own k 1,_,bx,zd,zE,by rw[hc];simp,.inr ⟨k,rfl,by rw[hc];simp[qv]⟩,rfl⟩,zE⟩
   ·rintro row (⟨a,_,rfl⟩|⟨a,_,rfl⟩)<;>rfl
  have bO:¬(i:Int)<(LL.length:Int):=zE
  obtain rfl:i=LL.length:=zE
  rw[mj]at h6 aX;obtain⟨_,_,h0⟩|⟨k,rfl,hk⟩:=aX
  ·omega
  simp[h27,h6,bO,zzbk.2 bq,Cb,ahi]
def YD(A B:List Sp)(h:A.length+B.length<=100000000):Pure Tryz.prog aD 252 [.sl .ro (A.map Qf),.sl .ro (B.map Qf)] (.sl .ro ((Xm (A++B)).map Qf)):=by
 have asZ:=QT [(.ro,A),(.ro,B)] zd zd (by simp;omega);have YF:=Ut (A++B) (by simp;omega);refine Qp adI (fun _ f _=>if f=266 then .sl .ro ((A++B).map Qf)else .sl .ro ((Xm (A++B)).map Qf)) zd ?_;simp at asZ YF;simp[aih,aii];exact⟨asZ,YF⟩
def aeU(s:Sp)(h1:0<=s.1)(h2:s.1<=s.2)(h3:s.2<=9223372036854775807):Pure Tryz.prog aD 251 [.agg (Qf s)] (.int .u64 (s.2-s.1)):=by
 have w1:IntKind.u64.wrap s.1=s.1:=by simp[IntKind.wrap,IntKind.bits,IntKind.signed];omega
 have w2:IntKind.u64.wrap s.2=s.2:=by simp[IntKind.wrap,IntKind.bits,IntKind.signed];omega
 have w3:IntKind.u64.wrap (s.2-s.1)=s.2-s.1:=by simp[IntKind.wrap,IntKind.bits,IntKind.signed];omega
 refine Qp adH (fun _ _ _=>.junk) zd ?_;simp[aie,aif,Qf,w1,w2,w3]
def Gr:Option Int->AV
 |some s=>.aS [I s,.bool true]
 |none=>.aS [I 0,.bool false]
def Gs(L:List Sp):UV:=fun _ f l=>if f=131 then .sl .ro (L.map Qf)else if f=185 then(match l with|[.agg [.int _ a,.int _ b]]=>.bool (decide (b<=a))|_=>.junk)else
 (match l with|[.agg [.int _ a,.int _ b]]=>.int .u64 (b-a)|_=>.junk)
def as0(a n:Int)(L:List Sp)(T:Option Int)(f:Nat->AV)(m:AM):Prop:=∃(i:Nat)(bx:T5),f 17=I i/\i<=L.length/\Gn a n (L.drop i)=T/\m=⟨bx,[],fun _=>.gone,0⟩
def Gt(l:List Sp)(a n:Int)(hl:l.length<=100000000)(ha:0<=a)(hn:1<=n/\n<=1000000)(hb:∀s∈l,s.1<=1000000000000/\s.2<=1000000000000):Pure Tryz.prog aD 228 [.sl .ro (l.map Qf),I a,I n] (Gr (lR l a n)):=by
 have YF:=Ut l hl;obtain⟨T,hT⟩:∃T,lR l a n=T:=⟨_,rfl⟩;rw[hT];rw[lR,if_neg zE]at hT;have hbL:=YG (P:=fun x=>x<=1000000000000) (l:=l) hb;have hLl:=Yu l;generalize Xm l=L at YF hT hbL hLl;have gj:¬n<=0:=zE
 refine Qp adr (Gs L) zd ?_;simp[T9,Gs,gj];refine⟨YF,?_⟩;refine Qi vw (as0 a n L T) (fun f _=>L.length-(numOf (f 17)).toNat) ?_ ?_
 ·exact⟨0,[],zd,zE,Nm hT,rfl⟩
 rintro f m ⟨i,bx,h17,hi,hx,rfl⟩;rcases zzaa i L.length with ai|bq
 ·obtain⟨s,hs⟩:=aV ai;have ah:Qh (L.map Qf) i=Qf s:=Zv hs;have aa:(i:Int)<(L.length:Int):=zE
  have hw:=bP i zE;rw[Za hs,Gn]at hx;obtain⟨q,hq⟩:∃q,max s.1 a=q:=⟨_,rfl⟩;have hqm:(if s.1<a then a else s.1)=q:=zE
  have YH:Abs.Pure Tryz.prog aD 185 [.agg (Qf (q,s.2))] (.bool (decide (s.2<=q))):=nO (q,s.2);rw[hq]at hx;have hu:IntKind.u64.wrap n=n:=by simp[IntKind.wrap,IntKind.bits,IntKind.signed];omega
  by_cases c1:s.2<=q
  ·rw[if_neg zE]at hx;rw[decide_eq_true c1]at YH;simp[h17,ai,aa,ah,Qf,hqm,c1,vw,hw,Gs];refine⟨by simpa[Qf]using YH,aQ,⟨i+1,_,zd,zE,hx,rfl⟩,zE⟩
  have as1:=aeU (q,s.2) (by simp only;omega) (by simp only;omega) (by
   have:=hbL s (zzad hs);simp only;omega)
  rw[decide_eq_false c1]at YH;by_cases c2:n<=s.2-q
  ·rw[if_pos zE]at hx;subst hx;simp[h17,ai,aa,ah,Qf,hqm,c1,c2,hu,vw,Up,Gs,Gr];exact⟨by simpa[Qf]using YH,by simpa[Qf]using as1⟩
  rw[if_neg zE]at hx;simp[h17,ai,aa,ah,Qf,hqm,c1,c2,hu,vw,hw,Gs];refine⟨by simpa[Qf]using YH,by simpa[Qf]using as1,aQ,⟨i+1,_,zd,zE,hx,rfl⟩,zE⟩
 have bO:¬(i:Int)<(L.length:Int):=zE
 rw[zzal bq]at hx;have hx:none=T:=hx;subst hx;simp[h17,bO,zzbk.2 bq,vw,Up,Gr]
def pf(k:Int×Int):List ((Int×Int)×List Sp)->Option (List Sp)
 |[]=>none
 |x::r=>if x.1=k then some x.2 else pf k r
def Gu(k:Int×Int):∀(l:List ((Int×Int)×List Sp))(i:Nat),(pf k l=none/\Xk [k.1,k.2] (SD l) i=none)\/∃v n,pf k l=some v/\Xk [k.1,k.2] (SD l) i=some (n,.sl .ro (v.map Qf))
 |[],i=>.inl ⟨rfl,rfl⟩
 |x::r,i=>by
  by_cases h:x.1=k
  ·exact .inr ⟨x.2,i,by rw[pf,if_pos h],by simp[SD,Xk,h]⟩
  have hk:¬([k.1,k.2]:Pi)=[x.1.1,x.1.2]:=by
   intro e;simp only[List.cons.injEq,and_true]at e;exact h (Prod.ext e.1.symm e.2.symm)
  rcases Gu k r (i+1)with⟨h1,h2⟩|⟨v,n,h1,h2⟩
  ·refine .inl ⟨by rw[pf,if_neg h];exact h1,?_⟩;simp only[SD,zzbb,Xk];rw[if_neg hk];exact h2
  refine .inr ⟨v,n,by rw[pf,if_neg h];exact h1,?_⟩;simp only[SD,zzbb,Xk];rw[if_neg hk];exact h2
def YI(k q:Int×Int)(v:List Sp):∀(l:List ((Int×Int)×List Sp)),pf q (l++[(k,v)])=match pf q l with|some u=>some u|none=>if k=q then some v else none
 |[]=>rfl
 |x::r=>by
  rw[zzae,pf,YI k q v r,pf];by_cases h:x.1=q<;>simp[h]
def K4(b:Bd):Prop:=∀k v,pf k b.pm=some v->v=Xy b.p k.1 k.2
def pmN(b:Bd)(it n:Int):List ((Int×Int)×List Sp):=match pf (it,n) b.pm with
 |some _=>b.pm
 |none=>b.pm++[((it,n),Xy b.p it n)]
def amx{b:Bd}(h:K4 b)(it n:Int):K4 {b with pm:=pmN b it n}:=fun k v hk=>by
 simp only[pmN]at hk;cases hp:pf (it,n) b.pm with
 |some u=>rw[hp]at hk;exact h k v hk
 |none=>
  rw[hp]at hk;simp only[YI]at hk;cases hq:pf k b.pm with
  |some u=>rw[hq]at hk;cases hk;exact h k _ hq
  |none=>
   rw[hq]at hk;simp only at hk;split at hk
   ·rename_i e;cases hk;rw[<- e]
   cases hk
def K5{pre post:T5}{b:Bd}(pm:List ((Int×Int)×List Sp))(ls:Pa)(id:Nat)(cells:P2)(h:(aP pre {b with pm:=pm} post ls).boxes[id]?=some cells):(aP pre b post ls).boxes[id]?=some cells\/YJ cells:=by
 simp only[aP]at h |-
 rcases zzaa id pre.length with ai|bq
 ·rw[zzaj ai]at h |-
  exact .inl h
 rw[zzao bq]at h |-
 match hk:id-pre.length,h with
 |0,h=>exact .inl h
 |1,h=>exact .inl h
 |2,h=>exact .inl h
 |3,h=>exact .inl h
 |4,h=>exact .inl h
 |5,h=>exact .inl h
 |6,h=>exact .inl h
 |7,h=>exact .inl h
 |8,h=>
  refine .inr (.inr ⟨2,SD pm,?_,?_⟩)
  ·simp[aW]at h;exact h.symm
  intro e he;obtain⟨x,_,rfl⟩:=zzar.1 he;exact Idle.ro _
 |9,h=>exact .inl h
 |k+10,h=>exact .inl h
def FrK(pre:T5)(b:Bd)(pm:List ((Int×Int)×List Sp))(post:T5)(ls:Pa)(K:So)(r:AV)(m:AM):Prop:=∃ex,m=aP pre {b with pm:=pm} (post++ex) ls/\Idle r/\K r (aP pre {b with pm:=pm} post ls)
def frK{pre:T5}{b:Bd}{pm:List ((Int×Int)×List Sp)}{post:T5}{ls:Pa}{K:So}{r:AV}{m:AM}(ex:T5)(h:m=aP pre {b with pm:=pm} (post++ex) ls)(hi:Idle r)(hK:K r (aP pre {b with pm:=pm} post ls)):FrK pre b pm post ls K r m:=⟨ex,h,hi,hK⟩
def QU{f:FuncId}{xs:P2}{pre post:T5}{b:Bd}{pm:List ((Int×Int)×List Sp)}{ls:Pa}{Y:YT}{K:So}(h:aB Tryz.prog aD Y f xs (aP pre b post ls) (FrK pre b pm post ls K)):aB Tryz.prog aD Y f xs (aP pre b post ls) K:=by
 refine aB.forget (aB.mono h ?_);rintro r m' ⟨ex,rfl,h1,h2⟩;refine⟨aP pre {b with pm:=pm} post ls,ex,?_,?_,rfl,fun id cells hc=>K5 pm ls id cells hc,h1,h2⟩
 ·simp[aP,aW]
 simp[aP,aW]
def ai8(p:Pl)(it:Int):UV:=fun d f l=>if f=40 then(match l with|[_,_,_,.agg [.int _ a,.int _ c]]=>.sl .ro ((Vt p it 0 (a,c)).map Qf)|_=>.junk)else
 (match l with|[.sl _ a,.sl _ c]=>.sl .ro ((Xm (a.map rq++c.map rq)).map Qf)|_=>.junk)
def pS(l:List Sp):(l.map Qf).map rq=l:=by
 rw[zzcu]
 conv=>rhs;rw[<- List.map_id l]
 exact zzcr fun x _=>rfl
def QV(pre post:T5)(ls:Pa)(b:Bd)(it n:Int)(hn:0<=n/\n<=1000)(hc:b.p.cls.length<=1000000)(fA:b.p.sh.length<=1000000000)(cM:b.p.aM.length<=1000000000)(hpm:K4 b)(Y:YT)(K:So)
  (hK:K (.sl .ro ((Xy b.p it n).map Qf)) (aP pre {b with pm:=pmN b it n} post ls)):
  aB Tryz.prog aD Y 229 [.ptr (pre.length+9) 0,.agg [I it,I n]] (aP pre b post ls) K:=by
 refine QU (pm:=pmN b it n) ?_;have w1:IntKind.i64.wrap (n*1000000)=n*1000000:=by rw[Ql]<;>omega
 have w2:IntKind.i64.wrap (n+1)=n+1:=by rw[Ql]<;>omega
 have w3:IntKind.i64.wrap ((n+1)*1000000)=(n+1)*1000000:=by rw[Ql]<;>omega
 have w4:IntKind.i64.wrap (n+2)=n+2:=by rw[Ql]<;>omega
 have w5:IntKind.i64.wrap ((n+2)*1000000)=(n+2)*1000000:=by rw[Ql]<;>omega
 have k1:=nM b.p it 0 (n*1000000,(n+1)*1000000) hc fA cM (by simp only;omega) (by simp only;omega);have k2:=nM b.p it 0 ((n+1)*1000000,(n+2)*1000000) hc fA cM (by simp only;omega) (by simp only;omega);have l1:=Qde b.p it 0 (n*1000000,(n+1)*1000000);have l2:=Qde b.p it 0 ((n+1)*1000000,(n+2)*1000000);have k3:=YD (Vt b.p it 0 (n*1000000,(n+1)*1000000)) (Vt b.p it 0 ((n+1)*1000000,(n+2)*1000000)) zE;have zx:Xy b.p it n=Xm (Vt b.p it 0 (n*1000000,(n+1)*1000000)++Vt b.p it 0 ((n+1)*1000000,(n+2)*1000000)):=rfl;rw[<- zx]at k3;obtain⟨R,hR⟩:∃R,Xy b.p it n=R:=⟨_,rfl⟩;refine Xn ads (ai8 b.p it) zd ?_;rcases Gu (it,n) b.pm 0 with⟨h1,h2⟩|⟨v,j,h1,h2⟩
 ·have hp:pmN b it n=b.pm++[((it,n),Xy b.p it n)]:=by simp only[pmN,h1]
  have ku:SD (pmN b it n)=SD b.pm++[([it,n],.sl .ro ((Xy b.p it n).map Qf))]:=by rw[hp];simp[SD]
  simp[UA,UB,aP,aW,Qo,Qa,h2,w1,w2,w3,w4,w5,ai8,pS,<- zx];refine⟨by simpa[Qa]using k1,by simpa[Qa]using k2,k3,?_⟩;rw[<- ku];exact frK [[I it,I n]] rfl (Idle.ro _) hK
 have hv:=hpm _ _ h1;have hp:pmN b it n=b.pm:=by simp only[pmN,h1]
 rw[hp]at hK |-
 rw[<- hv]at hK;simp[UA,UB,aP,aW,Qo,Qa,h2];exact frK [[I it,I n]] rfl (Idle.ro _) hK
def K6{p:Pl}{it n:Int}:∀s∈Xy p it n,s.1<=1000000000000/\s.2<=1000000000000:=fun s hs=>by
 have hv:=(Zw (Vt p it 0 (n*1000000,(n+1)*1000000)++Vt p it 0 ((n+1)*1000000,(n+2)*1000000))).1.1 s hs;have h1:Xu (Xy p it n) s.1:=⟨s,hs,zE,zE⟩;have h2:Xu (Xy p it n) (s.2-1):=⟨s,hs,zE,zE⟩;rw[Qck]at h1 h2;obtain⟨_,_,_,_,_,Pf,_⟩:=h1;obtain⟨_,_,_,_,_,hx2,_⟩:=h2;omega
def Gv(p:Pl)(it n:Int):(Xy p it n).length<=2000000:=by
 have h:=Yu (Vt p it 0 (n*1000000,(n+1)*1000000)++Vt p it 0 ((n+1)*1000000,(n+2)*1000000));have l1:=Qde p it 0 (n*1000000,(n+1)*1000000);have l2:=Qde p it 0 ((n+1)*1000000,(n+2)*1000000);rw[zzak]at h;have:(Xy p it n).length<=_:=h;omega
def uJ:UV:=fun _ f l=>if f=229 then .gd false .junk else(match l with|[.sl _ a,.int _ x,.int _ n]=>Gr (lR (a.map rq) x n)|_=>.junk)
def aeV(pre:T5)(b:Bd)(post:T5)(ls:Pa)(e:En)(last from_:Int)(T:Option Int)(f:Nat->AV)(m:AM):Prop:=∃(n:Int)(pm:List ((Int×Int)×List Sp)),
 f 9=I n/\(0<=n/\n<=9223372036854)/\SB b.p e last from_ n=T/\K4 {b with pm:=pm}/\m=aP pre {b with pm:=pm} (post++[Qd e]) ls
def aeW{from_:Int}(h0:0<=from_)(h1:from_<=9223372036854775807):0<=from_.tdiv 1000000/\from_.tdiv 1000000<=9223372036854:=by
 rw[zzcl h0];omega
def Ob(pre post:T5)(ls:Pa)(b:Bd)(e:En)(from_:Int)(hc:b.p.cls.length<=1000000)(fA:b.p.sh.length<=1000000000)(cM:b.p.aM.length<=1000000000)(dD:b.p.ln<=9223372036854775807)(zx:from_<=9223372036854775807)
  (hpm:K4 b)(Y:YT)(K:So)(hK:∀pm ex,K4 {b with pm:=pm}->K (Gr (Vq b.p e from_)) (aP pre {b with pm:=pm} (post++ex) ls)):
  aB Tryz.prog aD Y 172 [.ptr (pre.length+9) 0,.agg (Qd e),I from_] (aP pre b post ls) K:=by
 refine Xn acP uJ zd ?_
 have no:Vq b.p e from_=none->K (.aS [I 0,.bool false]) (aP pre b (post++[Qd e]) ls):=fun h=>by
  have:=hK b.pm [Qd e] hpm;rw[h]at this;exact this
 by_cases c1:e.fr<1
 ·simp[An,vp,aP,aW,Qo,Qa,Qd,c1];exact no (by rw[Vq,if_pos (.inl c1)])
 by_cases c2:1000000<e.fr
 ·simp[An,vp,aP,aW,Qo,Qa,Qd,c1,c2];exact no (by rw[Vq,if_pos (.inr (.inl c2))])
 by_cases c3:b.p.ln<e.fr
 ·simp[An,vp,aP,aW,Qo,Qa,Qd,c1,c2,c3];exact no (by rw[Vq,if_pos (.inr (.inr c3))])
 have hS:Vq b.p e from_=SB b.p e (mD b.p e) (max from_ 0) ((max from_ 0).tdiv 1000000):=by rw[Vq,if_neg zE]
 rw[hS]at hK;clear no;obtain⟨fm,hfm⟩:∃fm,max from_ 0=fm:=⟨_,rfl⟩;have axL:(if from_<0 then 0 else from_)=fm:=zE
 have hf0:0<=fm/\fm<=9223372036854775807:=zE
 obtain⟨d1,d2⟩:=aeW hf0.1 hf0.2;rw[hfm]at hK;have hwq:IntKind.i64.wrap (fm.tdiv 1000000)=fm.tdiv 1000000:=by rw[Ql]<;>omega
 have hwl:IntKind.i64.wrap (b.p.ln-e.fr)=b.p.ln-e.fr:=by rw[Ql]<;>omega
 obtain⟨q,hq⟩:∃q,fm.tdiv 1000000=q:=⟨_,rfl⟩;rw[hq]at hwq d1 d2 hK;obtain⟨la,hla⟩:∃la,mD b.p e=la:=⟨_,rfl⟩;have hlb:la<=100000000:=by rw[<- hla,mD];omega
 rw[hla]at hK;obtain⟨T,hT⟩:∃T,SB b.p e la fm q=T:=⟨_,rfl⟩;rw[hT]at hK;simp[An,aP,aW,Qo,Qa,Qd,c1,c2,c3,hwl,axL,hq,hwq]
 have gL:Pc false (Pc false e.la (b.p.ln-e.fr)) 100000000=la:=by
  rw[<- hla,mD];simp only[Pc];simp;omega
 rw[gL];refine Qi iK (aeV pre b post ls e la fm T) (fun f _=>(la-numOf (f 9)*1000000+1000000).toNat) ?_ ?_
 ·exact⟨q,b.pm,zd,⟨d1,d2⟩,hT,hpm,by simp[aP,aW,Qo,Qa,Qd]⟩
 rintro f m ⟨n,pm,h9,hn,bY,hpm',rfl⟩;have II:IntKind.i64.wrap (n*1000000)=n*1000000:=by rw[Ql]<;>omega
 have hwn:IntKind.i64.wrap (n+1)=n+1:=by rw[Ql]<;>omega
 rw[SB]at bY;by_cases c4:n*1000000<=la
 ·rw[if_pos c4]at bY;have QW:=Gt (Xy b.p e.it n) fm e.fr (by have:=Gv b.p e.it n;omega) hf0.1 zE K6;obtain⟨R,hR⟩:∃R,Xy b.p e.it n=R:=⟨_,rfl⟩;have kf:=fun K'=>QV pre (post++[Qd e]) ls {b with pm:=pm} e.it n zE hc fA cM hpm' Y K';have hpn:=amx hpm' e.it n;obtain⟨Oc,axM⟩:∃Oc,pmN {b with pm:=pm} e.it n=Oc:=⟨_,rfl⟩;rw[axM]at kf hpn;simp only at kf;rw[hR]at bY QW kf;cases hes:lR R fm e.fr with
  |none=>
   rw[hes]at bY QW;simp[h9,iK,II,c4,aP,aW,Qo,Qa,Qd];refine Qbm [(.sl .ro (R.map Qf),aP pre {b with pm:=Oc} (post++[Qd e]) ls)] ?_;simp[h9,iK,II,c4,aP,aW,Qo,Qa,Qd,uJ,pS,hes,Gr,hwn];refine⟨kf _ ⟨rfl,rfl⟩,QW,aQ,⟨n+1,Oc,zd,zE,bY,hpn,by simp[aP,aW,Qo,Qa,Qd]⟩,zE⟩
  |some s=>
   rw[hes]at bY QW;simp only at bY;by_cases c5:la<s
   ·rw[if_pos c5]at bY;subst bY;have:=hK Oc [Qd e] hpn;simp[h9,iK,II,c4,aP,aW,Qo,Qa,Qd];refine Qbm [(.sl .ro (R.map Qf),aP pre {b with pm:=Oc} (post++[Qd e]) ls)] ?_;simp[h9,iK,II,c4,aP,aW,Qo,Qa,Qd,uJ,pS,hes,Gr,c5,vp];refine⟨kf _ ⟨rfl,rfl⟩,QW,?_⟩;simpa[aP,aW,Qo,Qa,Qd,Gr]using this
   rw[if_neg c5]at bY;subst bY;have:=hK Oc [Qd e] hpn;simp[h9,iK,II,c4,aP,aW,Qo,Qa,Qd];refine Qbm [(.sl .ro (R.map Qf),aP pre {b with pm:=Oc} (post++[Qd e]) ls)] ?_;simp[h9,iK,II,c4,aP,aW,Qo,Qa,Qd,uJ,pS,hes,Gr,c5,vp];refine⟨kf _ ⟨rfl,rfl⟩,QW,?_⟩;simpa[aP,aW,Qo,Qa,Qd,Gr]using this
 rw[if_neg c4]at bY;subst bY;have:=hK pm [Qd e] hpm';simp[h9,iK,II,c4,vp];simpa[aP,aW,Qo,Qa,Qd,Gr]using this
def pT(n:Int)(us:List (Int×Int)):Prop:=∀k v,af k us=some v->0<=v/\v<=n
def pT.note{n:Int}{us:List (Int×Int)}(h:pT n us)(hn:0<=n)(it:Int):pT (n+1) (Vv us it):=fun k v hk=>by
 rw[Vv,Uk]at hk;split at hk
 ·cases hk;cases ha:af it us with
  |none=>simp;omega
  |some u=>have:=h it u ha;simp;omega
 have:=h k v hk;omega
def Qdh(p:Pl)(it:Int):(∃n y,Xj it p.aM=some y/\Xk [it] (bG rA (zR p)) 0=some (n,rA y))\/(Xj it p.aM=none/\Xk [it] (bG rA (zR p)) 0=none):=by
 rcases Xw rA it (zR p) 0 with⟨h1,h2,_,_⟩|⟨u,n,h1,h2,_⟩
 ·rw[uH]at h1;exact .inr ⟨h1,h2⟩
 rw[uH]at h1;exact .inl ⟨_,u,h1,h2⟩
def xL(us:List (Int×Int))(it:Int):(Xk [it] (bG iA us) 0=none/\bG iA us++[([it],.int .i64 1)]=bG iA (Vv us it))\/∃u n,af it us=some u/\Xk [it] (bG iA us) 0=some (n,.int .i64 u)/\(bG iA us).set n ([it],.int .i64 (u+1))=bG iA (Vv us it):=by
 rcases Xw iA it us 0 with⟨h1,h2,_,h4⟩|⟨u,n,h1,h2,_,_,_,h4⟩
 ·exact .inl ⟨h2,by rw[Vv,h1];exact h4 1⟩
 exact .inr ⟨u,n,h1,by rw[h2,zzbs],by rw[Vv,h1];exact h4 (u+1)⟩
def Qee(p:Pl)(en:List (Int×Int))(it e:Int){y:It}(hy:Xj it p.aM=some y):(Xk [y.sp] (bG iA en) 0=none/\bG iA en++[([y.sp],.int .i64 (if 0<e then e else 0))]=bG iA (Zn p en it e))\/∃u n,af y.sp en=some u/\Xk [y.sp] (bG iA en) 0=some (n,.int .i64 u)/\(bG iA en).set n ([y.sp],.int .i64 (if u<e then e else u))=bG iA (Zn p en it e):=by
 rcases Xw iA y.sp en 0 with⟨h1,h2,_,h4⟩|⟨u,n,h1,h2,_,_,_,h4⟩
 ·refine .inl ⟨h2,?_⟩;have:(if 0<e then e else 0)=max 0 e:=zE
  simp only[Zn,hy,h1,this];exact h4 _
 refine .inr ⟨u,n,h1,by rw[h2,zzbs],?_⟩;have:(if u<e then e else u)=max u e:=zE
 simp only[Zn,hy,h1,this];exact h4 _
def YK(pre p0 bx:T5)(ls:Pa)(b:Bd)(us en:List (Int×Int))(it e:Int)(hu:pT 1000000000 us)(Y:YT)(K:So)(hK:∀ex,K (.aS []) (aP pre b (p0++([.aJ 0 (bG iA (Vv us it))]::[.aJ 0 (bG iA (Zn b.p en it e))]::(bx++ex))) ls)):
  aB Tryz.prog aD Y 168 [.ptr (pre.length+9) 0,.mp (pre.length+(p0.length+10)),.mp (pre.length+(p0.length+11)),I it,I e] (aP pre b (p0++([.aJ 0 (bG iA us)]::[.aJ 0 (bG iA en)]::bx)) ls) K:=by
 refine Xn M3 (fun _ _ _=>.junk) zd ?_;have w1:IntKind.i64.wrap 1=1:=by decide
 rcases xL us it with⟨u2,u4⟩|⟨u,n,u1,u2,u4⟩
 ·rcases Qdh b.p it with⟨ni,y,hy,hi⟩|⟨hy,hi⟩
  ·rcases Qee b.p en it e hy with⟨e2,e4⟩|⟨v,nv,e1,e2,e4⟩
   ·simp[fC,fD,aP,aW,Qo,Qa,hi,rA,Qj,u2,e2,w1];rw[u4,e4];simpa[aP,aW,Qo,Qa,Qj]using hK [Qj y]
   simp[fC,fD,aP,aW,Qo,Qa,hi,rA,Qj,u2,e2,w1];rw[u4,e4];simpa[aP,aW,Qo,Qa,Qj]using hK [Qj y]
  have he:Zn b.p en it e=en:=by simp only[Zn,hy]
  rw[he]at hK;simp[fC,fD,aP,aW,Qo,Qa,hi,u2,w1];rw[u4];simpa[aP,aW,Qo,Qa]using hK [[I 0,I 0,I 0,I 0,I 0]]
 have hb:=hu it u u1;have wu:IntKind.i64.wrap (u+1)=u+1:=by rw[Ql]<;>omega
 rcases Qdh b.p it with⟨ni,y,hy,hi⟩|⟨hy,hi⟩
 ·rcases Qee b.p en it e hy with⟨e2,e4⟩|⟨v,nv,e1,e2,e4⟩
  ·simp[fC,fD,aP,aW,Qo,Qa,hi,rA,Qj,u2,e2,wu];rw[u4,e4];simpa[aP,aW,Qo,Qa,Qj]using hK [Qj y]
  simp[fC,fD,aP,aW,Qo,Qa,hi,rA,Qj,u2,e2,wu];rw[u4,e4];simpa[aP,aW,Qo,Qa,Qj]using hK [Qj y]
 have he:Zn b.p en it e=en:=by simp only[Zn,hy]
 rw[he]at hK;simp[fC,fD,aP,aW,Qo,Qa,hi,u2,wu];rw[u4];simpa[aP,aW,Qo,Qa]using hK [[I 0,I 0,I 0,I 0,I 0]]
def aeX(pre post:T5)(ls:Pa)(b:Bd)(us en:List (Int×Int))(it e:Int)(hu:pT 1000000000 us)(Y:YT)(K:So)(hK:∀ex,K (.aS []) (aP pre {b with us:=Vv us it,en:=Zn b.p en it e} (post++ex) ls)):
  aB Tryz.prog aD Y 168 [.ptr (pre.length+9) 0,.mp (pre.length+4),.mp (pre.length+5),I it,I e] (aP pre {b with us:=us,en:=en} post ls) K:=by
 refine Xn M3 (fun _ _ _=>.junk) zd ?_;have w1:IntKind.i64.wrap 1=1:=by decide
 rcases xL us it with⟨u2,u4⟩|⟨u,n,u1,u2,u4⟩
 ·rcases Qdh b.p it with⟨ni,y,hy,hi⟩|⟨hy,hi⟩
  ·rcases Qee b.p en it e hy with⟨e2,e4⟩|⟨v,nv,e1,e2,e4⟩
   ·simp[fC,fD,aP,aW,Qo,Qa,hi,rA,Qj,u2,e2,w1];rw[u4,e4];simpa[aP,aW,Qo,Qa,Qj]using hK [Qj y]
   simp[fC,fD,aP,aW,Qo,Qa,hi,rA,Qj,u2,e2,w1];rw[u4,e4];simpa[aP,aW,Qo,Qa,Qj]using hK [Qj y]
  have he:Zn b.p en it e=en:=by simp only[Zn,hy]
  rw[he]at hK;simp[fC,fD,aP,aW,Qo,Qa,hi,u2,w1];rw[u4];simpa[aP,aW,Qo,Qa]using hK [[I 0,I 0,I 0,I 0,I 0]]
 have hb:=hu it u u1;have wu:IntKind.i64.wrap (u+1)=u+1:=by rw[Ql]<;>omega
 rcases Qdh b.p it with⟨ni,y,hy,hi⟩|⟨hy,hi⟩
 ·rcases Qee b.p en it e hy with⟨e2,e4⟩|⟨v,nv,e1,e2,e4⟩
  ·simp[fC,fD,aP,aW,Qo,Qa,hi,rA,Qj,u2,e2,wu];rw[u4,e4];simpa[aP,aW,Qo,Qa,Qj]using hK [Qj y]
  simp[fC,fD,aP,aW,Qo,Qa,hi,rA,Qj,u2,e2,wu];rw[u4,e4];simpa[aP,aW,Qo,Qa,Qj]using hK [Qj y]
 have he:Zn b.p en it e=en:=by simp only[Zn,hy]
 rw[he]at hK;simp[fC,fD,aP,aW,Qo,Qa,hi,u2,wu];rw[u4];simpa[aP,aW,Qo,Qa]using hK [[I 0,I 0,I 0,I 0,I 0]]
