import Derived.Test.YtnopaopphmjnmaaGreatDoorMQMQ
import Derived.Test.YtnopaopphmjnmaaGreatDoorMQSeB
set_option linter.all false
set_option maxRecDepth 100000
set_option maxHeartbeats 64000000
namespace Go.Proofs.YtnopaopphmjnmaaGreatDoor
open Go Go.Abs
section
variable {α:Type}
def af(k:Int):List (Int×α)->Option α
 |[]=>none
 |x::r=>if x.1=k then some x.2 else af k r
def Zr(k:Int)(v:α):List (Int×α)->List (Int×α)
 |[]=>[(k,v)]
 |x::r=>if x.1=k then(k,v)::r else x::Zr k v r
def bH(row:α->AV)(l:List (Int×α)):List (List Int×AV):=l.map fun x=>([x.1],row x.2)
@[simp] theorem awZ(row:α->AV):bH row []=[]:=rfl
@[simp] def aw0(row:α->AV)(l:List (Int×α)):(bH row l).length=l.length:=by simp[bH]
def Xq(row:α->AV)(k:Int):∀(l:List (Int×α))(i:Nat),
  (af k l=none/\Xl [k] (bH row l) i=none/\(∀v,Zr k v l=l++[(k,v)])/\∀v,bH row l++[([k],row v)]=bH row (Zr k v l))\/
  ∃u n,af k l=some u/\Xl [k] (bH row l) i=some (i+n,row u)/\n<l.length/\(bH row l).getD n ([],.junk)=([k],row u)/\(∀v,(Zr k v l).length=l.length)/\∀v,(bH row l).set n ([k],row v)=bH row (Zr k v l)
 |[],i=>.inl ⟨rfl,rfl,fun _=>rfl,fun _=>rfl⟩
 |x::r,i=>by
  by_cases h:x.1=k
  ·refine .inr ⟨x.2,0,by rw[af,if_pos h],by simp[bH,Xl,h],zd,by simp[bH,h],fun v=>by rw[Zr,if_pos h];rfl,fun v=>by rw[Zr,if_pos h];simp[bH]⟩
  have hk:¬([k]:List Int)=[x.1]:=by intro e;cases e;exact h rfl
  rcases Xq row k r (i+1)with⟨h1,h2,h3,h4⟩|⟨u,n,h1,h2,h3,h4,h5,h6⟩
  ·refine .inl ⟨by rw[af,if_neg h];exact h1,?_,fun v=>by rw[Zr,if_neg h,h3];rfl,fun v=>?_⟩
   ·simp only[bH,zzay,Xl];rw[if_neg hk];exact h2
   rw[Zr,if_neg h];simp only[bH,zzay,zzad];exact congrArg _ (h4 v)
  refine .inr ⟨u,n+1,by rw[af,if_neg h];exact h1,?_,by simp;omega,by simpa[bH]using h4,fun v=>by rw[Zr,if_neg h];simp[h5 v],fun v=>?_⟩
  ·simp only[bH,zzay,Xl];rw[if_neg hk,zzfl n 1,<- zzao];exact h2
  rw[Zr,if_neg h];simp only[bH,zzay,zzdz];exact congrArg _ (h6 v)
def Yf(k q:Int)(v:α):∀l:List (Int×α),af q (Zr k v l)=if q=k then some v else af q l
 |[]=>by
  by_cases h:q=k
  ·subst h;simp[Zr,af]
  have:¬k=q:=fun e=>h e.symm;simp[Zr,af,h,this]
 |x::r=>by
  have ih:=Yf k q v r;by_cases h:x.1=k
  ·rw[Zr,if_pos h];by_cases hq:q=k
   ·subst hq;simp[af]
   have:¬k=q:=fun e=>hq e.symm;have hx:¬x.1=q:=zE
   simp[af,hq,this,hx]
  rw[Zr,if_neg h,af,ih,af];by_cases hx:x.1=q
  ·have:¬q=k:=zE
   simp[hx,this]
  rw[if_neg hx];by_cases hq:q=k<;>simp[hq,hx]
def G4(k:Int)(v:α):∀l:List (Int×α),(Zr k v l).length<=l.length+1
 |[]=>by simp[Zr]
 |x::r=>by
  rw[Zr];split
  ·simp
  have:=G4 k v r;simp only[zzbe];omega
def azB(l:List (Int×α)):Prop:=(l.map (·.1)).Nodup
end
def G5:List En->Nat->List (Int×Int)->List (Int×Int)
 |[],_,a=>a
 |e::r,i,a=>G5 r (i+1) (match af e.id a with|some _=>a|none=>Zr e.id (i:Int) a)
def L8:List It->List (Int×It)->List (Int×It)
 |[],a=>a
 |x::r,a=>L8 r (match af x.id a with|some _=>a|none=>Zr x.id x a)
def Af:List It->List (Int×It)->List (Int×Int)->List (Int×Int)
 |[],_,s=>s
 |x::r,a,s=>(match af x.id a with
  |some _=>Af r a s
  |none=>Af r (Zr x.id x a) (if 1<=x.sp/\x.sp<=200 then Zr x.sp x.id s else s))
def DM(p:Pl):List (Int×Int):=G5 p.ens 0 []
def Ag(p:Pl):List (Int×It):=L8 p.aN []
def Uf(p:Pl):List (Int×Int):=Af p.aN [] []
def Ah(id:Int):List En->Nat->Option Nat
 |[],_=>none
 |e::r,i=>if e.id=id then some i else Ah id r (i+1)
def Pb(id:Int):∀(l:List En)(i:Nat)(a:List (Int×Int)),af id (G5 l i a)=match af id a with|some v=>some v|none=>(Ah id l i).map fun n=>(n:Int)
 |[],i,a=>by simp only[G5,Ah];cases af id a<;>rfl
 |e::r,i,a=>by
  rw[G5,Pb id r,Ah];cases h:af e.id a with
  |some v=>
   simp only;cases h':af id a with
   |some u=>rfl
   |none=>
    have:¬e.id=id:=by rintro rfl;rw[h]at h';cases h'
    simp[this]
  |none=>
   simp only;rw[Yf];by_cases e1:id=e.id
   ·subst e1;simp[h]
   have e2:¬e.id=id:=fun h=>e1 h.symm;simp[e1,e2]
def uZ(p:Pl)(id:Int):af id (DM p)=(Ah id p.ens 0).map fun n=>(n:Int):=by rw[DM,Pb];rfl
def Pc(id:Int):∀(l:List It)(a:List (Int×It)),af id (L8 l a)=match af id a with|some v=>some v|none=>Xh id l
 |[],a=>by simp only[L8,Xh];cases af id a<;>rfl
 |e::r,a=>by
  rw[L8,Pc id r,Xh];cases h:af e.id a with
  |some v=>
   simp only;cases h':af id a with
   |some u=>rfl
   |none=>
    have:¬e.id=id:=by rintro rfl;rw[h]at h';cases h'
    simp[this]
  |none=>
   simp only;rw[Yf];by_cases e1:id=e.id
   ·subst e1;simp[h]
   have e2:¬e.id=id:=fun h=>e1 h.symm;simp[e1,e2]
def u5(p:Pl)(id:Int):af id (Ag p)=Xh id p.aN:=by rw[Ag,Pc];rfl
structure Ad where
 it:Int
 re:Int
 fr:Int
 fs:Int
def Vl(a:Ad):List AV:=[I a.it,I a.re,I a.fr,I a.fs]
def rR(a:Ad):Bool:=decide (a.re=0/\0<=a.fr/\a.fr<=100000000/\1<=a.fs/\a.fs<=100000000)
def Vu(u:List (Int×Int))(it:Int):List (Int×Int):=Zr it ((af it u).getD 0+1) u
def Zt(p:Pl)(en:List (Int×Int))(it e:Int):List (Int×Int):=match Xh it p.aN with
 |some x=>Zr x.sp (max ((af x.sp en).getD 0) e) en
 |none=>en
def Pd:List Ad->List (Int×Int)->List (Int×Int)
 |[],u=>u
 |a::r,u=>Pd r (if rR a then Vu u a.it else u)
def Pe(p:Pl):List Ad->List (Int×Int)->List (Int×Int)
 |[],u=>u
 |a::r,u=>Pe p r (if rR a then Zt p u a.it (a.fr+a.fs)else u)
def Pf(ki it rg:Int):List Cl->Int->Int
 |[],n=>n
 |c::r,n=>Pf ki it rg r (if c.ki=ki/\RT c it rg=true/\Xj c=true then c.n else n)
def Wy(p:Pl)(it:Int):Int:=match Xh it p.aN with
 |some x=>if x.ki=5 then -1 else Pf 3 it 0 p.cls (-1)
 |none=>Pf 3 it 0 p.cls (-1)
def p9(a b:Int):List Cl->Int->Int
 |[],g=>g
 |c::r,g=>p9 a b r (if c.ki=5/\(c.a=a/\c.b=b\/c.a=b/\c.b=a)/\Xj c=true then max g c.n else g)
def Kl(p:Pl)(a b:Int):Int:=match Xh a p.aN,Xh b p.aN with
 |some x,some y=>if x.sp=0\/Vh p.nu p.de=false\/y.sp=0\/x.sp=y.sp then 0 else xM p.nu p.de (p9 x.sp y.sp p.cls 0)
 |_,_=>0
def G6(at_ n:Int):List Sp->Option Int
 |[]=>none
 |s::r=>if max s.1 at_<s.2/\n<=s.2-max s.1 at_ then some (max s.1 at_)else G6 at_ n r
def me(l:List Sp)(at_ n:Int):Option Int:=if n<=0 then some at_ else G6 at_ n (Xn l)
def Zc(p:Pl)(it n:Int):List Sp:=Xn (Vq p it 0 (n*1000000,(n+1)*1000000)++Vq p it 0 ((n+1)*1000000,(n+2)*1000000))
def UB(p:Pl)(e:En)(last from_ n:Int):Option Int:=
 if n*1000000<=last then
  match me (Zc p e.it n) from_ e.fr with
  |none=>UB p e last from_ (n+1)
  |some s=>if last<s then none else some s
 else none
termination_by(last-n*1000000+1000000).toNat
decreasing_by omega
def mX(p:Pl)(e:En):Int:=min (min e.la (p.ln-e.fr)) 100000000
def Yi(p:Pl)(e:En)(from_:Int):Option Int:=
 if e.fr<1\/1000000<e.fr\/p.ln<e.fr then none else UB p e (mX p e) (max from_ 0) ((max from_ 0).tdiv 1000000)
def Wh(p:Pl)(it:Int):List Sp:=match Xh it p.aN with
 |none=>[]
 |some y=>match af y.sp (Uf p)with
  |none=>[]
  |some _=>(Uf p).filterMap fun x=>if 0<Kl p x.2 it then some (x.1,Kl p x.2 it)else none
def Um(en:List (Int×Int)):List Sp->Int->Int
 |[],f=>f
 |r::l,f=>Um en l (match af r.1 en with|some e=>max f (e+r.2)|none=>f)
def Jq(p:Pl):List Int->List (Int×Int)->List (Int×Int)->Int->Int->Option (List Sp)
 |[],_,_,_,_=>some []
 |id::r,us,en,free,last=>match Ah id p.ens 0 with
  |none=>none
  |some k=>if(k:Int)<=last then none else match p.ens[k]? with
   |none=>none
   |some e=>if Wy p e.it≠ -1/\Wy p e.it<=(af e.it us).getD 0 then none else
    match Yi p e (Um en (Wh p e.it) (max e.ea free))with
    |none=>none
    |some s=>match Jq p r (Vu us e.it) (Zt p en e.it (s+e.fr)) (s+e.fr) k with
     |none=>none
     |some l=>some ((id,s)::l)
def Yu(p:Pl)(at_:Int)(past:List Ad)(ids:List Int):Option (List Sp):=Jq p ids (Pd past []) (Pe p past []) at_ (-1)
def DN{at_ n:Int}:∀{l:List Sp}{s:Int},G6 at_ n l=some s->∃a∈l,max a.1 at_=s/\s<a.2/\n<=a.2-s
 |a::r,s,h=>by
  rw[G6]at h;split at h
  ·rename_i hc;cases h;exact⟨a,zd,rfl,hc.1,hc.2⟩
  obtain⟨b,hb,h1⟩:=DN h;exact⟨b,by simp[hb],h1⟩
def Qck(p:Pl)(it n x:Int):Xx (Zc p it n) x<->n*1000000<=x/\x<(n+2)*1000000/\ic p it 0 x:=by
 rw[Zc,(Va _).2,Yw,lF _ _ _ _ (by simp only;omega),lF _ _ _ _ (by simp only;omega)];simp only;constructor
 ·rintro(⟨h1,h2,h3⟩|⟨h1,h2,h3⟩)<;>exact⟨zE,zE,h3⟩
 rintro⟨h1,h2,h3⟩;by_cases h:x<(n+1)*1000000
 ·exact .inl ⟨h1,h,h3⟩
 exact .inr ⟨zE,h2,h3⟩
def af0{p:Pl}{it n at_ m s:Int}(hm:1<=m)(h:me (Zc p it n) at_ m=some s):at_<=s/\∀x,s<=x->x<s+m->ic p it 0 x:=by
 rw[me,if_neg zE]at h;obtain⟨a,ha,h1,h2,h3⟩:=DN h;refine⟨zE,fun x hx hx2=>?_⟩;have:Xx (Xn (Zc p it n)) x:=⟨a,ha,zE,zE⟩;rw[(Va _).2,Qck]at this;exact this.2.2
def Z9{p:Pl}{e:En}{last from_ n s:Int}(he:1<=e.fr)(h:UB p e last from_ n=some s):from_<=s/\s<=last/\∀x,s<=x->x<s+e.fr->ic p e.it 0 x:=by
 unfold UB at h;split at h
 ·rename_i hc;cases hs:me (Zc p e.it n) from_ e.fr with
  |none=>rw[hs]at h;exact Z9 he h
  |some t=>
   rw[hs]at h;simp only at h;split at h
   ·cases h
   rename_i hl;cases h;obtain⟨h1,h2⟩:=af0 he hs;exact⟨h1,zE,h2⟩
 cases h
termination_by(last-n*1000000+1000000).toNat
decreasing_by omega
def Qbh{p:Pl}{e:En}{from_ s:Int}(h:Yi p e from_=some s):(1<=e.fr/\e.fr<=1000000)/\from_<=s/\0<=s/\s<=e.la/\s+e.fr<=p.ln/\s<=100000000/\∀x,s<=x->x<s+e.fr->ic p e.it 0 x:=by
 rw[Yi]at h;split at h
 ·cases h
 rename_i hc;obtain⟨h1,h2,h3⟩:=Z9 zE h;simp only[mX]at h2;exact⟨zE,zE,zE,zE,zE,zE,h3⟩
def G7(en:List (Int×Int)):∀(l:List Sp)(f:Int),f<=Um en l f
 |[],f=>zzbq _
 |r::l,f=>by
  rw[Um];refine zzgz ?_ (G7 en l _);split<;>omega
def yd(en:List (Int×Int)){l l':List Sp}(h:l.Perm l'):∀f,Um en l f=Um en l' f:=by
 induction h with
 |nil=>exact fun _=>rfl
 |cons x _ ih=>intro f;simp only[Um,ih]
 |swap x y l=>
  intro f;simp only[Um];congr 1;cases af x.1 en<;>cases af y.1 en<;>simp only<;>omega
 |trans _ _ ih1 ih2=>exact fun f=>(ih1 f).trans (ih2 f)
def rS{id:Int}:∀{l:List En}{i k:Nat},Ah id l i=some k->i<=k/\∃e,l[k-i]?=some e/\e.id=id/\Zh id l=some e
 |[],i,k,h=>by cases h
 |e::r,i,k,h=>by
  rw[Ah]at h;split at h
  ·rename_i hc;cases h;exact⟨zzab _,e,zd,hc,by simp[Zh,hc]⟩
  rename_i hc;obtain⟨h1,x,h2,h3,h4⟩:=rS h;refine⟨zE,x,?_,h3,by simp[Zh,hc,h4]⟩;obtain⟨d,hd⟩:∃d,k-i=d+1:=⟨k-i-1,zE⟩;rw[hd,zzdh,<- h2];congr 1;omega
def Sq(ki it rg:Int)(c:Cl):Bool:=decide (c.ki=ki)&&(RT c it rg&&Xj c)
def BC(ki it rg:Int)(c:Cl):∀(l:List Cl)(n:Int),Pf ki it rg (l++[c]) n=if Sq ki it rg c=true then c.n else Pf ki it rg l n
 |[],n=>by simp[Pf,Sq]
 |d::l,n=>by rw[zzad,Pf,BC ki it rg c l,Pf]
def BD(cs:List Cl)(ki it rg:Int):Nat->FuncId->List AV->AV:=fun _ f l=>
 if f=257 then .fn 310 [] [.ep [.sl .ro (cs.map Qg)] 0]else if f=255 then(match l with
  |[.agg [.int _ a,.int _ b,.int _ c,.int _ d,.int _ e,.int _ f,.int _ g,.int _ h],_,_]=>.bool (RT ⟨a,b,c,d,e,f,g,h⟩ it rg)
  |_=>.junk)else(match l with
  |[.agg [.int _ a,.int _ b,.int _ c,.int _ d,.int _ e,.int _ f,.int _ g,.int _ h]]=>.bool (Xj ⟨a,b,c,d,e,f,g,h⟩)
  |_=>.junk)
def af1(cs:List Cl)(ki it rg no:Int)(hl:cs.length<=1000000000):Pure Tryz.prog aA 347 [.sl .ro (cs.map Qg),I ki,I it,I rg,I no] (I (Pf ki it rg cs no)):=by
 have anv:=mO cs;have cp:=mP cs hl;obtain⟨T,hT⟩:∃T,Pf ki it rg cs no=T:=⟨_,rfl⟩;rw[hT];refine Qo ae5 (BD cs ki it rg) zd ?_;simp[ajX,BD];refine⟨anv,?_⟩;refine jK (xs:=RS cs cs.length) zd cp Gq (fun i m=>i<=cs.length/\Pf ki it rg (cs.take (cs.length-i)) no=T/\∃bx,m.boxes=[I ki]::[I it]::[I rg]::[I 0]::bx) (fun ex m=>ex=.ret/\∃bx,m.boxes=[I ki]::[I it]::[I rg]::[I T]::bx) ?_ ?_ ?_ ?_ ?_ ?_
 ·exact⟨zE,by simpa using hT,[],zd⟩
 ·rintro i m m' ⟨h1,h2,bx,h3⟩ ⟨⟨b2,e1⟩,_,_⟩;exact⟨h1,h2,bx++b2,by rw[e1,h3];rfl⟩
 ·rintro ex m m' ⟨h1,bx,h3⟩ ⟨⟨b2,e1⟩,_,_⟩;exact⟨h1,bx++b2,by rw[e1,h3];rfl⟩
 ·rintro l i m x hg hr ⟨h1,h2,bx,hb⟩ hx K' k1 k2 _;obtain⟨k,c,hc,hk,rfl⟩:=xx cs cs.length i x (zzab _) hx;rw[Ui]at hb
  have bC:cs.take (cs.length-i)=cs.take (cs.length-(i+1))++[c]:=by
   rw[show cs.length-i=k+1 by omega,show cs.length-(i+1)=k by omega,zzas,hc];rfl
  rw[bC,BC]at h2;have c1:=mT c it rg;have c2:=We c;by_cases e1:c.ki=ki
  ·subst e1;cases e2:RT c it rg with
   |false=>
    rw[e2]at c1;rw[if_neg (by simp[Sq,e2])]at h2;simp[hr,Zn,hb,Qg,BD,e2];refine⟨by simpa[Qg]using c1,k1 _ ⟨zE,h2,bx++[Qg c],?_⟩⟩;simp[Qg]
   |true=>
    rw[e2]at c1;cases e3:Xj c with
    |false=>
     rw[e3]at c2;rw[if_neg (by simp[Sq,e3])]at h2;simp[hr,Zn,hb,Qg,BD,e2,e3];refine⟨by simpa[Qg]using c1,by simpa[Qg]using c2,k1 _ ⟨zE,h2,bx++[Qg c],?_⟩⟩;simp[Qg]
    |true=>
     rw[e3]at c2;rw[if_pos (by simp[Sq,e2,e3])]at h2;simp[hr,Zn,hb,Qg,BD,e2,e3];refine⟨by simpa[Qg]using c1,by simpa[Qg]using c2,k2 _ ⟨rfl,bx++[Qg c],?_⟩⟩;simp[Qg,h2]
  rw[if_neg (by simp[Sq,e1])]at h2;simp[hr,Zn,hb,Qg,BD,e1];refine k1 _ ⟨zE,h2,bx++[Qg c],?_⟩;simp[Qg]
 ·rintro m ⟨h1,h2,bx,hb⟩;rw[Gp,zzdi,zzhq]at h2;have h2:no=T:=h2;simp[hb,WU,h2]
 rintro ex m ⟨rfl,bx,hb⟩;simp[hb,WU]
def af2(p:Pl)(it:Int)(hc:p.cls.length<=1000000000)(cp:p.aN.length<=1000000000):Pure Tryz.prog aA 273 [.agg (Qa p),I it,I 0] (I (Wy p it)):=by
 have sV:=lC p it cp;have ayc:=af1 p.cls 3 it 0 (-1) hc
 have atE:Pure Tryz.prog aA 318 [.sl .ro (p.cls.map Qg),I it,I 0] (I (Pf 3 it 0 p.cls (-1))):=by
  refine Qo aeY (fun _ _ _=>I (Pf 3 it 0 p.cls (-1))) zd ?_;simp[ajM,ajN];exact ayc
 refine Qo aeG (fun _ f _=>if f=113 then Zk (Xh it p.aN)else I (Pf 3 it 0 p.cls (-1))) zd ?_;cases hf:Xh it p.aN with
 |none=>
  rw[hf]at sV;simp[Oo,Oq,Qa,hf,Zk,Wy];exact⟨by simpa[Qa,Zk]using sV,atE⟩
 |some x=>
  rw[hf]at sV;by_cases h5:x.ki=5
  ·simp[Oo,Oq,Qa,hf,Zk,Qn,Wy,h5];simpa[Qa,Zk,Qn,h5]using sV
  simp[Oo,Oq,Qa,hf,Zk,Qn,Wy,h5];exact⟨by simpa[Qa,Zk,Qn]using sV,atE⟩
def L9(a b:Int)(c:Cl):Bool:=(decide (c.a=a)&&decide (c.b=b))||(decide (c.a=b)&&decide (c.b=a))
def aaa(a b:Int)(c:Cl):Bool:=decide (c.ki=5)&&(L9 a b c&&Xj c)
def BE(a b:Int)(c:Cl)(r:List Cl)(g:Int):p9 a b (c::r) g=p9 a b r (if aaa a b c=true then max g c.n else g):=by
 rw[p9];congr 1;by_cases h:c.ki=5/\(c.a=a/\c.b=b\/c.a=b/\c.b=a)/\Xj c=true
 ·rw[if_pos h,if_pos (by simp[aaa,L9,h.1,h.2.2];exact h.2.1)]
 rw[if_neg h,if_neg (by intro h';apply h;simp[aaa,L9]at h';exact⟨h'.1,h'.2.1,h'.2.2⟩)]
def G8{c:Cl}(h:Xj c=true)(h5:c.ki=5):0<=c.n/\c.n<=86400:=by
 unfold Xj at h;simp only[zzak]at h;have h2:=h.2;unfold Yv at h2;simp[h5,wi]at h2;omega
def Ph(a b:Int):∀(l:List Cl)(g:Int),0<=g/\g<=86400->0<=p9 a b l g/\p9 a b l g<=86400
 |[],g,h=>h
 |c::r,g,h=>by
  rw[BE];apply Ph a b r;split
  ·rename_i hh;simp[aaa]at hh;have:=G8 hh.2.2 hh.1;omega
  exact h
def ayd(a b T:Int)(cs:List Cl)(f:Nat->AV)(m:AM):Prop:=∃(i:Nat)(g:Int)(bx:List (List AV)),f 13=I i/\f 7=I g/\i<=cs.length/\p9 a b (cs.drop i) g=T/\m=⟨bx,[],fun _=>.gone,0⟩
def anR(cs:List Cl)(a b:Int)(hl:cs.length<=1000000000):Pure Tryz.prog aA 319 [.sl .ro (cs.map Qg),I a,I b] (I (p9 a b cs 0)):=by
 obtain⟨T,hT⟩:∃T,p9 a b cs 0=T:=⟨_,rfl⟩;rw[hT];refine Qo aeZ By zd ?_;simp[WT];refine Qk vX (ayd a b T cs) (fun f _=>cs.length-(numOf (f 13)).toNat) ?_ ?_
 ·exact⟨0,0,_,zd,zd,zE,by simpa using hT,rfl⟩
 rintro f m ⟨i,g,bx,xH,h7,hi,hx,rfl⟩;rcases zzaa i cs.length with ai|bz
 ·obtain⟨c,hc⟩:=aU ai;have ah:Qh (cs.map Qg) i=Qg c:=Qt (by simp[hc]);have aa:(i:Int)<(cs.length:Int):=zE
  have hw:=bM i zE;have k:=We c;rw[Zd hc,BE]at hx;have aye:∀E,eS vX E E:=fun E=>Qc _ _;obtain⟨v0,h0⟩:∃v,(c.ki==5)=v:=⟨_,rfl⟩;obtain⟨v1,h1⟩:∃v,(c.a==a)=v:=⟨_,rfl⟩;obtain⟨v2,h2⟩:∃v,(c.b==b)=v:=⟨_,rfl⟩;obtain⟨v3,h3⟩:∃v,(c.a==b)=v:=⟨_,rfl⟩;obtain⟨v4,h4⟩:∃v,(c.b==a)=v:=⟨_,rfl⟩
  have hh:aaa a b c=(v0&&(((v1&&v2)||(v3&&v4))&&Xj c)):=by
   rw[<- h0,<- h1,<- h2,<- h3,<- h4];rfl
  obtain⟨v5,h5⟩:∃v,Xj c=v:=⟨_,rfl⟩;have hk5:v5=true->v0=true->0<=c.n/\c.n<=86400:=fun e e'=>G8 (h5.trans e) (by rw[e']at h0;simpa using h0);rw[hh,h5]at hx;rw[h5]at k;have k':Abs.Pure Tryz.prog aA 83 [.agg [I c.ki,I c.it,I c.fr,I c.to,I c.re,I c.n,I c.a,I c.b]] (.bool v5):=k;clear hh k;cases v0
  ·cases v1<;>cases v2<;>cases v3<;>cases v4<;>simp only[Bool.false_and,zzbp,if_false]at hx
   all_goals
    simp[xH,h7,ai,aa,ah,Qg,By,h0,h1,h2,h3,h4,vX,hw];refine⟨aP,⟨i+1,g,_,zd,by simp[h7],zE,hx,rfl⟩,zE⟩
  cases v1<;>cases v2<;>cases v3<;>cases v4<;>cases v5<;>simp only[zzgn,Bool.and_false,zzdu,Bool.false_and,Bool.or_true,Bool.or_false,Bool.true_or,Bool.false_or,zzbp,if_false,if_true,Bool.or_self,Bool.and_self]at hx
  all_goals
   simp[xH,h7,ai,aa,ah,Qg,By,h0,h1,h2,h3,h4,h5,vX,hw];first
   |(
    refine⟨ag ?_,⟨i+1,g,_,zd,by simp[h7],zE,hx,rfl⟩,zE⟩;repeat(first|exact Qc _ _|refine Qb _ rfl ?_))
   |(
    refine⟨k',ag ?_,⟨i+1,g,_,zd,by simp[h7],zE,hx,rfl⟩,zE⟩;repeat(first|exact Qc _ _|refine Qb _ rfl ?_))
   |(
    refine⟨k',ag ?_,⟨i+1,max g c.n,_,zd,by simp;omega,zE,hx,rfl⟩,zE⟩;repeat(first|exact Qc _ _|refine Qb _ rfl ?_))
 have bL:¬(i:Int)<(cs.length:Int):=zE
 rw[zzan bz]at hx;have hx:g=T:=hx;subst hx;simp[xH,h7,bL,zzbo.2 bz,vX,ajO]
def tf(p:Pl)(a b:Int):Nat->FuncId->List AV->AV:=fun d f l=>
 if f=113 then(match l with|[_,.int _ n]=>Zk (Xh n p.aN)|_=>.junk)else if f=183 then .bool (Vh p.nu p.de)else if f=319 then(match l with|[_,.int _ x,.int _ y]=>I (p9 x y p.cls 0)|_=>.junk)else
 if f=119 then(match l with|[_,.int _ x]=>I (xM p.nu p.de x)|_=>.junk)else .junk
def anS(p:Pl)(a b:Int)(hc:p.cls.length<=1000000000)(cp:p.aN.length<=1000000000):Pure Tryz.prog aA 274 [.agg (Qa p),I a,I b] (I (Kl p a b)):=by
 have ka:=lC p a cp;have kb:=lC p b cp;have kr:=Wx p.nu p.de;refine Qo aeH (tf p a b) zd ?_;cases DO:Xh a p.aN with
 |none=>
  rw[DO]at ka;have hg:Kl p a b=0:=by simp[Kl,DO]
  rw[hg];simp[sB,sC,Qa,tf,DO,Zk];simpa[Qa,Zk]using ka
 |some x=>
  rw[DO]at ka;by_cases c1:x.sp=0
  ·have hg:Kl p a b=0:=by cases BF:Xh b p.aN<;>simp[Kl,DO,BF,c1]
   rw[hg];simp[sB,sC,Qa,tf,DO,Zk,Qn,c1];simpa[Qa,Zk,Qn,c1]using ka
  cases c2:Vh p.nu p.de with
  |false=>
   rw[c2]at kr;have hg:Kl p a b=0:=by cases BF:Xh b p.aN<;>simp[Kl,DO,BF,c2]
   rw[hg];simp[sB,sC,Qa,tf,DO,Zk,Qn,c1,c2];exact⟨by simpa[Qa,Zk,Qn]using ka,kr⟩
  |true=>
   rw[c2]at kr;cases BF:Xh b p.aN with
   |none=>
    rw[BF]at kb;have hg:Kl p a b=0:=by simp[Kl,DO,BF]
    rw[hg];simp[sB,sC,Qa,tf,DO,BF,Zk,Qn,c1,c2];exact⟨by simpa[Qa,Zk,Qn]using ka,kr,by simpa[Qa,Zk,Qn]using kb⟩
   |some y=>
    rw[BF]at kb;by_cases c3:y.sp=0
    ·have hg:Kl p a b=0:=by simp[Kl,DO,BF,c3]
     rw[hg];simp[sB,sC,Qa,tf,DO,BF,Zk,Qn,c1,c2,c3];exact⟨by simpa[Qa,Zk,Qn]using ka,kr,by simpa[Qa,Zk,Qn,c3]using kb⟩
    by_cases c4:x.sp=y.sp
    ·have hg:Kl p a b=0:=by simp[Kl,DO,BF,c4]
     rw[hg];simp[sB,sC,Qa,tf,DO,BF,Zk,Qn,c1,c2,c3,<- c4];rw[<- c4]at c3;exact⟨by simpa[Qa,Zk,Qn]using ka,kr,by simpa[Qa,Zk,Qn,c4]using kb⟩
    have hg:Kl p a b=xM p.nu p.de (p9 x.sp y.sp p.cls 0):=by simp[Kl,DO,BF,c1,c2,c3,c4]
    rw[hg];have kg:=anR p.cls x.sp y.sp hc;have kf:=Br p.nu p.de (p9 x.sp y.sp p.cls 0);simp[sB,sC,Qa,tf,DO,BF,Zk,Qn,c1,c2,c3,c4];exact⟨by simpa[Qa,Zk,Qn]using ka,kr,by simpa[Qa,Zk,Qn]using kb,kg,kf⟩
structure Bd where
 p:Pl
 at_:Int
 us:List (Int×Int)
 en:List (Int×Int)
 rv:List (Int×(Rt×List Sp))
 li:List (Int×Int)
 pm:List ((Int×Int)×List Sp)
abbrev iA(n:Int):AV:=I n
def rT(x:It):AV:=.agg (Qn x)
def rvA(x:Rt×List Sp):AV:=.sl x.1 (x.2.map Qf)
def UC(l:List ((Int×Int)×List Sp)):List (List Int×AV):=l.map fun x=>([x.1.1,x.1.2],.sl .ro (x.2.map Qf))
def Qq(k:Nat)(b:Bd):List AV:=Qa b.p++[I b.at_,.mp (k+1),.mp (k+2),.mp (k+3),.mp (k+4),.mp (k+5),.mp (k+6),.mp (k+7),.mp (k+8)]
def aY(k:Nat)(b:Bd)(post:List (List AV)):List (List AV):=
 Qa b.p::[.aL 0 (bH iA (DM b.p))]::[.aL 0 (bH rT (Ag b.p))]::[.aL 0 (bH iA (Uf b.p))]::[.aL 0 (bH iA b.us)]::[.aL 0 (bH iA b.en)]::
  [.aL 0 (bH rvA b.rv)]::[.aL 0 (bH iA b.li)]::[.aL 2 (UC b.pm)]::Qq k b::post
def aR(pre:List (List AV))(b:Bd)(post:List (List AV))(ls:List Nat):AM:=⟨pre++aY pre.length b post,ls,fun _=>.gone,0⟩
def anT(b:Bd):Prop:=∀k v,af k b.li=some v->v=Wy b.p k
def af3(pre post:List (List AV))(ls:List Nat)(b:Bd)(it:Int)(hc:b.p.cls.length<=1000000000)(cp:b.p.aN.length<=1000000000)(hli:anT b)(Y:YT)(K:AV->AM->Prop)
  (hK:∀li,anT {b with li:=li}->K (I (Wy b.p it)) (aR pre {b with li:=li} post ls)):
  an Tryz.prog aA Y 199 [.ptr (pre.length+9) 0,I it] (aR pre b post ls) K:=by
 have ayf:=af2 b.p it hc cp;refine Xd adU (fun _ _ _=>I (Wy b.p it)) zd ?_;rcases Xq iA it b.li 0 with⟨h1,h2,h3,h4⟩|⟨u,n,h1,h2,_,_,_,h4⟩
 ·simp[V1,V3,aR,aY,Qq,Qa,h2];refine⟨by simpa[Qa]using ayf,?_⟩
  have:=hK (Zr it (Wy b.p it) b.li) (fun k v h=>by
   rw[Yf]at h;split at h
   ·rename_i e;cases h;rw[e]
   exact hli k v h)
  have JT:bH iA b.li++[([it],I (Wy b.p it))]=bH iA (Zr it (Wy b.p it) b.li):=h4 _;rw[JT];exact this
 simp[V1,V3,aR,aY,Qq,Qa,h2];have hu:=hli it u h1;subst hu;exact hK b.li hli
def af4(b:Bd):Prop:=∀k x,af k b.rv=some x->∀it y,Xh it b.p.aN=some y->y.sp=k->x.2.Perm (Wh b.p it)
def yf(p:Pl)(it:Int)(L:List (Int×Int)):List Sp:=L.filterMap fun x=>if 0<Kl p x.2 it then some (x.1,Kl p x.2 it)else none
def atL{α:Type}(d:α)(L:List α)(seen:List Nat):List α:=seen.map fun i=>L.getD i d
def af5{α:Type}(d:α)(L:List α)(seen:List Nat)(hn:seen.Nodup)(bF:∀i,i<L.length->i∈seen)(hb:∀i∈seen,i<L.length):(atL d L seen).Perm L:=by
 have hp:seen.Perm (List.range L.length):=by
  rw[zzgo hn zzdl];intro i;simp only[zzbb];exact⟨hb i,bF i⟩
 have h1:=hp.map fun i=>L.getD i d
 have h2:(List.range L.length).map (fun i=>L.getD i d)=L:=by
  apply zzeh zd;intro i h1 h2;simp[h2]
 rw[h2]at h1;exact h1
def af6{p:Pl}{a i j:Int}{x y:It}(hi:Xh i p.aN=some x)(hj:Xh j p.aN=some y)(h:x.sp=y.sp):Kl p a i=Kl p a j:=by
 simp only[Kl,hi,hj];cases Xh a p.aN with
 |none=>rfl
 |some z=>simp only[h]
def af7{p:Pl}{i j:Int}{x y:It}(hi:Xh i p.aN=some x)(hj:Xh j p.aN=some y)(h:x.sp=y.sp):Wh p i=Wh p j:=by
 simp only[Wh,hi,hj,h];cases af y.sp (Uf p)with
 |none=>rfl
 |some _=>simp only[af6 hi hj h]
def yg:∀(l:List It)(a:List (Int×It))(s:List (Int×Int)),af 0 s=none->af 0 (Af l a s)=none
 |[],a,s,h=>h
 |x::r,a,s,h=>by
  rw[Af];cases af x.id a with
  |some _=>exact yg r a s h
  |none=>
   refine yg r _ _ ?_;split
   ·rw[Yf,if_neg zE];exact h
   exact h
