import Derived.Test.YtnopaopphmjnmaaGreatDoorMBMQ
import Derived.Test.YtnopaopphmjnmaaGreatDoorMBSeB
set_option linter.all false
set_option maxRecDepth 100000
set_option maxHeartbeats 64000000
namespace Go.Proofs.YtnopaopphmjnmaaGreatDoor
open Go Go.Abs
section
variable {α:Type}
def af(k:Int):List (Int×α)->Option α
 |[]=>none
 |x::r=>if x.1=k then some x.2 else af k r
def Zx(k:Int)(v:α):List (Int×α)->List (Int×α)
 |[]=>[(k,v)]
 |x::r=>if x.1=k then(k,v)::r else x::Zx k v r
def bH(row:α->AV)(l:List (Int×α)):List (List Int×AV):=l.map fun x=>([x.1],row x.2)
@[simp] theorem au6(row:α->AV):bH row []=[]:=rfl
@[simp] def au7(row:α->AV)(l:List (Int×α)):(bH row l).length=l.length:=by simp[bH]
def Xq(row:α->AV)(k:Int):∀(l:List (Int×α))(i:Nat),
  (af k l=none/\Xi [k] (bH row l) i=none/\(∀v,Zx k v l=l++[(k,v)])/\∀v,bH row l++[([k],row v)]=bH row (Zx k v l))\/
  ∃u n,af k l=some u/\Xi [k] (bH row l) i=some (i+n,row u)/\n<l.length/\(bH row l).getD n ([],.junk)=([k],row u)/\(∀v,(Zx k v l).length=l.length)/\∀v,(bH row l).set n ([k],row v)=bH row (Zx k v l)
 |[],i=>.inl ⟨rfl,rfl,fun _=>rfl,fun _=>rfl⟩
 |x::r,i=>by
  by_cases h:x.1=k
  ·refine .inr ⟨x.2,0,by rw[af,if_pos h],by simp[bH,Xi,h],by simp,by simp[bH,h],fun v=>by rw[Zx,if_pos h];rfl,fun v=>by rw[Zx,if_pos h];simp[bH]⟩
  have hk:¬([k]:List Int)=[x.1]:=by intro e;cases e;exact h rfl
  rcases Xq row k r (i+1)with⟨h1,h2,h3,h4⟩|⟨u,n,h1,h2,h3,h4,h5,h6⟩
  ·refine .inl ⟨by rw[af,if_neg h];exact h1,?_,fun v=>by rw[Zx,if_neg h,h3];rfl,fun v=>?_⟩
   ·simp only[bH,zzaw,Xi];rw[if_neg hk];exact h2
   rw[Zx,if_neg h];simp only[bH,zzaw,zzae];exact congrArg _ (h4 v)
  refine .inr ⟨u,n+1,by rw[af,if_neg h];exact h1,?_,by simp;omega,by simpa[bH]using h4,fun v=>by rw[Zx,if_neg h];simp[h5 v],fun v=>?_⟩
  ·simp only[bH,zzaw,Xi];rw[if_neg hk,zzfa n 1,<- zzao];exact h2
  rw[Zx,if_neg h];simp only[bH,zzaw,zzdt];exact congrArg _ (h6 v)
def Uh(k q:Int)(v:α):∀l:List (Int×α),af q (Zx k v l)=if q=k then some v else af q l
 |[]=>by
  by_cases h:q=k
  ·subst h;simp[Zx,af]
  have:¬k=q:=fun e=>h e.symm;simp[Zx,af,h,this]
 |x::r=>by
  have ih:=Uh k q v r;by_cases h:x.1=k
  ·rw[Zx,if_pos h];by_cases hq:q=k
   ·subst hq;simp[af]
   have:¬k=q:=fun e=>hq e.symm;have hx:¬x.1=q:=by omega
   simp[af,hq,this,hx]
  rw[Zx,if_neg h,af,ih,af];by_cases hx:x.1=q
  ·have:¬q=k:=by omega
   simp[hx,this]
  rw[if_neg hx];by_cases hq:q=k<;>simp[hq,hx]
def Gb(k:Int)(v:α):∀l:List (Int×α),(Zx k v l).length<=l.length+1
 |[]=>by simp[Zx]
 |x::r=>by
  rw[Zx];split
  ·simp
  have:=Gb k v r;simp only[zzba];omega
def axD(l:List (Int×α)):Prop:=(l.map (·.1)).Nodup
end
def Gd:List En->Nat->List (Int×Int)->List (Int×Int)
 |[],_,a=>a
 |e::r,i,a=>Gd r (i+1) (match af e.id a with|some _=>a|none=>Zx e.id (i:Int) a)
def K2:List It->List (Int×It)->List (Int×It)
 |[],a=>a
 |x::r,a=>K2 r (match af x.id a with|some _=>a|none=>Zx x.id x a)
def zn:List It->List (Int×It)->List (Int×Int)->List (Int×Int)
 |[],_,s=>s
 |x::r,a,s=>(match af x.id a with
  |some _=>zn r a s
  |none=>zn r (Zx x.id x a) (if 1<=x.sp/\x.sp<=200 then Zx x.sp x.id s else s))
def CT(p:Pl):List (Int×Int):=Gd p.ens 0 []
def zo(p:Pl):List (Int×It):=K2 p.aM []
def Yy(p:Pl):List (Int×Int):=zn p.aM [] []
def zq(id:Int):List En->Nat->Option Nat
 |[],_=>none
 |e::r,i=>if e.id=id then some i else zq id r (i+1)
def N5(id:Int):∀(l:List En)(i:Nat)(a:List (Int×Int)),af id (Gd l i a)=match af id a with|some v=>some v|none=>(zq id l i).map fun n=>(n:Int)
 |[],i,a=>by simp only[Gd,zq];cases af id a<;>rfl
 |e::r,i,a=>by
  rw[Gd,N5 id r,zq];cases h:af e.id a with
  |some v=>
   simp only;cases h':af id a with
   |some u=>rfl
   |none=>
    have:¬e.id=id:=by rintro rfl;rw[h]at h';cases h'
    simp[this]
  |none=>
   simp only;rw[Uh];by_cases e1:id=e.id
   ·subst e1;simp[h]
   have e2:¬e.id=id:=fun h=>e1 h.symm;simp[e1,e2]
def ue(p:Pl)(id:Int):af id (CT p)=(zq id p.ens 0).map fun n=>(n:Int):=by rw[CT,N5];rfl
def N6(id:Int):∀(l:List It)(a:List (Int×It)),af id (K2 l a)=match af id a with|some v=>some v|none=>Xh id l
 |[],a=>by simp only[K2,Xh];cases af id a<;>rfl
 |e::r,a=>by
  rw[K2,N6 id r,Xh];cases h:af e.id a with
  |some v=>
   simp only;cases h':af id a with
   |some u=>rfl
   |none=>
    have:¬e.id=id:=by rintro rfl;rw[h]at h';cases h'
    simp[this]
  |none=>
   simp only;rw[Uh];by_cases e1:id=e.id
   ·subst e1;simp[h]
   have e2:¬e.id=id:=fun h=>e1 h.symm;simp[e1,e2]
def uf(p:Pl)(id:Int):af id (zo p)=Xh id p.aM:=by rw[zo,N6];rfl
structure Ad where
 it:Int
 re:Int
 fr:Int
 fs:Int
def Vi(a:Ad):List AV:=[I a.it,I a.re,I a.fr,I a.fs]
def qV(a:Ad):Bool:=decide (a.re=0/\0<=a.fr/\a.fr<=100000000/\1<=a.fs/\a.fs<=100000000)
def Vs(u:List (Int×Int))(it:Int):List (Int×Int):=Zx it ((af it u).getD 0+1) u
def Zm(p:Pl)(en:List (Int×Int))(it e:Int):List (Int×Int):=match Xh it p.aM with
 |some x=>Zx x.sp (max ((af x.sp en).getD 0) e) en
 |none=>en
def N7:List Ad->List (Int×Int)->List (Int×Int)
 |[],u=>u
 |a::r,u=>N7 r (if qV a then Vs u a.it else u)
def N8(p:Pl):List Ad->List (Int×Int)->List (Int×Int)
 |[],u=>u
 |a::r,u=>N8 p r (if qV a then Zm p u a.it (a.fr+a.fs)else u)
def N9(ki it rg:Int):List Cl->Int->Int
 |[],n=>n
 |c::r,n=>N9 ki it rg r (if c.ki=ki/\gL c it rg=true/\Xj c=true then c.n else n)
def Wm(p:Pl)(it:Int):Int:=match Xh it p.aM with
 |some x=>if x.ki=5 then -1 else N9 3 it 0 p.cls (-1)
 |none=>N9 3 it 0 p.cls (-1)
def pn(a b:Int):List Cl->Int->Int
 |[],g=>g
 |c::r,g=>pn a b r (if c.ki=5/\(c.a=a/\c.b=b\/c.a=b/\c.b=a)/\Xj c=true then max g c.n else g)
def Jy(p:Pl)(a b:Int):Int:=match Xh a p.aM,Xh b p.aM with
 |some x,some y=>if x.sp=0\/Ve p.nu p.de=false\/y.sp=0\/x.sp=y.sp then 0 else wJ p.nu p.de (pn x.sp y.sp p.cls 0)
 |_,_=>0
def Ge(at_ n:Int):List Sp->Option Int
 |[]=>none
 |s::r=>if max s.1 at_<s.2/\n<=s.2-max s.1 at_ then some (max s.1 at_)else Ge at_ n r
def lN(l:List Sp)(at_ n:Int):Option Int:=if n<=0 then some at_ else Ge at_ n (Xl l)
def Xx(p:Pl)(it n:Int):List Sp:=Xl (Vo p it 0 (n*1000000,(n+1)*1000000)++Vo p it 0 ((n+1)*1000000,(n+2)*1000000))
def S3(p:Pl)(e:En)(last from_ n:Int):Option Int:=
 if n*1000000<=last then
  match lN (Xx p e.it n) from_ e.fr with
  |none=>S3 p e last from_ (n+1)
  |some s=>if last<s then none else some s
 else none
termination_by(last-n*1000000+1000000).toNat
decreasing_by omega
def mB(p:Pl)(e:En):Int:=min (min e.la (p.ln-e.fr)) 100000000
def Vz(p:Pl)(e:En)(from_:Int):Option Int:=
 if e.fr<1\/1000000<e.fr\/p.ln<e.fr then none else S3 p e (mB p e) (max from_ 0) ((max from_ 0).tdiv 1000000)
def Kq(p:Pl)(it:Int):List Sp:=match Xh it p.aM with
 |none=>[]
 |some y=>match af y.sp (Yy p)with
  |none=>[]
  |some _=>(Yy p).filterMap fun x=>if 0<Jy p x.2 it then some (x.1,Jy p x.2 it)else none
def Ug(en:List (Int×Int)):List Sp->Int->Int
 |[],f=>f
 |r::l,f=>Ug en l (match af r.1 en with|some e=>max f (e+r.2)|none=>f)
def Jh(p:Pl):List Int->List (Int×Int)->List (Int×Int)->Int->Int->Option (List Sp)
 |[],_,_,_,_=>some []
 |id::r,us,en,free,last=>match zq id p.ens 0 with
  |none=>none
  |some k=>if(k:Int)<=last then none else match p.ens[k]? with
   |none=>none
   |some e=>if Wm p e.it≠ -1/\Wm p e.it<=(af e.it us).getD 0 then none else
    match Vz p e (Ug en (Kq p e.it) (max e.ea free))with
    |none=>none
    |some s=>match Jh p r (Vs us e.it) (Zm p en e.it (s+e.fr)) (s+e.fr) k with
     |none=>none
     |some l=>some ((id,s)::l)
def Ym(p:Pl)(at_:Int)(past:List Ad)(ids:List Int):Option (List Sp):=Jh p ids (N7 past []) (N8 p past []) at_ (-1)
def CU{at_ n:Int}:∀{l:List Sp}{s:Int},Ge at_ n l=some s->∃a∈l,max a.1 at_=s/\s<a.2/\n<=a.2-s
 |a::r,s,h=>by
  rw[Ge]at h;split at h
  ·rename_i hc;cases h;exact⟨a,by simp,rfl,hc.1,hc.2⟩
  obtain⟨b,hb,h1⟩:=CU h;exact⟨b,by simp[hb],h1⟩
def Qbu(p:Pl)(it n x:Int):Xr (Xx p it n) x<->n*1000000<=x/\x<(n+2)*1000000/\gO p it 0 x:=by
 rw[Xx,(Zy _).2,Yp,kS _ _ _ _ (by simp only;omega),kS _ _ _ _ (by simp only;omega)];simp only;constructor
 ·rintro(⟨h1,h2,h3⟩|⟨h1,h2,h3⟩)<;>exact⟨by omega,by omega,h3⟩
 rintro⟨h1,h2,h3⟩;by_cases h:x<(n+1)*1000000
 ·exact .inl ⟨h1,h,h3⟩
 exact .inr ⟨by omega,h2,h3⟩
def ae1{p:Pl}{it n at_ m s:Int}(hm:1<=m)(h:lN (Xx p it n) at_ m=some s):at_<=s/\∀x,s<=x->x<s+m->gO p it 0 x:=by
 rw[lN,if_neg (by omega)]at h;obtain⟨a,ha,h1,h2,h3⟩:=CU h;refine⟨by omega,fun x hx hx2=>?_⟩;have:Xr (Xl (Xx p it n)) x:=⟨a,ha,by omega,by omega⟩;rw[(Zy _).2,Qbu]at this;exact this.2.2
def YF{p:Pl}{e:En}{last from_ n s:Int}(he:1<=e.fr)(h:S3 p e last from_ n=some s):from_<=s/\s<=last/\∀x,s<=x->x<s+e.fr->gO p e.it 0 x:=by
 unfold S3 at h;split at h
 ·rename_i hc;cases hs:lN (Xx p e.it n) from_ e.fr with
  |none=>rw[hs]at h;exact YF he h
  |some t=>
   rw[hs]at h;simp only at h;split at h
   ·cases h
   rename_i hl;cases h;obtain⟨h1,h2⟩:=ae1 he hs;exact⟨h1,by omega,h2⟩
 cases h
termination_by(last-n*1000000+1000000).toNat
decreasing_by omega
def Qaw{p:Pl}{e:En}{from_ s:Int}(h:Vz p e from_=some s):(1<=e.fr/\e.fr<=1000000)/\from_<=s/\0<=s/\s<=e.la/\s+e.fr<=p.ln/\s<=100000000/\∀x,s<=x->x<s+e.fr->gO p e.it 0 x:=by
 rw[Vz]at h;split at h
 ·cases h
 rename_i hc;obtain⟨h1,h2,h3⟩:=YF (by omega) h;simp only[mB]at h2;exact⟨by omega,by omega,by omega,by omega,by omega,by omega,h3⟩
def Gf(en:List (Int×Int)):∀(l:List Sp)(f:Int),f<=Ug en l f
 |[],f=>zzbv _
 |r::l,f=>by
  rw[Ug];refine zzhn ?_ (Gf en l _);split<;>omega
def xb(en:List (Int×Int)){l l':List Sp}(h:l.Perm l'):∀f,Ug en l f=Ug en l' f:=by
 induction h with
 |nil=>exact fun _=>rfl
 |cons x _ ih=>intro f;simp only[Ug,ih]
 |swap x y l=>
  intro f;simp only[Ug];congr 1;cases af x.1 en<;>cases af y.1 en<;>simp only<;>omega
 |trans _ _ ih1 ih2=>exact fun f=>(ih1 f).trans (ih2 f)
def qW{id:Int}:∀{l:List En}{i k:Nat},zq id l i=some k->i<=k/\∃e,l[k-i]?=some e/\e.id=id/\Zf id l=some e
 |[],i,k,h=>by cases h
 |e::r,i,k,h=>by
  rw[zq]at h;split at h
  ·rename_i hc;cases h;exact⟨zzab _,e,by simp,hc,by simp[Zf,hc]⟩
  rename_i hc;obtain⟨h1,x,h2,h3,h4⟩:=qW h;refine⟨by omega,x,?_,h3,by simp[Zf,hc,h4]⟩;obtain⟨d,hd⟩:∃d,k-i=d+1:=⟨k-i-1,by omega⟩;rw[hd,zzdh,<- h2];congr 1;omega
def Ra(ki it rg:Int)(c:Cl):Bool:=decide (c.ki=ki)&&(gL c it rg&&Xj c)
def AW(ki it rg:Int)(c:Cl):∀(l:List Cl)(n:Int),N9 ki it rg (l++[c]) n=if Ra ki it rg c=true then c.n else N9 ki it rg l n
 |[],n=>by simp[N9,Ra]
 |d::l,n=>by rw[zzae,N9,AW ki it rg c l,N9]
def AX(cs:List Cl)(ki it rg:Int):Nat->FuncId->List AV->AV:=fun _ f l=>
 if f=257 then .fn 310 [] [.ep [.sl .ro (cs.map Qg)] 0]else if f=255 then(match l with
  |[.agg [.int _ a,.int _ b,.int _ c,.int _ d,.int _ e,.int _ f,.int _ g,.int _ h],_,_]=>.bool (gL ⟨a,b,c,d,e,f,g,h⟩ it rg)
  |_=>.junk)else(match l with
  |[.agg [.int _ a,.int _ b,.int _ c,.int _ d,.int _ e,.int _ f,.int _ g,.int _ h]]=>.bool (Xj ⟨a,b,c,d,e,f,g,h⟩)
  |_=>.junk)
def ae2(cs:List Cl)(ki it rg no:Int)(hl:cs.length<=1000000000):Pure Tryz.prog az 347 [.sl .ro (cs.map Qg),I ki,I it,I rg,I no] (I (N9 ki it rg cs no)):=by
 have ama:=mh cs;have cH:=mj cs hl;obtain⟨T,hT⟩:∃T,N9 ki it rg cs no=T:=⟨_,rfl⟩;rw[hT];refine Qn ad6 (AX cs ki it rg) (by simp) ?_;simp[aiR,AX];refine⟨ama,?_⟩;refine jc (xs:=QG cs cs.length) (by simp) cH Fx (fun i m=>i<=cs.length/\N9 ki it rg (cs.take (cs.length-i)) no=T/\∃bx,m.boxes=[I ki]::[I it]::[I rg]::[I 0]::bx) (fun ex m=>ex=.ret/\∃bx,m.boxes=[I ki]::[I it]::[I rg]::[I T]::bx) ?_ ?_ ?_ ?_ ?_ ?_
 ·exact⟨by omega,by simpa using hT,[],by simp⟩
 ·rintro i m m' ⟨h1,h2,bx,h3⟩ ⟨⟨b2,e1⟩,_,_⟩;exact⟨h1,h2,bx++b2,by rw[e1,h3];rfl⟩
 ·rintro ex m m' ⟨h1,bx,h3⟩ ⟨⟨b2,e1⟩,_,_⟩;exact⟨h1,bx++b2,by rw[e1,h3];rfl⟩
 ·rintro l i m x hg hr ⟨h1,h2,bx,hb⟩ hx K' k1 k2 _;obtain⟨k,c,hc,hk,rfl⟩:=we cs cs.length i x (zzab _) hx;rw[Ub]at hb
  have bz:cs.take (cs.length-i)=cs.take (cs.length-(i+1))++[c]:=by
   rw[show cs.length-i=k+1 by omega,show cs.length-(i+1)=k by omega,zzar,hc];rfl
  rw[bz,AW]at h2;have c1:=mw c it rg;have c2:=Ko c;by_cases e1:c.ki=ki
  ·subst e1;cases e2:gL c it rg with
   |false=>
    rw[e2]at c1;rw[if_neg (by simp[Ra,e2])]at h2;simp[hr,Zj,hb,Qg,AX,e2];refine⟨by simpa[Qg]using c1,k1 _ ⟨by omega,h2,bx++[Qg c],?_⟩⟩;simp[Qg]
   |true=>
    rw[e2]at c1;cases e3:Xj c with
    |false=>
     rw[e3]at c2;rw[if_neg (by simp[Ra,e3])]at h2;simp[hr,Zj,hb,Qg,AX,e2,e3];refine⟨by simpa[Qg]using c1,by simpa[Qg]using c2,k1 _ ⟨by omega,h2,bx++[Qg c],?_⟩⟩;simp[Qg]
    |true=>
     rw[e3]at c2;rw[if_pos (by simp[Ra,e2,e3])]at h2;simp[hr,Zj,hb,Qg,AX,e2,e3];refine⟨by simpa[Qg]using c1,by simpa[Qg]using c2,k2 _ ⟨rfl,bx++[Qg c],?_⟩⟩;simp[Qg,h2]
  rw[if_neg (by simp[Ra,e1])]at h2;simp[hr,Zj,hb,Qg,AX,e1];refine k1 _ ⟨by omega,h2,bx++[Qg c],?_⟩;simp[Qg]
 ·rintro m ⟨h1,h2,bx,hb⟩;rw[Fw,zzep,zzhf]at h2;have h2:no=T:=h2;simp[hb,U0,h2]
 rintro ex m ⟨rfl,bx,hb⟩;simp[hb,U0]
def ae3(p:Pl)(it:Int)(hc:p.cls.length<=1000000000)(cH:p.aM.length<=1000000000):Pure Tryz.prog az 273 [.agg (Qc p),I it,I 0] (I (Wm p it)):=by
 have CH:=kP p it cH;have awd:=ae2 p.cls 3 it 0 (-1) hc
 have arX:Pure Tryz.prog az 318 [.sl .ro (p.cls.map Qg),I it,I 0] (I (N9 3 it 0 p.cls (-1))):=by
  refine Qn adZ (fun _ _ _=>I (N9 3 it 0 p.cls (-1))) (by simp) ?_;simp[aiG,aiH];exact awd
 refine Qn adH (fun _ f _=>if f=113 then Zp (Xh it p.aM)else I (N9 3 it 0 p.cls (-1))) (by simp) ?_;cases hf:Xh it p.aM with
 |none=>
  rw[hf]at CH;simp[Nn,No,Qc,hf,Zp,Wm];exact⟨by simpa[Qc,Zp]using CH,arX⟩
 |some x=>
  rw[hf]at CH;by_cases h5:x.ki=5
  ·simp[Nn,No,Qc,hf,Zp,Qm,Wm,h5];simpa[Qc,Zp,Qm,h5]using CH
  simp[Nn,No,Qc,hf,Zp,Qm,Wm,h5];exact⟨by simpa[Qc,Zp,Qm]using CH,arX⟩
def K3(a b:Int)(c:Cl):Bool:=(decide (c.a=a)&&decide (c.b=b))||(decide (c.a=b)&&decide (c.b=a))
def YG(a b:Int)(c:Cl):Bool:=decide (c.ki=5)&&(K3 a b c&&Xj c)
def AY(a b:Int)(c:Cl)(r:List Cl)(g:Int):pn a b (c::r) g=pn a b r (if YG a b c=true then max g c.n else g):=by
 rw[pn];congr 1;by_cases h:c.ki=5/\(c.a=a/\c.b=b\/c.a=b/\c.b=a)/\Xj c=true
 ·rw[if_pos h,if_pos (by simp[YG,K3,h.1,h.2.2];exact h.2.1)]
 rw[if_neg h,if_neg (by intro h';apply h;simp[YG,K3]at h';exact⟨h'.1,h'.2.1,h'.2.2⟩)]
def Gg{c:Cl}(h:Xj c=true)(h5:c.ki=5):0<=c.n/\c.n<=86400:=by
 unfold Xj at h;simp only[zzak]at h;have h2:=h.2;unfold Uf at h2;simp[h5,wi]at h2;omega
def Oa(a b:Int):∀(l:List Cl)(g:Int),0<=g/\g<=86400->0<=pn a b l g/\pn a b l g<=86400
 |[],g,h=>h
 |c::r,g,h=>by
  rw[AY];apply Oa a b r;split
  ·rename_i hh;simp[YG]at hh;have:=Gg hh.2.2 hh.1;omega
  exact h
def awe(a b T:Int)(cs:List Cl)(f:Nat->AV)(m:AM):Prop:=∃(i:Nat)(g:Int)(bx:List (List AV)),f 13=I i/\f 7=I g/\i<=cs.length/\pn a b (cs.drop i) g=T/\m=⟨bx,[],fun _=>.gone,0⟩
def amx(cs:List Cl)(a b:Int)(hl:cs.length<=1000000000):Pure Tryz.prog az 319 [.sl .ro (cs.map Qg),I a,I b] (I (pn a b cs 0)):=by
 obtain⟨T,hT⟩:∃T,pn a b cs 0=T:=⟨_,rfl⟩;rw[hT];refine Qn ad0 AR (by simp) ?_;simp[UY];refine Qj va (awe a b T cs) (fun f _=>cs.length-(numOf (f 13)).toNat) ?_ ?_
 ·exact⟨0,0,_,by simp,by simp,by omega,by simpa using hT,rfl⟩
 rintro f m ⟨i,g,bx,jk,h7,hi,hx,rfl⟩;rcases zzaa i cs.length with ai|bB
 ·obtain⟨c,hc⟩:=aR ai;have aa:Qh (cs.map Qg) i=Qg c:=Qs (by simp[hc]);have ah:(i:Int)<(cs.length:Int):=by omega
  have hw:=bJ i (by omega);have k:=Ko c;rw[Xz hc,AY]at hx;have awf:∀E,fN va E E:=fun E=>Qa _ _;obtain⟨v0,h0⟩:∃v,(c.ki==5)=v:=⟨_,rfl⟩;obtain⟨v1,h1⟩:∃v,(c.a==a)=v:=⟨_,rfl⟩;obtain⟨v2,h2⟩:∃v,(c.b==b)=v:=⟨_,rfl⟩;obtain⟨v3,h3⟩:∃v,(c.a==b)=v:=⟨_,rfl⟩;obtain⟨v4,h4⟩:∃v,(c.b==a)=v:=⟨_,rfl⟩
  have hh:YG a b c=(v0&&(((v1&&v2)||(v3&&v4))&&Xj c)):=by
   rw[<- h0,<- h1,<- h2,<- h3,<- h4];rfl
  obtain⟨v5,h5⟩:∃v,Xj c=v:=⟨_,rfl⟩;have hk5:v5=true->v0=true->0<=c.n/\c.n<=86400:=fun e e'=>Gg (h5.trans e) (by rw[e']at h0;simpa using h0);rw[hh,h5]at hx;rw[h5]at k;have k':Abs.Pure Tryz.prog az 83 [.agg [I c.ki,I c.it,I c.fr,I c.to,I c.re,I c.n,I c.a,I c.b]] (.bool v5):=k;clear hh k;cases v0
  ·cases v1<;>cases v2<;>cases v3<;>cases v4<;>simp only[Bool.false_and,zzbs,if_false]at hx
   all_goals
    simp[jk,h7,ah,aa,Qg,AR,h0,h1,h2,h3,h4,va,hw];refine⟨aN,⟨i+1,g,_,by simp,by simp,by omega,hx,rfl⟩,by omega⟩
  cases v1<;>cases v2<;>cases v3<;>cases v4<;>cases v5<;>simp only[zzge,Bool.and_false,Bool.or_true,Bool.or_false,zzbs,if_false,if_true,Bool.or_self,Bool.and_self]at hx
  all_goals
   simp[jk,h7,ah,aa,Qg,AR,h0,h1,h2,h3,h4,h5,va,hw];first
   |(
    refine⟨ag ?_,⟨i+1,g,_,by simp,by simp,by omega,hx,rfl⟩,by omega⟩;repeat(first|exact Qa _ _|refine Qb _ rfl ?_))
   |(
    refine⟨k',ag ?_,⟨i+1,g,_,by simp,by simp,by omega,hx,rfl⟩,by omega⟩;repeat(first|exact Qa _ _|refine Qb _ rfl ?_))
   |(
    refine⟨k',ag ?_,⟨i+1,max g c.n,_,by simp,by simp;omega,by omega,hx,rfl⟩,by omega⟩;repeat(first|exact Qa _ _|refine Qb _ rfl ?_))
 have bI:¬(i:Int)<(cs.length:Int):=by omega
 rw[zzan bB]at hx;have hx:g=T:=hx;subst hx;simp[jk,h7,bI,va,aiI]
def sA(p:Pl)(a b:Int):Nat->FuncId->List AV->AV:=fun d f l=>
 if f=113 then(match l with|[_,.int _ n]=>Zp (Xh n p.aM)|_=>.junk)else if f=183 then .bool (Ve p.nu p.de)else if f=319 then(match l with|[_,.int _ x,.int _ y]=>I (pn x y p.cls 0)|_=>.junk)else
 if f=119 then(match l with|[_,.int _ x]=>I (wJ p.nu p.de x)|_=>.junk)else .junk
def amy(p:Pl)(a b:Int)(hc:p.cls.length<=1000000000)(cH:p.aM.length<=1000000000):Pure Tryz.prog az 274 [.agg (Qc p),I a,I b] (I (Jy p a b)):=by
 have ka:=kP p a cH;have kb:=kP p b cH;have kr:=Wl p.nu p.de;refine Qn adI (sA p a b) (by simp) ?_;cases CV:Xh a p.aM with
 |none=>
  rw[CV]at ka;have hg:Jy p a b=0:=by simp[Jy,CV]
  rw[hg];simp[rM,rN,Qc,sA,CV,Zp];simpa[Qc,Zp]using ka
 |some x=>
  rw[CV]at ka;by_cases c1:x.sp=0
  ·have hg:Jy p a b=0:=by cases Ir:Xh b p.aM<;>simp[Jy,CV,Ir,c1]
   rw[hg];simp[rM,rN,Qc,sA,CV,Zp,Qm,c1];simpa[Qc,Zp,Qm,c1]using ka
  cases c2:Ve p.nu p.de with
  |false=>
   rw[c2]at kr;have hg:Jy p a b=0:=by cases Ir:Xh b p.aM<;>simp[Jy,CV,Ir,c2]
   rw[hg];simp[rM,rN,Qc,sA,CV,Zp,Qm,c1,c2];exact⟨by simpa[Qc,Zp,Qm]using ka,kr⟩
  |true=>
   rw[c2]at kr;cases Ir:Xh b p.aM with
   |none=>
    rw[Ir]at kb;have hg:Jy p a b=0:=by simp[Jy,CV,Ir]
    rw[hg];simp[rM,rN,Qc,sA,CV,Ir,Zp,Qm,c1,c2];exact⟨by simpa[Qc,Zp,Qm]using ka,kr,by simpa[Qc,Zp,Qm]using kb⟩
   |some y=>
    rw[Ir]at kb;by_cases c3:y.sp=0
    ·have hg:Jy p a b=0:=by simp[Jy,CV,Ir,c3]
     rw[hg];simp[rM,rN,Qc,sA,CV,Ir,Zp,Qm,c1,c2,c3];exact⟨by simpa[Qc,Zp,Qm]using ka,kr,by simpa[Qc,Zp,Qm,c3]using kb⟩
    by_cases c4:x.sp=y.sp
    ·have hg:Jy p a b=0:=by simp[Jy,CV,Ir,c4]
     rw[hg];simp[rM,rN,Qc,sA,CV,Ir,Zp,Qm,c1,c2,<- c4];rw[<- c4]at c3;exact⟨by simpa[Qc,Zp,Qm]using ka,kr,by simpa[Qc,Zp,Qm,c4]using kb⟩
    have hg:Jy p a b=wJ p.nu p.de (pn x.sp y.sp p.cls 0):=by simp[Jy,CV,Ir,c1,c2,c3,c4]
    rw[hg];have kg:=amx p.cls x.sp y.sp hc;have kf:=AJ p.nu p.de (pn x.sp y.sp p.cls 0);simp[rM,rN,Qc,sA,CV,Ir,Zp,Qm,c1,c2,c3,c4];exact⟨by simpa[Qc,Zp,Qm]using ka,kr,by simpa[Qc,Zp,Qm]using kb,kg,kf⟩
structure Bd where
 p:Pl
 at_:Int
 us:List (Int×Int)
 en:List (Int×Int)
 rv:List (Int×(Rt×List Sp))
 li:List (Int×Int)
 pm:List ((Int×Int)×List Sp)
abbrev iA(n:Int):AV:=I n
def qX(x:It):AV:=.agg (Qm x)
def rvA(x:Rt×List Sp):AV:=.sl x.1 (x.2.map Qe)
def S4(l:List ((Int×Int)×List Sp)):List (List Int×AV):=l.map fun x=>([x.1.1,x.1.2],.sl .ro (x.2.map Qe))
def Qp(k:Nat)(b:Bd):List AV:=Qc b.p++[I b.at_,.mp (k+1),.mp (k+2),.mp (k+3),.mp (k+4),.mp (k+5),.mp (k+6),.mp (k+7),.mp (k+8)]
def bq(k:Nat)(b:Bd)(post:List (List AV)):List (List AV):=
 Qc b.p::[.aK 0 (bH iA (CT b.p))]::[.aK 0 (bH qX (zo b.p))]::[.aK 0 (bH iA (Yy b.p))]::[.aK 0 (bH iA b.us)]::[.aK 0 (bH iA b.en)]::
  [.aK 0 (bH rvA b.rv)]::[.aK 0 (bH iA b.li)]::[.aK 2 (S4 b.pm)]::Qp k b::post
def aP(pre:List (List AV))(b:Bd)(post:List (List AV))(ls:List Nat):AM:=⟨pre++bq pre.length b post,ls,fun _=>.gone,0⟩
def amz(b:Bd):Prop:=∀k v,af k b.li=some v->v=Wm b.p k
def ae4(pre post:List (List AV))(ls:List Nat)(b:Bd)(it:Int)(hc:b.p.cls.length<=1000000000)(cH:b.p.aM.length<=1000000000)(hli:amz b)(Y:YT)(K:AV->AM->Prop)
  (hK:∀li,amz {b with li:=li}->K (I (Wm b.p it)) (aP pre {b with li:=li} post ls)):
  an Tryz.prog az Y 199 [.ptr (pre.length+9) 0,I it] (aP pre b post ls) K:=by
 have awg:=ae3 b.p it hc cH;refine Xd acR (fun _ _ _=>I (Wm b.p it)) (by simp) ?_;rcases Xq iA it b.li 0 with⟨h1,h2,h3,h4⟩|⟨u,n,h1,h2,_,_,_,h4⟩
 ·simp[T2,T3,aP,bq,Qp,Qc,h2];refine⟨by simpa[Qc]using awg,?_⟩
  have:=hK (Zx it (Wm b.p it) b.li) (fun k v h=>by
   rw[Uh]at h;split at h
   ·rename_i e;cases h;rw[e]
   exact hli k v h)
  have Is:bH iA b.li++[([it],I (Wm b.p it))]=bH iA (Zx it (Wm b.p it) b.li):=h4 _;rw[Is];exact this
 simp[T2,T3,aP,bq,Qp,Qc,h2];have hu:=hli it u h1;subst hu;exact hK b.li hli
def ae5(b:Bd):Prop:=∀k x,af k b.rv=some x->∀it y,Xh it b.p.aM=some y->y.sp=k->x.2.Perm (Kq b.p it)
def xd(p:Pl)(it:Int)(L:List (Int×Int)):List Sp:=L.filterMap fun x=>if 0<Jy p x.2 it then some (x.1,Jy p x.2 it)else none
def atL{α:Type}(d:α)(L:List α)(seen:List Nat):List α:=seen.map fun i=>L.getD i d
def ae6{α:Type}(d:α)(L:List α)(seen:List Nat)(hn:seen.Nodup)(bS:∀i,i<L.length->i∈seen)(hb:∀i∈seen,i<L.length):(atL d L seen).Perm L:=by
 have hp:seen.Perm (List.range L.length):=by
  rw[zzgf hn zzdp];intro i;simp only[zzbf];exact⟨hb i,bS i⟩
 have h1:=hp.map fun i=>L.getD i d
 have h2:(List.range L.length).map (fun i=>L.getD i d)=L:=by
  apply zzea (by simp);intro i h1 h2;simp[h2]
 rw[h2]at h1;exact h1
def ae7{p:Pl}{a i j:Int}{x y:It}(hi:Xh i p.aM=some x)(hj:Xh j p.aM=some y)(h:x.sp=y.sp):Jy p a i=Jy p a j:=by
 simp only[Jy,hi,hj];cases Xh a p.aM with
 |none=>rfl
 |some z=>simp only[h]
def ae8{p:Pl}{i j:Int}{x y:It}(hi:Xh i p.aM=some x)(hj:Xh j p.aM=some y)(h:x.sp=y.sp):Kq p i=Kq p j:=by
 simp only[Kq,hi,hj,h];cases af y.sp (Yy p)with
 |none=>rfl
 |some _=>simp only[ae7 hi hj h]
def xe:∀(l:List It)(a:List (Int×It))(s:List (Int×Int)),af 0 s=none->af 0 (zn l a s)=none
 |[],a,s,h=>h
 |x::r,a,s,h=>by
  rw[zn];cases af x.id a with
  |some _=>exact xe r a s h
  |none=>
   refine xe r _ _ ?_;split
   ·rw[Uh,if_neg (by omega)];exact h
   exact h
end Go.Proofs.YtnopaopphmjnmaaGreatDoor
