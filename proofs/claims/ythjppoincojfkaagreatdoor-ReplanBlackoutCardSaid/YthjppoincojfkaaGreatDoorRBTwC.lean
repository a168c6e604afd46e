import Derived.Test.YthjppoincojfkaaGreatDoorRBMQ
import Derived.Test.YthjppoincojfkaaGreatDoorRBSeB
set_option linter.all false
set_option maxRecDepth 100000
set_option maxHeartbeats 64000000
namespace Go.Proofs.YthjppoincojfkaaGreatDoor
open Go Go.Abs
section
variable {α:Type}
def af(k:Int):List (Int×α)->Option α
 |[]=>none
 |x::r=>if x.1=k then some x.2 else af k r
def Vh(k:Int)(v:α):List (Int×α)->List (Int×α)
 |[]=>[(k,v)]
 |x::r=>if x.1=k then(k,v)::r else x::Vh k v r
def bG(row:α->AV)(l:List (Int×α)):List (Pi×AV):=l.map fun x=>([x.1],row x.2)
@[simp] theorem avK(row:α->AV):bG row []=[]:=rfl
@[simp] def avL(row:α->AV)(l:List (Int×α)):(bG row l).length=l.length:=by simp[bG]
def Xy(row:α->AV)(k:Int):∀(l:List (Int×α))(i:Nat),
  (af k l=none/\Xi [k] (bG row l) i=none/\(∀v,Vh k v l=l++[(k,v)])/\∀v,bG row l++[([k],row v)]=bG row (Vh k v l))\/
  ∃u n,af k l=some u/\Xi [k] (bG row l) i=some (i+n,row u)/\n<l.length/\(bG row l).getD n ([],.junk)=([k],row u)/\(∀v,(Vh k v l).length=l.length)/\∀v,(bG row l).set n ([k],row v)=bG row (Vh k v l)
 |[],i=>.inl ⟨rfl,rfl,fun _=>rfl,fun _=>rfl⟩
 |x::r,i=>by
  by_cases h:x.1=k
  ·refine .inr ⟨x.2,0,by rw[af,if_pos h],by simp[bG,Xi,h],zd,by simp[bG,h],fun v=>by rw[Vh,if_pos h];rfl,fun v=>by rw[Vh,if_pos h];simp[bG]⟩
  have hk:¬([k]:Pi)=[x.1]:=by intro e;cases e;exact h rfl
  rcases Xy row k r (i+1)with⟨h1,h2,h3,h4⟩|⟨u,n,h1,h2,h3,h4,h5,h6⟩
  ·refine .inl ⟨by rw[af,if_neg h];exact h1,?_,fun v=>by rw[Vh,if_neg h,h3];rfl,fun v=>?_⟩
   ·simp only[bG,zzaz,Xi];rw[if_neg hk];exact h2
   rw[Vh,if_neg h];simp only[bG,zzaz,zzae];exact congrArg _ (h4 v)
  refine .inr ⟨u,n+1,by rw[af,if_neg h];exact h1,?_,by simp;omega,by simpa[bG]using h4,fun v=>by rw[Vh,if_neg h];simp[h5 v],fun v=>?_⟩
  ·simp only[bG,zzaz,Xi];rw[if_neg hk,zzfg n 1,<- zzan];exact h2
  rw[Vh,if_neg h];simp only[bG,zzaz,zzdx];exact congrArg _ (h6 v)
def Ja(k q:Int)(v:α):∀l:List (Int×α),af q (Vh k v l)=if q=k then some v else af q l
 |[]=>by
  by_cases h:q=k
  ·subst h;simp[Vh,af]
  have:¬k=q:=fun e=>h e.symm;simp[Vh,af,h,this]
 |x::r=>by
  have ih:=Ja k q v r;by_cases h:x.1=k
  ·rw[Vh,if_pos h];by_cases hq:q=k
   ·subst hq;simp[af]
   have:¬k=q:=fun e=>hq e.symm;have hx:¬x.1=q:=zE
   simp[af,hq,this,hx]
  rw[Vh,if_neg h,af,ih,af];by_cases hx:x.1=q
  ·have:¬q=k:=zE
   simp[hx,this]
  rw[if_neg hx];by_cases hq:q=k<;>simp[hq,hx]
def Gv(k:Int)(v:α):∀l:List (Int×α),(Vh k v l).length<=l.length+1
 |[]=>by simp[Vh]
 |x::r=>by
  rw[Vh];split
  ·simp
  have:=Gv k v r;simp only[zzbg];omega
def ay5(l:List (Int×α)):Prop:=(l.map (·.1)).Nodup
end
def Gs:List En->Nat->List (Int×Int)->List (Int×Int)
 |[],_,a=>a
 |e::r,i,a=>Gs r (i+1) (match af e.id a with|some _=>a|none=>Vh e.id (i:Int) a)
def KX:List It->List (Int×It)->List (Int×It)
 |[],a=>a
 |x::r,a=>KX r (match af x.id a with|some _=>a|none=>Vh x.id x a)
def zW:List It->List (Int×It)->List (Int×Int)->List (Int×Int)
 |[],_,s=>s
 |x::r,a,s=>(match af x.id a with
  |some _=>zW r a s
  |none=>zW r (Vh x.id x a) (if 1<=x.sp/\x.sp<=200 then Vh x.sp x.id s else s))
def Dg(p:Pl):List (Int×Int):=Gs p.ens 0 []
def zU(p:Pl):List (Int×It):=KX p.aM []
def Yy(p:Pl):List (Int×Int):=zW p.aM [] []
def y9(id:Int):List En->Nat->Option Nat
 |[],_=>none
 |e::r,i=>if e.id=id then some i else y9 id r (i+1)
def OS(id:Int):∀(l:List En)(i:Nat)(a:List (Int×Int)),af id (Gs l i a)=match af id a with|some v=>some v|none=>(y9 id l i).map fun n=>(n:Int)
 |[],i,a=>by simp only[Gs,y9];cases af id a<;>rfl
 |e::r,i,a=>by
  rw[Gs,OS id r,y9];cases h:af e.id a with
  |some v=>
   simp only;cases h':af id a with
   |some u=>rfl
   |none=>
    have:¬e.id=id:=by rintro rfl;rw[h]at h';cases h'
    simp[this]
  |none=>
   simp only;rw[Ja];by_cases e1:id=e.id
   ·subst e1;simp[h]
   have e2:¬e.id=id:=fun h=>e1 h.symm;simp[e1,e2]
def uM(p:Pl)(id:Int):af id (Dg p)=(y9 id p.ens 0).map fun n=>(n:Int):=by rw[Dg,OS];rfl
def OT(id:Int):∀(l:List It)(a:List (Int×It)),af id (KX l a)=match af id a with|some v=>some v|none=>Xg id l
 |[],a=>by simp only[KX,Xg];cases af id a<;>rfl
 |e::r,a=>by
  rw[KX,OT id r,Xg];cases h:af e.id a with
  |some v=>
   simp only;cases h':af id a with
   |some u=>rfl
   |none=>
    have:¬e.id=id:=by rintro rfl;rw[h]at h';cases h'
    simp[this]
  |none=>
   simp only;rw[Ja];by_cases e1:id=e.id
   ·subst e1;simp[h]
   have e2:¬e.id=id:=fun h=>e1 h.symm;simp[e1,e2]
def uK(p:Pl)(id:Int):af id (zU p)=Xg id p.aM:=by rw[zU,OT];rfl
structure Ad where
 it:Int
 re:Int
 fr:Int
 fs:Int
def Vi(a:Ad):P2:=[I a.it,I a.re,I a.fr,I a.fs]
def rz(a:Ad):Bool:=decide (a.re=0/\0<=a.fr/\a.fr<=100000000/\1<=a.fs/\a.fs<=100000000)
def Vv(u:List (Int×Int))(it:Int):List (Int×Int):=Vh it ((af it u).getD 0+1) u
def Zm(p:Pl)(en:List (Int×Int))(it e:Int):List (Int×Int):=match Xg it p.aM with
 |some x=>Vh x.sp (max ((af x.sp en).getD 0) e) en
 |none=>en
def N4:List Ad->List (Int×Int)->List (Int×Int)
 |[],u=>u
 |a::r,u=>N4 r (if rz a then Vv u a.it else u)
def N5(p:Pl):List Ad->List (Int×Int)->List (Int×Int)
 |[],u=>u
 |a::r,u=>N5 p r (if rz a then Zm p u a.it (a.fr+a.fs)else u)
def OV(ki it rg:Int):List Cl->Int->Int
 |[],n=>n
 |c::r,n=>OV ki it rg r (if c.ki=ki/\P9 c it rg=true/\Xu c=true then c.n else n)
def Wt(p:Pl)(it:Int):Int:=match Xg it p.aM with
 |some x=>if x.ki=5 then -1 else OV 3 it 0 p.cls (-1)
 |none=>OV 3 it 0 p.cls (-1)
def pQ(a b:Int):List Cl->Int->Int
 |[],g=>g
 |c::r,g=>pQ a b r (if c.ki=5/\(c.a=a/\c.b=b\/c.a=b/\c.b=a)/\Xu c=true then max g c.n else g)
def Kg(p:Pl)(a b:Int):Int:=match Xg a p.aM,Xg b p.aM with
 |some x,some y=>if x.sp=0\/Vd p.nu p.de=false\/y.sp=0\/x.sp=y.sp then 0 else xu p.nu p.de (pQ x.sp y.sp p.cls 0)
 |_,_=>0
def Gk(at_ n:Int):List Sp->Option Int
 |[]=>none
 |s::r=>if max s.1 at_<s.2/\n<=s.2-max s.1 at_ then some (max s.1 at_)else Gk at_ n r
def lP(l:List Sp)(at_ n:Int):Option Int:=if n<=0 then some at_ else Gk at_ n (Xm l)
def Zc(p:Pl)(it n:Int):List Sp:=Xm (Vt p it 0 (n*1000000,(n+1)*1000000)++Vt p it 0 ((n+1)*1000000,(n+2)*1000000))
def St(p:Pl)(e:En)(last from_ n:Int):Option Int:=
 if n*1000000<=last then
  match lP (Zc p e.it n) from_ e.fr with
  |none=>St p e last from_ (n+1)
  |some s=>if last<s then none else some s
 else none
termination_by(last-n*1000000+1000000).toNat
decreasing_by omega
def mB(p:Pl)(e:En):Int:=min (min e.la (p.ln-e.fr)) 100000000
def Vr(p:Pl)(e:En)(from_:Int):Option Int:=
 if e.fr<1\/1000000<e.fr\/p.ln<e.fr then none else St p e (mB p e) (max from_ 0) ((max from_ 0).tdiv 1000000)
def Kk(p:Pl)(it:Int):List Sp:=match Xg it p.aM with
 |none=>[]
 |some y=>match af y.sp (Yy p)with
  |none=>[]
  |some _=>(Yy p).filterMap fun x=>if 0<Kg p x.2 it then some (x.1,Kg p x.2 it)else none
def Ua(en:List (Int×Int)):List Sp->Int->Int
 |[],f=>f
 |r::l,f=>Ua en l (match af r.1 en with|some e=>max f (e+r.2)|none=>f)
def Ur(p:Pl):Pi->List (Int×Int)->List (Int×Int)->Int->Int->Option (List Sp)
 |[],_,_,_,_=>some []
 |id::r,us,en,free,last=>match y9 id p.ens 0 with
  |none=>none
  |some k=>if(k:Int)<=last then none else match p.ens[k]? with
   |none=>none
   |some e=>if Wt p e.it≠ -1/\Wt p e.it<=(af e.it us).getD 0 then none else
    match Vr p e (Ua en (Kk p e.it) (max e.ea free))with
    |none=>none
    |some s=>match Ur p r (Vv us e.it) (Zm p en e.it (s+e.fr)) (s+e.fr) k with
     |none=>none
     |some l=>some ((id,s)::l)
def Yb(p:Pl)(at_:Int)(past:List Ad)(ids:Pi):Option (List Sp):=Ur p ids (N4 past []) (N5 p past []) at_ (-1)
def DQ{at_ n:Int}:∀{l:List Sp}{s:Int},Gk at_ n l=some s->∃a∈l,max a.1 at_=s/\s<a.2/\n<=a.2-s
 |a::r,s,h=>by
  rw[Gk]at h;split at h
  ·rename_i hc;cases h;exact⟨a,zd,rfl,hc.1,hc.2⟩
  obtain⟨b,hb,h1⟩:=DQ h;exact⟨b,by simp[hb],h1⟩
def Qci(p:Pl)(it n x:Int):Xv (Zc p it n) x<->n*1000000<=x/\x<(n+2)*1000000/\gW p it 0 x:=by
 rw[Zc,(Zw _).2,Yr,lB _ _ _ _ (by simp only;omega),lB _ _ _ _ (by simp only;omega)];simp only;constructor
 ·rintro(⟨h1,h2,h3⟩|⟨h1,h2,h3⟩)<;>exact⟨zE,zE,h3⟩
 rintro⟨h1,h2,h3⟩;by_cases h:x<(n+1)*1000000
 ·exact .inl ⟨h1,h,h3⟩
 exact .inr ⟨zE,h2,h3⟩
def af3{p:Pl}{it n at_ m s:Int}(hm:1<=m)(h:lP (Zc p it n) at_ m=some s):at_<=s/\∀x,s<=x->x<s+m->gW p it 0 x:=by
 rw[lP,if_neg zE]at h;obtain⟨a,ha,h1,h2,h3⟩:=DQ h;refine⟨zE,fun x hx hx2=>?_⟩;have:Xv (Xm (Zc p it n)) x:=⟨a,ha,zE,zE⟩;rw[(Zw _).2,Qci]at this;exact this.2.2
def aa4{p:Pl}{e:En}{last from_ n s:Int}(he:1<=e.fr)(h:St p e last from_ n=some s):from_<=s/\s<=last/\∀x,s<=x->x<s+e.fr->gW p e.it 0 x:=by
 unfold St at h;split at h
 ·rename_i hc;cases hs:lP (Zc p e.it n) from_ e.fr with
  |none=>rw[hs]at h;exact aa4 he h
  |some t=>
   rw[hs]at h;simp only at h;split at h
   ·cases h
   rename_i hl;cases h;obtain⟨h1,h2⟩:=af3 he hs;exact⟨h1,zE,h2⟩
 cases h
termination_by(last-n*1000000+1000000).toNat
decreasing_by omega
def Jy{p:Pl}{e:En}{from_ s:Int}(h:Vr p e from_=some s):(1<=e.fr/\e.fr<=1000000)/\from_<=s/\0<=s/\s<=e.la/\s+e.fr<=p.ln/\s<=100000000/\∀x,s<=x->x<s+e.fr->gW p e.it 0 x:=by
 rw[Vr]at h;split at h
 ·cases h
 rename_i hc;obtain⟨h1,h2,h3⟩:=aa4 zE h;simp only[mB]at h2;exact⟨zE,zE,zE,zE,zE,zE,h3⟩
def yP(en:List (Int×Int)):∀(l:List Sp)(f:Int),f<=Ua en l f
 |[],f=>zzbu _
 |r::l,f=>by
  rw[Ua];refine zzhm ?_ (yP en l _);split<;>omega
def xR(en:List (Int×Int)){l l':List Sp}(h:l.Perm l'):∀f,Ua en l f=Ua en l' f:=by
 induction h with
 |nil=>exact fun _=>rfl
 |cons x _ ih=>intro f;simp only[Ua,ih]
 |swap x y l=>
  intro f;simp only[Ua];congr 1;cases af x.1 en<;>cases af y.1 en<;>simp only<;>omega
 |trans _ _ ih1 ih2=>exact fun f=>(ih1 f).trans (ih2 f)
def kV{id:Int}:∀{l:List En}{i k:Nat},y9 id l i=some k->i<=k/\∃e,l[k-i]?=some e/\e.id=id/\Za id l=some e
 |[],i,k,h=>by cases h
 |e::r,i,k,h=>by
  rw[y9]at h;split at h
  ·rename_i hc;cases h;exact⟨zzab _,e,zd,hc,by simp[Za,hc]⟩
  rename_i hc;obtain⟨h1,x,h2,h3,h4⟩:=kV h;refine⟨zE,x,?_,h3,by simp[Za,hc,h4]⟩;obtain⟨d,hd⟩:∃d,k-i=d+1:=⟨k-i-1,zE⟩;rw[hd,zzcw,<- h2];congr 1;omega
def R7(ki it rg:Int)(c:Cl):Bool:=decide (c.ki=ki)&&(P9 c it rg&&Xu c)
def BJ(ki it rg:Int)(c:Cl):∀(l:List Cl)(n:Int),OV ki it rg (l++[c]) n=if R7 ki it rg c=true then c.n else OV ki it rg l n
 |[],n=>by simp[OV,R7]
 |d::l,n=>by rw[zzae,OV,BJ ki it rg c l,OV]
def BK(cs:List Cl)(ki it rg:Int):UV:=fun _ f l=>
 if f=193 then .fn 234 [] [.ep [.sl .ro (cs.map Qi)] 0]else if f=191 then(match l with
  |[.agg [.int _ a,.int _ b,.int _ c,.int _ d,.int _ e,.int _ f,.int _ g,.int _ h],_,_]=>.bool (P9 ⟨a,b,c,d,e,f,g,h⟩ it rg)
  |_=>.junk)else(match l with
  |[.agg [.int _ a,.int _ b,.int _ c,.int _ d,.int _ e,.int _ f,.int _ g,.int _ h]]=>.bool (Xu ⟨a,b,c,d,e,f,g,h⟩)
  |_=>.junk)
def af4(cs:List Cl)(ki it rg no:Int)(hl:cs.length<=1000000000):Pure Tryz.prog aD 265 [.sl .ro (cs.map Qi),I ki,I it,I rg,I no] (I (OV ki it rg cs no)):=by
 have alU:=mj cs;have cT:=mq cs hl;obtain⟨T,hT⟩:∃T,OV ki it rg cs no=T:=⟨_,rfl⟩;rw[hT];refine Qp adv (BK cs ki it rg) zd ?_;simp[ah0,BK];refine⟨alU,?_⟩;refine ji (xs:=P8 cs cs.length) zd cT FK (fun i m=>i<=cs.length/\OV ki it rg (cs.take (cs.length-i)) no=T/\∃bx,m.boxes=[I ki]::[I it]::[I rg]::[I 0]::bx) (fun ex m=>ex=.ret/\∃bx,m.boxes=[I ki]::[I it]::[I rg]::[I T]::bx) ?_ ?_ ?_ ?_ ?_ ?_
 ·exact⟨zE,Nm hT,[],zd⟩
 ·rintro i m m' ⟨h1,h2,bx,h3⟩ ⟨⟨b2,e1⟩,_,_⟩;exact⟨h1,h2,bx++b2,by rw[e1,h3];rfl⟩
 ·rintro ex m m' ⟨h1,bx,h3⟩ ⟨⟨b2,e1⟩,_,_⟩;exact⟨h1,bx++b2,by rw[e1,h3];rfl⟩
 ·rintro l i m x hg hr ⟨h1,h2,bx,hb⟩ hx K' k1 k2 _;obtain⟨k,c,hc,hk,rfl⟩:=wY cs cs.length i x (zzab _) hx;rw[Jm]at hb
  have bA:cs.take (cs.length-i)=cs.take (cs.length-(i+1))++[c]:=by
   rw[show cs.length-i=k+1 by omega,show cs.length-(i+1)=k by omega,zzax,hc];rfl
  rw[bA,BJ]at h2;have c1:=mw c it rg;have c2:=Kz c;by_cases e1:c.ki=ki
  ·subst e1;cases e2:P9 c it rg with
   |false=>
    rw[e2]at c1;rw[if_neg (by simp[R7,e2])]at h2;simp[hr,Zp,hb,Qi,BK,e2];refine⟨by simpa[Qi]using c1,k1 _ ⟨zE,h2,bx++[Qi c],?_⟩⟩;simp[Qi]
   |true=>
    rw[e2]at c1;cases e3:Xu c with
    |false=>
     rw[e3]at c2;rw[if_neg (by simp[R7,e3])]at h2;simp[hr,Zp,hb,Qi,BK,e2,e3];refine⟨by simpa[Qi]using c1,by simpa[Qi]using c2,k1 _ ⟨zE,h2,bx++[Qi c],?_⟩⟩;simp[Qi]
    |true=>
     rw[e3]at c2;rw[if_pos (by simp[R7,e2,e3])]at h2;simp[hr,Zp,hb,Qi,BK,e2,e3];refine⟨by simpa[Qi]using c1,by simpa[Qi]using c2,k2 _ ⟨rfl,bx++[Qi c],?_⟩⟩;simp[Qi,h2]
  rw[if_neg (by simp[R7,e1])]at h2;simp[hr,Zp,hb,Qi,BK,e1];refine k1 _ ⟨zE,h2,bx++[Qi c],?_⟩;simp[Qi]
 ·rintro m ⟨h1,h2,bx,hb⟩;rw[FJ,zzfp,zzhd]at h2;have h2:no=T:=h2;simp[hb,Up,h2]
 rintro ex m ⟨rfl,bx,hb⟩;simp[hb,Up]
def af5(p:Pl)(it:Int)(hc:p.cls.length<=1000000000)(cT:p.aM.length<=1000000000):Pure Tryz.prog aD 226 [.agg (Qa p),I it,I 0] (I (Wt p it)):=by
 have sI:=kT p it cT;have ayo:=af4 p.cls 3 it 0 (-1) hc
 have auj:Pure Tryz.prog aD 249 [.sl .ro (p.cls.map Qi),I it,I 0] (I (OV 3 it 0 p.cls (-1))):=by
  refine Qp adp (fun _ _ _=>I (OV 3 it 0 p.cls (-1))) zd ?_;simp[ahR,ahS];exact ayo
 refine Qp ac9 (fun _ f _=>if f=80 then Xp (Xg it p.aM)else I (OV 3 it 0 p.cls (-1))) zd ?_;cases hf:Xg it p.aM with
 |none=>
  rw[hf]at sI;simp[M9,Na,Qa,hf,Xp,Wt];exact⟨by simpa[Qa,Xp]using sI,auj⟩
 |some x=>
  rw[hf]at sI;by_cases h5:x.ki=5
  ·simp[M9,Na,Qa,hf,Xp,Qh,Wt,h5];simpa[Qa,Xp,Qh,h5]using sI
  simp[M9,Na,Qa,hf,Xp,Qh,Wt,h5];exact⟨by simpa[Qa,Xp,Qh]using sI,auj⟩
def Mp(a b:Int)(c:Cl):Bool:=(decide (c.a=a)&&decide (c.b=b))||(decide (c.a=b)&&decide (c.b=a))
def aa5(a b:Int)(c:Cl):Bool:=decide (c.ki=5)&&(Mp a b c&&Xu c)
def BL(a b:Int)(c:Cl)(r:List Cl)(g:Int):pQ a b (c::r) g=pQ a b r (if aa5 a b c=true then max g c.n else g):=by
 rw[pQ];congr 1;by_cases h:c.ki=5/\(c.a=a/\c.b=b\/c.a=b/\c.b=a)/\Xu c=true
 ·rw[if_pos h,if_pos (by simp[aa5,Mp,h.1,h.2.2];exact h.2.1)]
 rw[if_neg h,if_neg (by intro h';apply h;simp[aa5,Mp]at h';exact⟨h'.1,h'.2.1,h'.2.2⟩)]
def Ic{c:Cl}(h:Xu c=true)(h5:c.ki=5):0<=c.n/\c.n<=86400:=by
 unfold Xu at h;simp only[zzac]at h;have h2:=h.2;unfold Kb at h2;simp[h5,wi]at h2;omega
def N6(a b:Int):∀(l:List Cl)(g:Int),0<=g/\g<=86400->0<=pQ a b l g/\pQ a b l g<=86400
 |[],g,h=>h
 |c::r,g,h=>by
  rw[BL];apply N6 a b r;split
  ·rename_i hh;simp[aa5]at hh;have:=Ic hh.2.2 hh.1;omega
  exact h
def ayp(a b T:Int)(cs:List Cl)(f:Nat->AV)(m:AM):Prop:=∃(i:Nat)(g:Int)(bx:T5),f 13=I i/\f 7=I g/\i<=cs.length/\pQ a b (cs.drop i) g=T/\m=⟨bx,[],fun _=>.gone,0⟩
def anL(cs:List Cl)(a b:Int)(hl:cs.length<=1000000000):Pure Tryz.prog aD 250 [.sl .ro (cs.map Qi),I a,I b] (I (pQ a b cs 0)):=by
 obtain⟨T,hT⟩:∃T,pQ a b cs 0=T:=⟨_,rfl⟩;rw[hT];refine Qp adq Bc zd ?_;simp[T9];refine Qk vA (ayp a b T cs) (fun f _=>cs.length-(numOf (f 13)).toNat) ?_ ?_
 ·exact⟨0,0,_,zd,zd,zE,Nm hT,rfl⟩
 rintro f m ⟨i,g,bx,eU,h7,hi,hx,rfl⟩;rcases zzaa i cs.length with ai|bn
 ·obtain⟨c,hc⟩:=aV ai;have ah:Qj (cs.map Qi) i=Qi c:=Qu (by simp[hc]);have aa:(i:Int)<(cs.length:Int):=zE
  have hw:=bO i zE;have k:=Kz c;rw[Ze hc,BL]at hx;have ayq:∀E,fN vA E E:=fun E=>Qb _ _;obtain⟨v0,h0⟩:∃v,(c.ki==5)=v:=⟨_,rfl⟩;obtain⟨v1,h1⟩:∃v,(c.a==a)=v:=⟨_,rfl⟩;obtain⟨v2,h2⟩:∃v,(c.b==b)=v:=⟨_,rfl⟩;obtain⟨v3,h3⟩:∃v,(c.a==b)=v:=⟨_,rfl⟩;obtain⟨v4,h4⟩:∃v,(c.b==a)=v:=⟨_,rfl⟩
  have hh:aa5 a b c=(v0&&(((v1&&v2)||(v3&&v4))&&Xu c)):=by
   rw[<- h0,<- h1,<- h2,<- h3,<- h4];rfl
  obtain⟨v5,h5⟩:∃v,Xu c=v:=⟨_,rfl⟩;have hk5:v5=true->v0=true->0<=c.n/\c.n<=86400:=fun e e'=>Ic (h5.trans e) (by rw[e']at h0;simpa using h0);rw[hh,h5]at hx;rw[h5]at k;have k':Abs.Pure Tryz.prog aD 48 [.agg [I c.ki,I c.it,I c.fr,I c.to,I c.re,I c.n,I c.a,I c.b]] (.bool v5):=k;clear hh k;cases v0
  ·cases v1<;>cases v2<;>cases v3<;>cases v4<;>simp only[Bool.false_and,zzbh,if_false]at hx
   all_goals
    simp[eU,h7,ai,aa,ah,Qi,Bc,h0,h1,h2,h3,h4,vA,hw];refine⟨aQ,⟨i+1,g,_,zd,by simp[h7],zE,hx,rfl⟩,zE⟩
  cases v1<;>cases v2<;>cases v3<;>cases v4<;>cases v5<;>simp only[zzgg,zzhg,zzea,Bool.false_and,Bool.or_true,Bool.or_false,Bool.true_or,Bool.false_or,zzbh,if_false,if_true,Bool.or_self,Bool.and_self]at hx
  all_goals
   simp[eU,h7,ai,aa,ah,Qi,Bc,h0,h1,h2,h3,h4,h5,vA,hw];first
   |(
    refine⟨ag ?_,⟨i+1,g,_,zd,by simp[h7],zE,hx,rfl⟩,zE⟩;repeat(first|exact Qb _ _|refine Qc _ rfl ?_))
   |(
    refine⟨k',ag ?_,⟨i+1,g,_,zd,by simp[h7],zE,hx,rfl⟩,zE⟩;repeat(first|exact Qb _ _|refine Qc _ rfl ?_))
   |(
    refine⟨k',ag ?_,⟨i+1,max g c.n,_,zd,by simp;omega,zE,hx,rfl⟩,zE⟩;repeat(first|exact Qb _ _|refine Qc _ rfl ?_))
 have bP:¬(i:Int)<(cs.length:Int):=zE
 rw[zzal bn]at hx;have hx:g=T:=hx;subst hx;simp[eU,h7,bP,zzbk.2 bn,vA,ahT]
def tw(p:Pl)(a b:Int):UV:=fun d f l=>
 if f=80 then(match l with|[_,.int _ n]=>Xp (Xg n p.aM)|_=>.junk)else if f=132 then .bool (Vd p.nu p.de)else if f=250 then(match l with|[_,.int _ x,.int _ y]=>I (pQ x y p.cls 0)|_=>.junk)else
 if f=86 then(match l with|[_,.int _ x]=>I (xu p.nu p.de x)|_=>.junk)else .junk
def ame(p:Pl)(a b:Int)(hc:p.cls.length<=1000000000)(cT:p.aM.length<=1000000000):Pure Tryz.prog aD 227 [.agg (Qa p),I a,I b] (I (Kg p a b)):=by
 have ka:=kT p a cT;have kb:=kT p b cT;have kr:=Ws p.nu p.de;refine Qp ada (tw p a b) zd ?_;cases D7:Xg a p.aM with
 |none=>
  rw[D7]at ka;have hg:Kg p a b=0:=by simp[Kg,D7]
  rw[hg];simp[rZ,r6,Qa,tw,D7,Xp];simpa[Qa,Xp]using ka
 |some x=>
  rw[D7]at ka;by_cases c1:x.sp=0
  ·have hg:Kg p a b=0:=by cases IA:Xg b p.aM<;>simp[Kg,D7,IA,c1]
   rw[hg];simp[rZ,r6,Qa,tw,D7,Xp,Qh,c1];simpa[Qa,Xp,Qh,c1]using ka
  cases c2:Vd p.nu p.de with
  |false=>
   rw[c2]at kr;have hg:Kg p a b=0:=by cases IA:Xg b p.aM<;>simp[Kg,D7,IA,c2]
   rw[hg];simp[rZ,r6,Qa,tw,D7,Xp,Qh,c1,c2];exact⟨by simpa[Qa,Xp,Qh]using ka,kr⟩
  |true=>
   rw[c2]at kr;cases IA:Xg b p.aM with
   |none=>
    rw[IA]at kb;have hg:Kg p a b=0:=by simp[Kg,D7,IA]
    rw[hg];simp[rZ,r6,Qa,tw,D7,IA,Xp,Qh,c1,c2];exact⟨by simpa[Qa,Xp,Qh]using ka,kr,by simpa[Qa,Xp,Qh]using kb⟩
   |some y=>
    rw[IA]at kb;by_cases c3:y.sp=0
    ·have hg:Kg p a b=0:=by simp[Kg,D7,IA,c3]
     rw[hg];simp[rZ,r6,Qa,tw,D7,IA,Xp,Qh,c1,c2,c3];exact⟨by simpa[Qa,Xp,Qh]using ka,kr,by simpa[Qa,Xp,Qh,c3]using kb⟩
    by_cases c4:x.sp=y.sp
    ·have hg:Kg p a b=0:=by simp[Kg,D7,IA,c4]
     rw[hg];simp[rZ,r6,Qa,tw,D7,IA,Xp,Qh,c1,c2,c3,<- c4];rw[<- c4]at c3;exact⟨by simpa[Qa,Xp,Qh]using ka,kr,by simpa[Qa,Xp,Qh,c4]using kb⟩
    have hg:Kg p a b=xu p.nu p.de (pQ x.sp y.sp p.cls 0):=by simp[Kg,D7,IA,c1,c2,c3,c4]
    rw[hg];have kg:=anL p.cls x.sp y.sp hc;have kf:=A5 p.nu p.de (pQ x.sp y.sp p.cls 0);simp[rZ,r6,Qa,tw,D7,IA,Xp,Qh,c1,c2,c3,c4];exact⟨by simpa[Qa,Xp,Qh]using ka,kr,by simpa[Qa,Xp,Qh]using kb,kg,kf⟩
structure Bd where
 p:Pl
 at_:Int
 us:List (Int×Int)
 en:List (Int×Int)
 rv:List (Int×(Rt×List Sp))
 li:List (Int×Int)
 pm:List ((Int×Int)×List Sp)
abbrev iA(n:Int):AV:=I n
def ry(x:It):AV:=.agg (Qh x)
def rvA(x:Rt×List Sp):AV:=.sl x.1 (x.2.map Qf)
def Ss(l:List ((Int×Int)×List Sp)):List (Pi×AV):=l.map fun x=>([x.1.1,x.1.2],.sl .ro (x.2.map Qf))
def Qo(k:Nat)(b:Bd):P2:=Qa b.p++[I b.at_,.mp (k+1),.mp (k+2),.mp (k+3),.mp (k+4),.mp (k+5),.mp (k+6),.mp (k+7),.mp (k+8)]
def aW(k:Nat)(b:Bd)(post:T5):T5:=
 Qa b.p::[.aJ 0 (bG iA (Dg b.p))]::[.aJ 0 (bG ry (zU b.p))]::[.aJ 0 (bG iA (Yy b.p))]::[.aJ 0 (bG iA b.us)]::[.aJ 0 (bG iA b.en)]::
  [.aJ 0 (bG rvA b.rv)]::[.aJ 0 (bG iA b.li)]::[.aJ 2 (Ss b.pm)]::Qo k b::post
def aP(pre:T5)(b:Bd)(post:T5)(ls:Pa):AM:=⟨pre++aW pre.length b post,ls,fun _=>.gone,0⟩
def amf(b:Bd):Prop:=∀k v,af k b.li=some v->v=Wt b.p k
def aeL(pre post:T5)(ls:Pa)(b:Bd)(it:Int)(hc:b.p.cls.length<=1000000000)(cT:b.p.aM.length<=1000000000)(hli:amf b)(Y:YT)(K:So)
  (hK:∀li,amf {b with li:=li}->K (I (Wt b.p it)) (aP pre {b with li:=li} post ls)):
  aB Tryz.prog aD Y 170 [.ptr (pre.length+9) 0,I it] (aP pre b post ls) K:=by
 have ayr:=af5 b.p it hc cT;refine Xn acz (fun _ _ _=>I (Wt b.p it)) zd ?_;rcases Xy iA it b.li 0 with⟨h1,h2,h3,h4⟩|⟨u,n,h1,h2,_,_,_,h4⟩
 ·simp[TN,TO,aP,aW,Qo,Qa,h2];refine⟨by simpa[Qa]using ayr,?_⟩
  have:=hK (Vh it (Wt b.p it) b.li) (fun k v h=>by
   rw[Ja]at h;split at h
   ·rename_i e;cases h;rw[e]
   exact hli k v h)
  have Su:bG iA b.li++[([it],I (Wt b.p it))]=bG iA (Vh it (Wt b.p it) b.li):=h4 _;rw[Su];exact this
 simp[TN,TO,aP,aW,Qo,Qa,h2];have hu:=hli it u h1;subst hu;exact hK b.li hli
def aeG(b:Bd):Prop:=∀k x,af k b.rv=some x->∀it y,Xg it b.p.aM=some y->y.sp=k->x.2.Perm (Kk b.p it)
def xL(p:Pl)(it:Int)(L:List (Int×Int)):List Sp:=L.filterMap fun x=>if 0<Kg p x.2 it then some (x.1,Kg p x.2 it)else none
def atL{α:Type}(d:α)(L:List α)(seen:Pa):List α:=seen.map fun i=>L.getD i d
def aeH{α:Type}(d:α)(L:List α)(seen:Pa)(hn:seen.Nodup)(bC:∀i,i<L.length->i∈seen)(hb:∀i∈seen,i<L.length):(atL d L seen).Perm L:=by
 have hp:seen.Perm (List.range L.length):=by
  rw[zzgf hn zzdg];intro i;simp only[zzau];exact⟨hb i,bC i⟩
 have h1:=hp.map fun i=>L.getD i d
 have h2:(List.range L.length).map (fun i=>L.getD i d)=L:=by
  apply zzey zd;intro i h1 h2;simp[h2]
 rw[h2]at h1;exact h1
def af6{p:Pl}{a i j:Int}{x y:It}(hi:Xg i p.aM=some x)(hj:Xg j p.aM=some y)(h:x.sp=y.sp):Kg p a i=Kg p a j:=by
 simp only[Kg,hi,hj];cases Xg a p.aM with
 |none=>rfl
 |some z=>simp only[h]
def aeI{p:Pl}{i j:Int}{x y:It}(hi:Xg i p.aM=some x)(hj:Xg j p.aM=some y)(h:x.sp=y.sp):Kk p i=Kk p j:=by
 simp only[Kk,hi,hj,h];cases af y.sp (Yy p)with
 |none=>rfl
 |some _=>simp only[af6 hi hj h]
def xM:∀(l:List It)(a:List (Int×It))(s:List (Int×Int)),af 0 s=none->af 0 (zW l a s)=none
 |[],a,s,h=>h
 |x::r,a,s,h=>by
  rw[zW];cases af x.id a with
  |some _=>exact xM r a s h
  |none=>
   refine xM r _ _ ?_;split
   ·rw[Ja,if_neg zE];exact h
   exact h
def DZ{p:Pl}{e:En}{from_ s:Int}(h:Vr p e from_=some s):Xk p e.it 0 s e.fr=true:=by
 obtain⟨h1,h2,h3,h4,h5,h6,h7⟩:=Jy h;have hl:=(h7 (s+e.fr-1) zE zE);obtain⟨_,_,_,hx,_⟩:=hl;exact(Qbw _ _ _ _ _).2 ⟨⟨h1.1,h1.2,h3,zE⟩,h7⟩
def aan(p:Pl):List Sp->Int->Prop
 |[],_=>True
 |s::r,free=>(∃e,Za s.1 p.ens=some e/\(1<=e.fr/\e.fr<=1000000)/\free<=s.2/\0<=s.2/\s.2<=100000000/\e.ea<=s.2/\s.2<=e.la/\s.2+e.fr<=p.ln/\Xk p e.it 0 s.2 e.fr=true/\aan p r (s.2+e.fr))
def OD{p:Pl}:∀{ids:Pi}{us en:List (Int×Int)}{free last:Int}{l:List Sp},Ur p ids us en free last=some l->l.map (·.1)=ids/\aan p l free
 |[],_,_,_,_,l,h=>by cases h;exact⟨rfl,trivial⟩
 |id::r,us,en,free,last,l,h=>by
  rw[Ur]at h;cases hf:y9 id p.ens 0 with
  |none=>rw[hf]at h;cases h
  |some k=>
   rw[hf]at h;simp only at h;split at h
   ·cases h
   obtain⟨_,e,h2,h3,h4⟩:=kV hf;rw[zzet]at h2;rw[h2]at h;simp only at h;split at h
   ·cases h
   cases hs:Vr p e (Ua en (Kk p e.it) (max e.ea free))with
   |none=>rw[hs]at h;cases h
   |some s=>
    rw[hs]at h;simp only at h;cases hg:Ur p r (Vv us e.it) (Zm p en e.it (s+e.fr)) (s+e.fr) k with
    |none=>rw[hg]at h;cases h
    |some l'=>
     rw[hg]at h;cases h;obtain⟨g1,g2⟩:=OD hg;obtain⟨a1,a2,a3,a4,a5,a6,a7⟩:=Jy hs;have fB:=yP en (Kk p e.it) (max e.ea free);exact⟨by simp[g1],e,h4,a1,zE,a3,a6,zE,a4,a5,DZ hs,g2⟩
