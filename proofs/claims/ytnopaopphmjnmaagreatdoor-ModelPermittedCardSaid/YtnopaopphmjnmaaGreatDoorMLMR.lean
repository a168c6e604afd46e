import Derived.Test.YtnopaopphmjnmaaGreatDoorMLMQ
import Derived.Test.YtnopaopphmjnmaaGreatDoorMLSeB
set_option linter.all false
set_option maxRecDepth 100000
set_option maxHeartbeats 64000000
namespace Go.Proofs.YtnopaopphmjnmaaGreatDoor
open Go Go.Abs
section
variable {α:Type}
def af(k:Int):List (Int×α)->Option α
 |[]=>none
 |x::r=>if x.1=k then some x.2 else af k r
def Zq(k:Int)(v:α):List (Int×α)->List (Int×α)
 |[]=>[(k,v)]
 |x::r=>if x.1=k then(k,v)::r else x::Zq k v r
def bH(row:α->AV)(l:List (Int×α)):List (List Int×AV):=l.map fun x=>([x.1],row x.2)
@[simp] theorem avM(row:α->AV):bH row []=[]:=rfl
@[simp] def avN(row:α->AV)(l:List (Int×α)):(bH row l).length=l.length:=by simp[bH]
def Xr(row:α->AV)(k:Int):∀(l:List (Int×α))(i:Nat),
  (af k l=none/\Xj [k] (bH row l) i=none/\(∀v,Zq k v l=l++[(k,v)])/\∀v,bH row l++[([k],row v)]=bH row (Zq k v l))\/
  ∃u n,af k l=some u/\Xj [k] (bH row l) i=some (i+n,row u)/\n<l.length/\(bH row l).getD n ([],.junk)=([k],row u)/\(∀v,(Zq k v l).length=l.length)/\∀v,(bH row l).set n ([k],row v)=bH row (Zq k v l)
 |[],i=>.inl ⟨rfl,rfl,fun _=>rfl,fun _=>rfl⟩
 |x::r,i=>by
  by_cases h:x.1=k
  ·refine .inr ⟨x.2,0,by rw[af,if_pos h],by simp[bH,Xj,h],by simp,by simp[bH,h],fun v=>by rw[Zq,if_pos h];rfl,fun v=>by rw[Zq,if_pos h];simp[bH]⟩
  have hk:¬([k]:List Int)=[x.1]:=by intro e;cases e;exact h rfl
  rcases Xr row k r (i+1)with⟨h1,h2,h3,h4⟩|⟨u,n,h1,h2,h3,h4,h5,h6⟩
  ·refine .inl ⟨by rw[af,if_neg h];exact h1,?_,fun v=>by rw[Zq,if_neg h,h3];rfl,fun v=>?_⟩
   ·simp only[bH,zzaz,Xj];rw[if_neg hk];exact h2
   rw[Zq,if_neg h];simp only[bH,zzaz,zzae];exact congrArg _ (h4 v)
  refine .inr ⟨u,n+1,by rw[af,if_neg h];exact h1,?_,by simp;omega,by simpa[bH]using h4,fun v=>by rw[Zq,if_neg h];simp[h5 v],fun v=>?_⟩
  ·simp only[bH,zzaz,Xj];rw[if_neg hk,zzff n 1,<- zzan];exact h2
  rw[Zq,if_neg h];simp only[bH,zzaz,zzdw];exact congrArg _ (h6 v)
def Yc(k q:Int)(v:α):∀l:List (Int×α),af q (Zq k v l)=if q=k then some v else af q l
 |[]=>by
  by_cases h:q=k
  ·subst h;simp[Zq,af]
  have:¬k=q:=fun e=>h e.symm;simp[Zq,af,h,this]
 |x::r=>by
  have ih:=Yc k q v r;by_cases h:x.1=k
  ·rw[Zq,if_pos h];by_cases hq:q=k
   ·subst hq;simp[af]
   have:¬k=q:=fun e=>hq e.symm;have hx:¬x.1=q:=by omega
   simp[af,hq,this,hx]
  rw[Zq,if_neg h,af,ih,af];by_cases hx:x.1=q
  ·have:¬q=k:=by omega
   simp[hx,this]
  rw[if_neg hx];by_cases hq:q=k<;>simp[hq,hx]
def Gm(k:Int)(v:α):∀l:List (Int×α),(Zq k v l).length<=l.length+1
 |[]=>by simp[Zq]
 |x::r=>by
  rw[Zq];split
  ·simp
  have:=Gm k v r;simp only[zzbb];omega
def ayj(l:List (Int×α)):Prop:=(l.map (·.1)).Nodup
end
def Gn:List En->Nat->List (Int×Int)->List (Int×Int)
 |[],_,a=>a
 |e::r,i,a=>Gn r (i+1) (match af e.id a with|some _=>a|none=>Zq e.id (i:Int) a)
def Lg:List It->List (Int×It)->List (Int×It)
 |[],a=>a
 |x::r,a=>Lg r (match af x.id a with|some _=>a|none=>Zq x.id x a)
def zP:List It->List (Int×It)->List (Int×Int)->List (Int×Int)
 |[],_,s=>s
 |x::r,a,s=>(match af x.id a with
  |some _=>zP r a s
  |none=>zP r (Zq x.id x a) (if 1<=x.sp/\x.sp<=200 then Zq x.sp x.id s else s))
def Dj(p:Pl):List (Int×Int):=Gn p.ens 0 []
def zQ(p:Pl):List (Int×It):=Lg p.aL []
def Ub(p:Pl):List (Int×Int):=zP p.aL [] []
def zR(id:Int):List En->Nat->Option Nat
 |[],_=>none
 |e::r,i=>if e.id=id then some i else zR id r (i+1)
def On(id:Int):∀(l:List En)(i:Nat)(a:List (Int×Int)),af id (Gn l i a)=match af id a with|some v=>some v|none=>(zR id l i).map fun n=>(n:Int)
 |[],i,a=>by simp only[Gn,zR];cases af id a<;>rfl
 |e::r,i,a=>by
  rw[Gn,On id r,zR];cases h:af e.id a with
  |some v=>
   simp only;cases h':af id a with
   |some u=>rfl
   |none=>
    have:¬e.id=id:=by rintro rfl;rw[h]at h';cases h'
    simp[this]
  |none=>
   simp only;rw[Yc];by_cases e1:id=e.id
   ·subst e1;simp[h]
   have e2:¬e.id=id:=fun h=>e1 h.symm;simp[e1,e2]
def uH(p:Pl)(id:Int):af id (Dj p)=(zR id p.ens 0).map fun n=>(n:Int):=by rw[Dj,On];rfl
def Oo(id:Int):∀(l:List It)(a:List (Int×It)),af id (Lg l a)=match af id a with|some v=>some v|none=>Xh id l
 |[],a=>by simp only[Lg,Xh];cases af id a<;>rfl
 |e::r,a=>by
  rw[Lg,Oo id r,Xh];cases h:af e.id a with
  |some v=>
   simp only;cases h':af id a with
   |some u=>rfl
   |none=>
    have:¬e.id=id:=by rintro rfl;rw[h]at h';cases h'
    simp[this]
  |none=>
   simp only;rw[Yc];by_cases e1:id=e.id
   ·subst e1;simp[h]
   have e2:¬e.id=id:=fun h=>e1 h.symm;simp[e1,e2]
def uI(p:Pl)(id:Int):af id (zQ p)=Xh id p.aL:=by rw[zQ,Oo];rfl
structure Ad where
 it:Int
 re:Int
 fr:Int
 fs:Int
def Vi(a:Ad):List AV:=[I a.it,I a.re,I a.fr,I a.fs]
def rE(a:Ad):Bool:=decide (a.re=0/\0<=a.fr/\a.fr<=100000000/\1<=a.fs/\a.fs<=100000000)
def Vt(u:List (Int×Int))(it:Int):List (Int×Int):=Zq it ((af it u).getD 0+1) u
def Zl(p:Pl)(en:List (Int×Int))(it e:Int):List (Int×Int):=match Xh it p.aL with
 |some x=>Zq x.sp (max ((af x.sp en).getD 0) e) en
 |none=>en
def Oq:List Ad->List (Int×Int)->List (Int×Int)
 |[],u=>u
 |a::r,u=>Oq r (if rE a then Vt u a.it else u)
def Ot(p:Pl):List Ad->List (Int×Int)->List (Int×Int)
 |[],u=>u
 |a::r,u=>Ot p r (if rE a then Zl p u a.it (a.fr+a.fs)else u)
def Ou(ki it rg:Int):List Cl->Int->Int
 |[],n=>n
 |c::r,n=>Ou ki it rg r (if c.ki=ki/\gR c it rg=true/\Xk c=true then c.n else n)
def Wp(p:Pl)(it:Int):Int:=match Xh it p.aL with
 |some x=>if x.ki=5 then -1 else Ou 3 it 0 p.cls (-1)
 |none=>Ou 3 it 0 p.cls (-1)
def pS(a b:Int):List Cl->Int->Int
 |[],g=>g
 |c::r,g=>pS a b r (if c.ki=5/\(c.a=a/\c.b=b\/c.a=b/\c.b=a)/\Xk c=true then max g c.n else g)
def Ke(p:Pl)(a b:Int):Int:=match Xh a p.aL,Xh b p.aL with
 |some x,some y=>if x.sp=0\/Vf p.nu p.de=false\/y.sp=0\/x.sp=y.sp then 0 else xu p.nu p.de (pS x.sp y.sp p.cls 0)
 |_,_=>0
def Gp(at_ n:Int):List Sp->Option Int
 |[]=>none
 |s::r=>if max s.1 at_<s.2/\n<=s.2-max s.1 at_ then some (max s.1 at_)else Gp at_ n r
def lX(l:List Sp)(at_ n:Int):Option Int:=if n<=0 then some at_ else Gp at_ n (Xl l)
def Za(p:Pl)(it n:Int):List Sp:=Xl (Vo p it 0 (n*1000000,(n+1)*1000000)++Vo p it 0 ((n+1)*1000000,(n+2)*1000000))
def Tu(p:Pl)(e:En)(last from_ n:Int):Option Int:=
 if n*1000000<=last then
  match lX (Za p e.it n) from_ e.fr with
  |none=>Tu p e last from_ (n+1)
  |some s=>if last<s then none else some s
 else none
termination_by(last-n*1000000+1000000).toNat
decreasing_by omega
def mT(p:Pl)(e:En):Int:=min (min e.la (p.ln-e.fr)) 100000000
def Ye(p:Pl)(e:En)(from_:Int):Option Int:=
 if e.fr<1\/1000000<e.fr\/p.ln<e.fr then none else Tu p e (mT p e) (max from_ 0) ((max from_ 0).tdiv 1000000)
def Kt(p:Pl)(it:Int):List Sp:=match Xh it p.aL with
 |none=>[]
 |some y=>match af y.sp (Ub p)with
  |none=>[]
  |some _=>(Ub p).filterMap fun x=>if 0<Ke p x.2 it then some (x.1,Ke p x.2 it)else none
def Uj(en:List (Int×Int)):List Sp->Int->Int
 |[],f=>f
 |r::l,f=>Uj en l (match af r.1 en with|some e=>max f (e+r.2)|none=>f)
def Jk(p:Pl):List Int->List (Int×Int)->List (Int×Int)->Int->Int->Option (List Sp)
 |[],_,_,_,_=>some []
 |id::r,us,en,free,last=>match zR id p.ens 0 with
  |none=>none
  |some k=>if(k:Int)<=last then none else match p.ens[k]? with
   |none=>none
   |some e=>if Wp p e.it≠ -1/\Wp p e.it<=(af e.it us).getD 0 then none else
    match Ye p e (Uj en (Kt p e.it) (max e.ea free))with
    |none=>none
    |some s=>match Jk p r (Vt us e.it) (Zl p en e.it (s+e.fr)) (s+e.fr) k with
     |none=>none
     |some l=>some ((id,s)::l)
def Yq(p:Pl)(at_:Int)(past:List Ad)(ids:List Int):Option (List Sp):=Jk p ids (Oq past []) (Ot p past []) at_ (-1)
def Dk{at_ n:Int}:∀{l:List Sp}{s:Int},Gp at_ n l=some s->∃a∈l,max a.1 at_=s/\s<a.2/\n<=a.2-s
 |a::r,s,h=>by
  rw[Gp]at h;split at h
  ·rename_i hc;cases h;exact⟨a,by simp,rfl,hc.1,hc.2⟩
  obtain⟨b,hb,h1⟩:=Dk h;exact⟨b,by simp[hb],h1⟩
def Qcc(p:Pl)(it n x:Int):Xt (Za p it n) x<->n*1000000<=x/\x<(n+2)*1000000/\gV p it 0 x:=by
 rw[Za,(Va _).2,Yt,lu _ _ _ _ (by simp only;omega),lu _ _ _ _ (by simp only;omega)];simp only;constructor
 ·rintro(⟨h1,h2,h3⟩|⟨h1,h2,h3⟩)<;>exact⟨by omega,by omega,h3⟩
 rintro⟨h1,h2,h3⟩;by_cases h:x<(n+1)*1000000
 ·exact .inl ⟨h1,h,h3⟩
 exact .inr ⟨by omega,h2,h3⟩
def afp{p:Pl}{it n at_ m s:Int}(hm:1<=m)(h:lX (Za p it n) at_ m=some s):at_<=s/\∀x,s<=x->x<s+m->gV p it 0 x:=by
 rw[lX,if_neg (by omega)]at h;obtain⟨a,ha,h1,h2,h3⟩:=Dk h;refine⟨by omega,fun x hx hx2=>?_⟩;have:Xt (Xl (Za p it n)) x:=⟨a,ha,by omega,by omega⟩;rw[(Va _).2,Qcc]at this;exact this.2.2
def Y8{p:Pl}{e:En}{last from_ n s:Int}(he:1<=e.fr)(h:Tu p e last from_ n=some s):from_<=s/\s<=last/\∀x,s<=x->x<s+e.fr->gV p e.it 0 x:=by
 unfold Tu at h;split at h
 ·rename_i hc;cases hs:lX (Za p e.it n) from_ e.fr with
  |none=>rw[hs]at h;exact Y8 he h
  |some t=>
   rw[hs]at h;simp only at h;split at h
   ·cases h
   rename_i hl;cases h;obtain⟨h1,h2⟩:=afp he hs;exact⟨h1,by omega,h2⟩
 cases h
termination_by(last-n*1000000+1000000).toNat
decreasing_by omega
def Qbf{p:Pl}{e:En}{from_ s:Int}(h:Ye p e from_=some s):(1<=e.fr/\e.fr<=1000000)/\from_<=s/\0<=s/\s<=e.la/\s+e.fr<=p.ln/\s<=100000000/\∀x,s<=x->x<s+e.fr->gV p e.it 0 x:=by
 rw[Ye]at h;split at h
 ·cases h
 rename_i hc;obtain⟨h1,h2,h3⟩:=Y8 (by omega) h;simp only[mT]at h2;exact⟨by omega,by omega,by omega,by omega,by omega,by omega,h3⟩
def Gq(en:List (Int×Int)):∀(l:List Sp)(f:Int),f<=Uj en l f
 |[],f=>zzbu _
 |r::l,f=>by
  rw[Uj];refine zzht ?_ (Gq en l _);split<;>omega
def xN(en:List (Int×Int)){l l':List Sp}(h:l.Perm l'):∀f,Uj en l f=Uj en l' f:=by
 induction h with
 |nil=>exact fun _=>rfl
 |cons x _ ih=>intro f;simp only[Uj,ih]
 |swap x y l=>
  intro f;simp only[Uj];congr 1;cases af x.1 en<;>cases af y.1 en<;>simp only<;>omega
 |trans _ _ ih1 ih2=>exact fun f=>(ih1 f).trans (ih2 f)
def rF{id:Int}:∀{l:List En}{i k:Nat},zR id l i=some k->i<=k/\∃e,l[k-i]?=some e/\e.id=id/\Ze id l=some e
 |[],i,k,h=>by cases h
 |e::r,i,k,h=>by
  rw[zR]at h;split at h
  ·rename_i hc;cases h;exact⟨zzab _,e,by simp,hc,by simp[Ze,hc]⟩
  rename_i hc;obtain⟨h1,x,h2,h3,h4⟩:=rF h;refine⟨by omega,x,?_,h3,by simp[Ze,hc,h4]⟩;obtain⟨d,hd⟩:∃d,k-i=d+1:=⟨k-i-1,by omega⟩;rw[hd,zzdc,<- h2];congr 1;omega
def RE(ki it rg:Int)(c:Cl):Bool:=decide (c.ki=ki)&&(gR c it rg&&Xk c)
def Bh(ki it rg:Int)(c:Cl):∀(l:List Cl)(n:Int),Ou ki it rg (l++[c]) n=if RE ki it rg c=true then c.n else Ou ki it rg l n
 |[],n=>by simp[Ou,RE]
 |d::l,n=>by rw[zzae,Ou,Bh ki it rg c l,Ou]
def Bi(cs:List Cl)(ki it rg:Int):Nat->FuncId->List AV->AV:=fun _ f l=>
 if f=257 then .fn 310 [] [.ep [.sl .ro (cs.map Qg)] 0]else if f=255 then(match l with
  |[.agg [.int _ a,.int _ b,.int _ c,.int _ d,.int _ e,.int _ f,.int _ g,.int _ h],_,_]=>.bool (gR ⟨a,b,c,d,e,f,g,h⟩ it rg)
  |_=>.junk)else(match l with
  |[.agg [.int _ a,.int _ b,.int _ c,.int _ d,.int _ e,.int _ f,.int _ g,.int _ h]]=>.bool (Xk ⟨a,b,c,d,e,f,g,h⟩)
  |_=>.junk)
def afq(cs:List Cl)(ki it rg no:Int)(hl:cs.length<=1000000000):Pure Tryz.prog az 347 [.sl .ro (cs.map Qg),I ki,I it,I rg,I no] (I (Ou ki it rg cs no)):=by
 have amC:=mH cs;have cm:=mJ cs hl;obtain⟨T,hT⟩:∃T,Ou ki it rg cs no=T:=⟨_,rfl⟩;rw[hT];refine Qn aes (Bi cs ki it rg) (by simp) ?_;simp[aji,Bi];refine⟨amC,?_⟩;refine jm (xs:=Q5 cs cs.length) (by simp) cm FH (fun i m=>i<=cs.length/\Ou ki it rg (cs.take (cs.length-i)) no=T/\∃bx,m.boxes=[I ki]::[I it]::[I rg]::[I 0]::bx) (fun ex m=>ex=.ret/\∃bx,m.boxes=[I ki]::[I it]::[I rg]::[I T]::bx) ?_ ?_ ?_ ?_ ?_ ?_
 ·exact⟨by omega,by simpa using hT,[],by simp⟩
 ·rintro i m m' ⟨h1,h2,bx,h3⟩ ⟨⟨b2,e1⟩,_,_⟩;exact⟨h1,h2,bx++b2,by rw[e1,h3];rfl⟩
 ·rintro ex m m' ⟨h1,bx,h3⟩ ⟨⟨b2,e1⟩,_,_⟩;exact⟨h1,bx++b2,by rw[e1,h3];rfl⟩
 ·rintro l i m x hg hr ⟨h1,h2,bx,hb⟩ hx K' k1 k2 _;obtain⟨k,c,hc,hk,rfl⟩:=wW cs cs.length i x (zzab _) hx;rw[Ue]at hb
  have bB:cs.take (cs.length-i)=cs.take (cs.length-(i+1))++[c]:=by
   rw[show cs.length-i=k+1 by omega,show cs.length-(i+1)=k by omega,zzas,hc];rfl
  rw[bB,Bh]at h2;have c1:=mO c it rg;have c2:=Kr c;by_cases e1:c.ki=ki
  ·subst e1;cases e2:gR c it rg with
   |false=>
    rw[e2]at c1;rw[if_neg (by simp[RE,e2])]at h2;simp[hr,Zj,hb,Qg,Bi,e2];refine⟨by simpa[Qg]using c1,k1 _ ⟨by omega,h2,bx++[Qg c],?_⟩⟩;simp[Qg]
   |true=>
    rw[e2]at c1;cases e3:Xk c with
    |false=>
     rw[e3]at c2;rw[if_neg (by simp[RE,e3])]at h2;simp[hr,Zj,hb,Qg,Bi,e2,e3];refine⟨by simpa[Qg]using c1,by simpa[Qg]using c2,k1 _ ⟨by omega,h2,bx++[Qg c],?_⟩⟩;simp[Qg]
    |true=>
     rw[e3]at c2;rw[if_pos (by simp[RE,e2,e3])]at h2;simp[hr,Zj,hb,Qg,Bi,e2,e3];refine⟨by simpa[Qg]using c1,by simpa[Qg]using c2,k2 _ ⟨rfl,bx++[Qg c],?_⟩⟩;simp[Qg,h2]
  rw[if_neg (by simp[RE,e1])]at h2;simp[hr,Zj,hb,Qg,Bi,e1];refine k1 _ ⟨by omega,h2,bx++[Qg c],?_⟩;simp[Qg]
 ·rintro m ⟨h1,h2,bx,hb⟩;rw[FG,zzdn,zzho]at h2;have h2:no=T:=h2;simp[hb,VM,h2]
 rintro ex m ⟨rfl,bx,hb⟩;simp[hb,VM]
def afr(p:Pl)(it:Int)(hc:p.cls.length<=1000000000)(cm:p.aL.length<=1000000000):Pure Tryz.prog az 273 [.agg (Qb p),I it,I 0] (I (Wp p it)):=by
 have C6:=k8 p it cm;have awS:=afq p.cls 3 it 0 (-1) hc
 have asx:Pure Tryz.prog az 318 [.sl .ro (p.cls.map Qg),I it,I 0] (I (Ou 3 it 0 p.cls (-1))):=by
  refine Qn ael (fun _ _ _=>I (Ou 3 it 0 p.cls (-1))) (by simp) ?_;simp[ai7,ai8];exact awS
 refine Qn ad3 (fun _ f _=>if f=113 then Zh (Xh it p.aL)else I (Ou 3 it 0 p.cls (-1))) (by simp) ?_;cases hf:Xh it p.aL with
 |none=>
  rw[hf]at C6;simp[NF,NG,Qb,hf,Zh,Wp];exact⟨by simpa[Qb,Zh]using C6,asx⟩
 |some x=>
  rw[hf]at C6;by_cases h5:x.ki=5
  ·simp[NF,NG,Qb,hf,Zh,Qm,Wp,h5];simpa[Qb,Zh,Qm,h5]using C6
  simp[NF,NG,Qb,hf,Zh,Qm,Wp,h5];exact⟨by simpa[Qb,Zh,Qm]using C6,asx⟩
def Lh(a b:Int)(c:Cl):Bool:=(decide (c.a=a)&&decide (c.b=b))||(decide (c.a=b)&&decide (c.b=a))
def Y9(a b:Int)(c:Cl):Bool:=decide (c.ki=5)&&(Lh a b c&&Xk c)
def Bj(a b:Int)(c:Cl)(r:List Cl)(g:Int):pS a b (c::r) g=pS a b r (if Y9 a b c=true then max g c.n else g):=by
 rw[pS];congr 1;by_cases h:c.ki=5/\(c.a=a/\c.b=b\/c.a=b/\c.b=a)/\Xk c=true
 ·rw[if_pos h,if_pos (by simp[Y9,Lh,h.1,h.2.2];exact h.2.1)]
 rw[if_neg h,if_neg (by intro h';apply h;simp[Y9,Lh]at h';exact⟨h'.1,h'.2.1,h'.2.2⟩)]
def Gr{c:Cl}(h:Xk c=true)(h5:c.ki=5):0<=c.n/\c.n<=86400:=by
 unfold Xk at h;simp only[zzak]at h;have h2:=h.2;unfold Ui at h2;simp[h5,wi]at h2;omega
def Ov(a b:Int):∀(l:List Cl)(g:Int),0<=g/\g<=86400->0<=pS a b l g/\pS a b l g<=86400
 |[],g,h=>h
 |c::r,g,h=>by
  rw[Bj];apply Ov a b r;split
  ·rename_i hh;simp[Y9]at hh;have:=Gr hh.2.2 hh.1;omega
  exact h
def awT(a b T:Int)(cs:List Cl)(f:Nat->AV)(m:AM):Prop:=∃(i:Nat)(g:Int)(bx:List (List AV)),f 13=I i/\f 7=I g/\i<=cs.length/\pS a b (cs.drop i) g=T/\m=⟨bx,[],fun _=>.gone,0⟩
def amX(cs:List Cl)(a b:Int)(hl:cs.length<=1000000000):Pure Tryz.prog az 319 [.sl .ro (cs.map Qg),I a,I b] (I (pS a b cs 0)):=by
 obtain⟨T,hT⟩:∃T,pS a b cs 0=T:=⟨_,rfl⟩;rw[hT];refine Qn aem Be (by simp) ?_;simp[VL];refine Qi vH (awT a b T cs) (fun f _=>cs.length-(numOf (f 13)).toNat) ?_ ?_
 ·exact⟨0,0,_,by simp,by simp,by omega,by simpa using hT,rfl⟩
 rintro f m ⟨i,g,bx,rq,h7,hi,hx,rfl⟩;rcases zzaa i cs.length with ai|bu
 ·obtain⟨c,hc⟩:=aS ai;have ah:Qh (cs.map Qg) i=Qg c:=Qs (by simp[hc]);have aa:(i:Int)<(cs.length:Int):=by omega
  have hw:=bJ i (by omega);have k:=Kr c;rw[Zb hc,Bj]at hx;have awU:∀E,fc vH E E:=fun E=>Qc _ _;obtain⟨v0,h0⟩:∃v,(c.ki==5)=v:=⟨_,rfl⟩;obtain⟨v1,h1⟩:∃v,(c.a==a)=v:=⟨_,rfl⟩;obtain⟨v2,h2⟩:∃v,(c.b==b)=v:=⟨_,rfl⟩;obtain⟨v3,h3⟩:∃v,(c.a==b)=v:=⟨_,rfl⟩;obtain⟨v4,h4⟩:∃v,(c.b==a)=v:=⟨_,rfl⟩
  have hh:Y9 a b c=(v0&&(((v1&&v2)||(v3&&v4))&&Xk c)):=by
   rw[<- h0,<- h1,<- h2,<- h3,<- h4];rfl
  obtain⟨v5,h5⟩:∃v,Xk c=v:=⟨_,rfl⟩;have hk5:v5=true->v0=true->0<=c.n/\c.n<=86400:=fun e e'=>Gr (h5.trans e) (by rw[e']at h0;simpa using h0);rw[hh,h5]at hx;rw[h5]at k;have k':Abs.Pure Tryz.prog az 83 [.agg [I c.ki,I c.it,I c.fr,I c.to,I c.re,I c.n,I c.a,I c.b]] (.bool v5):=k;clear hh k;cases v0
  ·cases v1<;>cases v2<;>cases v3<;>cases v4<;>simp only[Bool.false_and,zzbq,if_false]at hx
   all_goals
    simp[rq,h7,ai,aa,ah,Qg,Be,h0,h1,h2,h3,h4,vH,hw];refine⟨aO,⟨i+1,g,_,by simp,by simp[h7],by omega,hx,rfl⟩,by omega⟩
  cases v1<;>cases v2<;>cases v3<;>cases v4<;>cases v5<;>simp only[zzgm,Bool.and_false,zzdo,Bool.false_and,Bool.or_true,Bool.or_false,Bool.true_or,Bool.false_or,zzbq,if_false,if_true,Bool.or_self,Bool.and_self]at hx
  all_goals
   simp[rq,h7,ai,aa,ah,Qg,Be,h0,h1,h2,h3,h4,h5,vH,hw];first
   |(
    refine⟨ag ?_,⟨i+1,g,_,by simp,by simp[h7],by omega,hx,rfl⟩,by omega⟩;repeat(first|exact Qc _ _|refine Qa _ rfl ?_))
   |(
    refine⟨k',ag ?_,⟨i+1,g,_,by simp,by simp[h7],by omega,hx,rfl⟩,by omega⟩;repeat(first|exact Qc _ _|refine Qa _ rfl ?_))
   |(
    refine⟨k',ag ?_,⟨i+1,max g c.n,_,by simp,by simp;omega,by omega,hx,rfl⟩,by omega⟩;repeat(first|exact Qc _ _|refine Qa _ rfl ?_))
 have bI:¬(i:Int)<(cs.length:Int):=by omega
 rw[zzam bu]at hx;have hx:g=T:=hx;subst hx;simp[rq,h7,bI,zzbm.2 bu,vH,ai9]
def sQ(p:Pl)(a b:Int):Nat->FuncId->List AV->AV:=fun d f l=>
 if f=113 then(match l with|[_,.int _ n]=>Zh (Xh n p.aL)|_=>.junk)else if f=183 then .bool (Vf p.nu p.de)else if f=319 then(match l with|[_,.int _ x,.int _ y]=>I (pS x y p.cls 0)|_=>.junk)else
 if f=119 then(match l with|[_,.int _ x]=>I (xu p.nu p.de x)|_=>.junk)else .junk
def amY(p:Pl)(a b:Int)(hc:p.cls.length<=1000000000)(cm:p.aL.length<=1000000000):Pure Tryz.prog az 274 [.agg (Qb p),I a,I b] (I (Ke p a b)):=by
 have ka:=k8 p a cm;have kb:=k8 p b cm;have kr:=Wo p.nu p.de;refine Qn ad4 (sQ p a b) (by simp) ?_;cases Dl:Xh a p.aL with
 |none=>
  rw[Dl]at ka;have hg:Ke p a b=0:=by simp[Ke,Dl]
  rw[hg];simp[r9,sd,Qb,sQ,Dl,Zh];simpa[Qb,Zh]using ka
 |some x=>
  rw[Dl]at ka;by_cases c1:x.sp=0
  ·have hg:Ke p a b=0:=by cases IF:Xh b p.aL<;>simp[Ke,Dl,IF,c1]
   rw[hg];simp[r9,sd,Qb,sQ,Dl,Zh,Qm,c1];simpa[Qb,Zh,Qm,c1]using ka
  cases c2:Vf p.nu p.de with
  |false=>
   rw[c2]at kr;have hg:Ke p a b=0:=by cases IF:Xh b p.aL<;>simp[Ke,Dl,IF,c2]
   rw[hg];simp[r9,sd,Qb,sQ,Dl,Zh,Qm,c1,c2];exact⟨by simpa[Qb,Zh,Qm]using ka,kr⟩
  |true=>
   rw[c2]at kr;cases IF:Xh b p.aL with
   |none=>
    rw[IF]at kb;have hg:Ke p a b=0:=by simp[Ke,Dl,IF]
    rw[hg];simp[r9,sd,Qb,sQ,Dl,IF,Zh,Qm,c1,c2];exact⟨by simpa[Qb,Zh,Qm]using ka,kr,by simpa[Qb,Zh,Qm]using kb⟩
   |some y=>
    rw[IF]at kb;by_cases c3:y.sp=0
    ·have hg:Ke p a b=0:=by simp[Ke,Dl,IF,c3]
     rw[hg];simp[r9,sd,Qb,sQ,Dl,IF,Zh,Qm,c1,c2,c3];exact⟨by simpa[Qb,Zh,Qm]using ka,kr,by simpa[Qb,Zh,Qm,c3]using kb⟩
    by_cases c4:x.sp=y.sp
    ·have hg:Ke p a b=0:=by simp[Ke,Dl,IF,c4]
     rw[hg];simp[r9,sd,Qb,sQ,Dl,IF,Zh,Qm,c1,c2,c3,<- c4];rw[<- c4]at c3;exact⟨by simpa[Qb,Zh,Qm]using ka,kr,by simpa[Qb,Zh,Qm,c4]using kb⟩
    have hg:Ke p a b=xu p.nu p.de (pS x.sp y.sp p.cls 0):=by simp[Ke,Dl,IF,c1,c2,c3,c4]
    rw[hg];have kg:=amX p.cls x.sp y.sp hc;have kf:=A3 p.nu p.de (pS x.sp y.sp p.cls 0);simp[r9,sd,Qb,sQ,Dl,IF,Zh,Qm,c1,c2,c3,c4];exact⟨by simpa[Qb,Zh,Qm]using ka,kr,by simpa[Qb,Zh,Qm]using kb,kg,kf⟩
structure Bd where
 p:Pl
 at_:Int
 us:List (Int×Int)
 en:List (Int×Int)
 rv:List (Int×(Rt×List Sp))
 li:List (Int×Int)
 pm:List ((Int×Int)×List Sp)
abbrev iA(n:Int):AV:=I n
def rG(x:It):AV:=.agg (Qm x)
def rvA(x:Rt×List Sp):AV:=.sl x.1 (x.2.map Qe)
def Tv(l:List ((Int×Int)×List Sp)):List (List Int×AV):=l.map fun x=>([x.1.1,x.1.2],.sl .ro (x.2.map Qe))
def Qp(k:Nat)(b:Bd):List AV:=Qb b.p++[I b.at_,.mp (k+1),.mp (k+2),.mp (k+3),.mp (k+4),.mp (k+5),.mp (k+6),.mp (k+7),.mp (k+8)]
def aU(k:Nat)(b:Bd)(post:List (List AV)):List (List AV):=
 Qb b.p::[.aJ 0 (bH iA (Dj b.p))]::[.aJ 0 (bH rG (zQ b.p))]::[.aJ 0 (bH iA (Ub b.p))]::[.aJ 0 (bH iA b.us)]::[.aJ 0 (bH iA b.en)]::
  [.aJ 0 (bH rvA b.rv)]::[.aJ 0 (bH iA b.li)]::[.aJ 2 (Tv b.pm)]::Qp k b::post
def aP(pre:List (List AV))(b:Bd)(post:List (List AV))(ls:List Nat):AM:=⟨pre++aU pre.length b post,ls,fun _=>.gone,0⟩
def amZ(b:Bd):Prop:=∀k v,af k b.li=some v->v=Wp b.p k
def afs(pre post:List (List AV))(ls:List Nat)(b:Bd)(it:Int)(hc:b.p.cls.length<=1000000000)(cm:b.p.aL.length<=1000000000)(hli:amZ b)(Y:YT)(K:AV->AM->Prop)
  (hK:∀li,amZ {b with li:=li}->K (I (Wp b.p it)) (aP pre {b with li:=li} post ls)):
  an Tryz.prog az Y 199 [.ptr (pre.length+9) 0,I it] (aP pre b post ls) K:=by
 have awV:=afr b.p it hc cm;refine Xe adf (fun _ _ _=>I (Wp b.p it)) (by simp) ?_;rcases Xr iA it b.li 0 with⟨h1,h2,h3,h4⟩|⟨u,n,h1,h2,_,_,_,h4⟩
 ·simp[UR,US,aP,aU,Qp,Qb,h2];refine⟨by simpa[Qb]using awV,?_⟩
  have:=hK (Zq it (Wp b.p it) b.li) (fun k v h=>by
   rw[Yc]at h;split at h
   ·rename_i e;cases h;rw[e]
   exact hli k v h)
  have IL:bH iA b.li++[([it],I (Wp b.p it))]=bH iA (Zq it (Wp b.p it) b.li):=h4 _;rw[IL];exact this
 simp[UR,US,aP,aU,Qp,Qb,h2];have hu:=hli it u h1;subst hu;exact hK b.li hli
def aft(b:Bd):Prop:=∀k x,af k b.rv=some x->∀it y,Xh it b.p.aL=some y->y.sp=k->x.2.Perm (Kt b.p it)
def xO(p:Pl)(it:Int)(L:List (Int×Int)):List Sp:=L.filterMap fun x=>if 0<Ke p x.2 it then some (x.1,Ke p x.2 it)else none
def atL{α:Type}(d:α)(L:List α)(seen:List Nat):List α:=seen.map fun i=>L.getD i d
def afu{α:Type}(d:α)(L:List α)(seen:List Nat)(hn:seen.Nodup)(bR:∀i,i<L.length->i∈seen)(hb:∀i∈seen,i<L.length):(atL d L seen).Perm L:=by
 have hp:seen.Perm (List.range L.length):=by
  rw[zzgn hn zzdt];intro i;simp only[zzbf];exact⟨hb i,bR i⟩
 have h1:=hp.map fun i=>L.getD i d
 have h2:(List.range L.length).map (fun i=>L.getD i d)=L:=by
  apply zzed (by simp);intro i h1 h2;simp[h2]
 rw[h2]at h1;exact h1
def afv{p:Pl}{a i j:Int}{x y:It}(hi:Xh i p.aL=some x)(hj:Xh j p.aL=some y)(h:x.sp=y.sp):Ke p a i=Ke p a j:=by
 simp only[Ke,hi,hj];cases Xh a p.aL with
 |none=>rfl
 |some z=>simp only[h]
def afw{p:Pl}{i j:Int}{x y:It}(hi:Xh i p.aL=some x)(hj:Xh j p.aL=some y)(h:x.sp=y.sp):Kt p i=Kt p j:=by
 simp only[Kt,hi,hj,h];cases af y.sp (Ub p)with
 |none=>rfl
 |some _=>simp only[afv hi hj h]
def xP:∀(l:List It)(a:List (Int×It))(s:List (Int×Int)),af 0 s=none->af 0 (zP l a s)=none
 |[],a,s,h=>h
 |x::r,a,s,h=>by
  rw[zP];cases af x.id a with
  |some _=>exact xP r a s h
  |none=>
   refine xP r _ _ ?_;split
   ·rw[Yc,if_neg (by omega)];exact h
   exact h
end Go.Proofs.YtnopaopphmjnmaaGreatDoor
