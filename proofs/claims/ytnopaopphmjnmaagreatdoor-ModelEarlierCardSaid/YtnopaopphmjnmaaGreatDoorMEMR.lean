import Derived.Test.YtnopaopphmjnmaaGreatDoorMEMQ
import Derived.Test.YtnopaopphmjnmaaGreatDoorMESeB
set_option linter.all false
set_option maxRecDepth 100000
set_option maxHeartbeats 64000000
namespace Go.Proofs.YtnopaopphmjnmaaGreatDoor
open Go Go.Abs
section
variable {α:Type}
def af(k:Int):List (Int×α)->Option α
 |[]=>none
 |x::r=>if x.1=k then some x.2 else af k r
def Vb(k:Int)(v:α):List (Int×α)->List (Int×α)
 |[]=>[(k,v)]
 |x::r=>if x.1=k then(k,v)::r else x::Vb k v r
def bH(row:α->AV)(l:List (Int×α)):List (List Int×AV):=l.map fun x=>([x.1],row x.2)
@[simp] theorem avT(row:α->AV):bH row []=[]:=rfl
@[simp] def avU(row:α->AV)(l:List (Int×α)):(bH row l).length=l.length:=by simp[bH]
def Xq(row:α->AV)(k:Int):∀(l:List (Int×α))(i:Nat),
  (af k l=none/\Xk [k] (bH row l) i=none/\(∀v,Vb k v l=l++[(k,v)])/\∀v,bH row l++[([k],row v)]=bH row (Vb k v l))\/
  ∃u n,af k l=some u/\Xk [k] (bH row l) i=some (i+n,row u)/\n<l.length/\(bH row l).getD n ([],.junk)=([k],row u)/\(∀v,(Vb k v l).length=l.length)/\∀v,(bH row l).set n ([k],row v)=bH row (Vb k v l)
 |[],i=>.inl ⟨rfl,rfl,fun _=>rfl,fun _=>rfl⟩
 |x::r,i=>by
  by_cases h:x.1=k
  ·refine .inr ⟨x.2,0,by rw[af,if_pos h],by simp[bH,Xk,h],by simp,by simp[bH,h],fun v=>by rw[Vb,if_pos h];rfl,fun v=>by rw[Vb,if_pos h];simp[bH]⟩
  have hk:¬([k]:List Int)=[x.1]:=by intro e;cases e;exact h rfl
  rcases Xq row k r (i+1)with⟨h1,h2,h3,h4⟩|⟨u,n,h1,h2,h3,h4,h5,h6⟩
  ·refine .inl ⟨by rw[af,if_neg h];exact h1,?_,fun v=>by rw[Vb,if_neg h,h3];rfl,fun v=>?_⟩
   ·simp only[bH,zzay,Xk];rw[if_neg hk];exact h2
   rw[Vb,if_neg h];simp only[bH,zzay,zzae];exact congrArg _ (h4 v)
  refine .inr ⟨u,n+1,by rw[af,if_neg h];exact h1,?_,by simp;omega,by simpa[bH]using h4,fun v=>by rw[Vb,if_neg h];simp[h5 v],fun v=>?_⟩
  ·simp only[bH,zzay,Xk];rw[if_neg hk,zzff n 1,<- zzam];exact h2
  rw[Vb,if_neg h];simp only[bH,zzay,zzdy];exact congrArg _ (h6 v)
def Uo(k q:Int)(v:α):∀l:List (Int×α),af q (Vb k v l)=if q=k then some v else af q l
 |[]=>by
  by_cases h:q=k
  ·subst h;simp[Vb,af]
  have:¬k=q:=fun e=>h e.symm;simp[Vb,af,h,this]
 |x::r=>by
  have ih:=Uo k q v r;by_cases h:x.1=k
  ·rw[Vb,if_pos h];by_cases hq:q=k
   ·subst hq;simp[af]
   have:¬k=q:=fun e=>hq e.symm;have hx:¬x.1=q:=by omega
   simp[af,hq,this,hx]
  rw[Vb,if_neg h,af,ih,af];by_cases hx:x.1=q
  ·have:¬q=k:=by omega
   simp[hx,this]
  rw[if_neg hx];by_cases hq:q=k<;>simp[hq,hx]
def Gw(k:Int)(v:α):∀l:List (Int×α),(Vb k v l).length<=l.length+1
 |[]=>by simp[Vb]
 |x::r=>by
  rw[Vb];split
  ·simp
  have:=Gw k v r;simp only[zzba];omega
def ayl(l:List (Int×α)):Prop:=(l.map (·.1)).Nodup
end
def Gx:List En->Nat->List (Int×Int)->List (Int×Int)
 |[],_,a=>a
 |e::r,i,a=>Gx r (i+1) (match af e.id a with|some _=>a|none=>Vb e.id (i:Int) a)
def Ls:List It->List (Int×It)->List (Int×It)
 |[],a=>a
 |x::r,a=>Ls r (match af x.id a with|some _=>a|none=>Vb x.id x a)
def zR:List It->List (Int×It)->List (Int×Int)->List (Int×Int)
 |[],_,s=>s
 |x::r,a,s=>(match af x.id a with
  |some _=>zR r a s
  |none=>zR r (Vb x.id x a) (if 1<=x.sp/\x.sp<=200 then Vb x.sp x.id s else s))
def Dj(p:Pl):List (Int×Int):=Gx p.ens 0 []
def zS(p:Pl):List (Int×It):=Ls p.aM []
def Uf(p:Pl):List (Int×Int):=zR p.aM [] []
def zT(id:Int):List En->Nat->Option Nat
 |[],_=>none
 |e::r,i=>if e.id=id then some i else zT id r (i+1)
def OD(id:Int):∀(l:List En)(i:Nat)(a:List (Int×Int)),af id (Gx l i a)=match af id a with|some v=>some v|none=>(zT id l i).map fun n=>(n:Int)
 |[],i,a=>by simp only[Gx,zT];cases af id a<;>rfl
 |e::r,i,a=>by
  rw[Gx,OD id r,zT];cases h:af e.id a with
  |some v=>
   simp only;cases h':af id a with
   |some u=>rfl
   |none=>
    have:¬e.id=id:=by rintro rfl;rw[h]at h';cases h'
    simp[this]
  |none=>
   simp only;rw[Uo];by_cases e1:id=e.id
   ·subst e1;simp[h]
   have e2:¬e.id=id:=fun h=>e1 h.symm;simp[e1,e2]
def uN(p:Pl)(id:Int):af id (Dj p)=(zT id p.ens 0).map fun n=>(n:Int):=by rw[Dj,OD];rfl
def OE(id:Int):∀(l:List It)(a:List (Int×It)),af id (Ls l a)=match af id a with|some v=>some v|none=>Xj id l
 |[],a=>by simp only[Ls,Xj];cases af id a<;>rfl
 |e::r,a=>by
  rw[Ls,OE id r,Xj];cases h:af e.id a with
  |some v=>
   simp only;cases h':af id a with
   |some u=>rfl
   |none=>
    have:¬e.id=id:=by rintro rfl;rw[h]at h';cases h'
    simp[this]
  |none=>
   simp only;rw[Uo];by_cases e1:id=e.id
   ·subst e1;simp[h]
   have e2:¬e.id=id:=fun h=>e1 h.symm;simp[e1,e2]
def uO(p:Pl)(id:Int):af id (zS p)=Xj id p.aM:=by rw[zS,OE];rfl
structure Ad where
 it:Int
 re:Int
 fr:Int
 fs:Int
def Vj(a:Ad):List AV:=[I a.it,I a.re,I a.fr,I a.fs]
def rF(a:Ad):Bool:=decide (a.re=0/\0<=a.fr/\a.fr<=100000000/\1<=a.fs/\a.fs<=100000000)
def Vx(u:List (Int×Int))(it:Int):List (Int×Int):=Vb it ((af it u).getD 0+1) u
def Zn(p:Pl)(en:List (Int×Int))(it e:Int):List (Int×Int):=match Xj it p.aM with
 |some x=>Vb x.sp (max ((af x.sp en).getD 0) e) en
 |none=>en
def OF:List Ad->List (Int×Int)->List (Int×Int)
 |[],u=>u
 |a::r,u=>OF r (if rF a then Vx u a.it else u)
def OG(p:Pl):List Ad->List (Int×Int)->List (Int×Int)
 |[],u=>u
 |a::r,u=>OG p r (if rF a then Zn p u a.it (a.fr+a.fs)else u)
def OH(ki it rg:Int):List Cl->Int->Int
 |[],n=>n
 |c::r,n=>OH ki it rg r (if c.ki=ki/\gW c it rg=true/\Xl c=true then c.n else n)
def Wv(p:Pl)(it:Int):Int:=match Xj it p.aM with
 |some x=>if x.ki=5 then -1 else OH 3 it 0 p.cls (-1)
 |none=>OH 3 it 0 p.cls (-1)
def pT(a b:Int):List Cl->Int->Int
 |[],g=>g
 |c::r,g=>pT a b r (if c.ki=5/\(c.a=a/\c.b=b\/c.a=b/\c.b=a)/\Xl c=true then max g c.n else g)
def Kh(p:Pl)(a b:Int):Int:=match Xj a p.aM,Xj b p.aM with
 |some x,some y=>if x.sp=0\/Vf p.nu p.de=false\/y.sp=0\/x.sp=y.sp then 0 else xA p.nu p.de (pT x.sp y.sp p.cls 0)
 |_,_=>0
def Gy(at_ n:Int):List Sp->Option Int
 |[]=>none
 |s::r=>if max s.1 at_<s.2/\n<=s.2-max s.1 at_ then some (max s.1 at_)else Gy at_ n r
def mj(l:List Sp)(at_ n:Int):Option Int:=if n<=0 then some at_ else Gy at_ n (Xm l)
def Za(p:Pl)(it n:Int):List Sp:=Xm (Vq p it 0 (n*1000000,(n+1)*1000000)++Vq p it 0 ((n+1)*1000000,(n+2)*1000000))
def Tq(p:Pl)(e:En)(last from_ n:Int):Option Int:=
 if n*1000000<=last then
  match mj (Za p e.it n) from_ e.fr with
  |none=>Tq p e last from_ (n+1)
  |some s=>if last<s then none else some s
 else none
termination_by(last-n*1000000+1000000).toNat
decreasing_by omega
def mV(p:Pl)(e:En):Int:=min (min e.la (p.ln-e.fr)) 100000000
def Yh(p:Pl)(e:En)(from_:Int):Option Int:=
 if e.fr<1\/1000000<e.fr\/p.ln<e.fr then none else Tq p e (mV p e) (max from_ 0) ((max from_ 0).tdiv 1000000)
def Kz(p:Pl)(it:Int):List Sp:=match Xj it p.aM with
 |none=>[]
 |some y=>match af y.sp (Uf p)with
  |none=>[]
  |some _=>(Uf p).filterMap fun x=>if 0<Kh p x.2 it then some (x.1,Kh p x.2 it)else none
def Un(en:List (Int×Int)):List Sp->Int->Int
 |[],f=>f
 |r::l,f=>Un en l (match af r.1 en with|some e=>max f (e+r.2)|none=>f)
def Jp(p:Pl):List Int->List (Int×Int)->List (Int×Int)->Int->Int->Option (List Sp)
 |[],_,_,_,_=>some []
 |id::r,us,en,free,last=>match zT id p.ens 0 with
  |none=>none
  |some k=>if(k:Int)<=last then none else match p.ens[k]? with
   |none=>none
   |some e=>if Wv p e.it≠ -1/\Wv p e.it<=(af e.it us).getD 0 then none else
    match Yh p e (Un en (Kz p e.it) (max e.ea free))with
    |none=>none
    |some s=>match Jp p r (Vx us e.it) (Zn p en e.it (s+e.fr)) (s+e.fr) k with
     |none=>none
     |some l=>some ((id,s)::l)
def Yw(p:Pl)(at_:Int)(past:List Ad)(ids:List Int):Option (List Sp):=Jp p ids (OF past []) (OG p past []) at_ (-1)
def Dk{at_ n:Int}:∀{l:List Sp}{s:Int},Gy at_ n l=some s->∃a∈l,max a.1 at_=s/\s<a.2/\n<=a.2-s
 |a::r,s,h=>by
  rw[Gy]at h;split at h
  ·rename_i hc;cases h;exact⟨a,by simp,rfl,hc.1,hc.2⟩
  obtain⟨b,hb,h1⟩:=Dk h;exact⟨b,by simp[hb],h1⟩
def Qcj(p:Pl)(it n x:Int):Xr (Za p it n) x<->n*1000000<=x/\x<(n+2)*1000000/\gZ p it 0 x:=by
 rw[Za,(Va _).2,Yx,lE _ _ _ _ (by simp only;omega),lE _ _ _ _ (by simp only;omega)];simp only;constructor
 ·rintro(⟨h1,h2,h3⟩|⟨h1,h2,h3⟩)<;>exact⟨by omega,by omega,h3⟩
 rintro⟨h1,h2,h3⟩;by_cases h:x<(n+1)*1000000
 ·exact .inl ⟨h1,h,h3⟩
 exact .inr ⟨by omega,h2,h3⟩
def afo{p:Pl}{it n at_ m s:Int}(hm:1<=m)(h:mj (Za p it n) at_ m=some s):at_<=s/\∀x,s<=x->x<s+m->gZ p it 0 x:=by
 rw[mj,if_neg (by omega)]at h;obtain⟨a,ha,h1,h2,h3⟩:=Dk h;refine⟨by omega,fun x hx hx2=>?_⟩;have:Xr (Xm (Za p it n)) x:=⟨a,ha,by omega,by omega⟩;rw[(Va _).2,Qcj]at this;exact this.2.2
def Y2{p:Pl}{e:En}{last from_ n s:Int}(he:1<=e.fr)(h:Tq p e last from_ n=some s):from_<=s/\s<=last/\∀x,s<=x->x<s+e.fr->gZ p e.it 0 x:=by
 unfold Tq at h;split at h
 ·rename_i hc;cases hs:mj (Za p e.it n) from_ e.fr with
  |none=>rw[hs]at h;exact Y2 he h
  |some t=>
   rw[hs]at h;simp only at h;split at h
   ·cases h
   rename_i hl;cases h;obtain⟨h1,h2⟩:=afo he hs;exact⟨h1,by omega,h2⟩
 cases h
termination_by(last-n*1000000+1000000).toNat
decreasing_by omega
def Qbi{p:Pl}{e:En}{from_ s:Int}(h:Yh p e from_=some s):(1<=e.fr/\e.fr<=1000000)/\from_<=s/\0<=s/\s<=e.la/\s+e.fr<=p.ln/\s<=100000000/\∀x,s<=x->x<s+e.fr->gZ p e.it 0 x:=by
 rw[Yh]at h;split at h
 ·cases h
 rename_i hc;obtain⟨h1,h2,h3⟩:=Y2 (by omega) h;simp only[mV]at h2;exact⟨by omega,by omega,by omega,by omega,by omega,by omega,h3⟩
def Gz(en:List (Int×Int)):∀(l:List Sp)(f:Int),f<=Un en l f
 |[],f=>zzbv _
 |r::l,f=>by
  rw[Un];refine zzhp ?_ (Gz en l _);split<;>omega
def xR(en:List (Int×Int)){l l':List Sp}(h:l.Perm l'):∀f,Un en l f=Un en l' f:=by
 induction h with
 |nil=>exact fun _=>rfl
 |cons x _ ih=>intro f;simp only[Un,ih]
 |swap x y l=>
  intro f;simp only[Un];congr 1;cases af x.1 en<;>cases af y.1 en<;>simp only<;>omega
 |trans _ _ ih1 ih2=>exact fun f=>(ih1 f).trans (ih2 f)
def rG{id:Int}:∀{l:List En}{i k:Nat},zT id l i=some k->i<=k/\∃e,l[k-i]?=some e/\e.id=id/\Zf id l=some e
 |[],i,k,h=>by cases h
 |e::r,i,k,h=>by
  rw[zT]at h;split at h
  ·rename_i hc;cases h;exact⟨zzab _,e,by simp,hc,by simp[Zf,hc]⟩
  rename_i hc;obtain⟨h1,x,h2,h3,h4⟩:=rG h;refine⟨by omega,x,?_,h3,by simp[Zf,hc,h4]⟩;obtain⟨d,hd⟩:∃d,k-i=d+1:=⟨k-i-1,by omega⟩;rw[hd,zzde,<- h2];congr 1;omega
def RH(ki it rg:Int)(c:Cl):Bool:=decide (c.ki=ki)&&(gW c it rg&&Xl c)
def Bg(ki it rg:Int)(c:Cl):∀(l:List Cl)(n:Int),OH ki it rg (l++[c]) n=if RH ki it rg c=true then c.n else OH ki it rg l n
 |[],n=>by simp[OH,RH]
 |d::l,n=>by rw[zzae,OH,Bg ki it rg c l,OH]
def Bh(cs:List Cl)(ki it rg:Int):Nat->FuncId->List AV->AV:=fun _ f l=>
 if f=257 then .fn 310 [] [.ep [.sl .ro (cs.map Qg)] 0]else if f=255 then(match l with
  |[.agg [.int _ a,.int _ b,.int _ c,.int _ d,.int _ e,.int _ f,.int _ g,.int _ h],_,_]=>.bool (gW ⟨a,b,c,d,e,f,g,h⟩ it rg)
  |_=>.junk)else(match l with
  |[.agg [.int _ a,.int _ b,.int _ c,.int _ d,.int _ e,.int _ f,.int _ g,.int _ h]]=>.bool (Xl ⟨a,b,c,d,e,f,g,h⟩)
  |_=>.junk)
def afp(cs:List Cl)(ki it rg no:Int)(hl:cs.length<=1000000000):Pure Tryz.prog az 347 [.sl .ro (cs.map Qg),I ki,I it,I rg,I no] (I (OH ki it rg cs no)):=by
 have amF:=mN cs;have cI:=mO cs hl;obtain⟨T,hT⟩:∃T,OH ki it rg cs no=T:=⟨_,rfl⟩;rw[hT];refine Qn aeu (Bh cs ki it rg) (by simp) ?_;simp[ajg,Bh];refine⟨amF,?_⟩;refine jI (xs:=Rb cs cs.length) (by simp) cI FP (fun i m=>i<=cs.length/\OH ki it rg (cs.take (cs.length-i)) no=T/\∃bx,m.boxes=[I ki]::[I it]::[I rg]::[I 0]::bx) (fun ex m=>ex=.ret/\∃bx,m.boxes=[I ki]::[I it]::[I rg]::[I T]::bx) ?_ ?_ ?_ ?_ ?_ ?_
 ·exact⟨by omega,by simpa using hT,[],by simp⟩
 ·rintro i m m' ⟨h1,h2,bx,h3⟩ ⟨⟨b2,e1⟩,_,_⟩;exact⟨h1,h2,bx++b2,by rw[e1,h3];rfl⟩
 ·rintro ex m m' ⟨h1,bx,h3⟩ ⟨⟨b2,e1⟩,_,_⟩;exact⟨h1,bx++b2,by rw[e1,h3];rfl⟩
 ·rintro l i m x hg hr ⟨h1,h2,bx,hb⟩ hx K' k1 k2 _;obtain⟨k,c,hc,hk,rfl⟩:=w8 cs cs.length i x (zzab _) hx;rw[Ui]at hb
  have bB:cs.take (cs.length-i)=cs.take (cs.length-(i+1))++[c]:=by
   rw[show cs.length-i=k+1 by omega,show cs.length-(i+1)=k by omega,zzas,hc];rfl
  rw[bB,Bg]at h2;have c1:=mR c it rg;have c2:=Ky c;by_cases e1:c.ki=ki
  ·subst e1;cases e2:gW c it rg with
   |false=>
    rw[e2]at c1;rw[if_neg (by simp[RH,e2])]at h2;simp[hr,Zl,hb,Qg,Bh,e2];refine⟨by simpa[Qg]using c1,k1 _ ⟨by omega,h2,bx++[Qg c],?_⟩⟩;simp[Qg]
   |true=>
    rw[e2]at c1;cases e3:Xl c with
    |false=>
     rw[e3]at c2;rw[if_neg (by simp[RH,e3])]at h2;simp[hr,Zl,hb,Qg,Bh,e2,e3];refine⟨by simpa[Qg]using c1,by simpa[Qg]using c2,k1 _ ⟨by omega,h2,bx++[Qg c],?_⟩⟩;simp[Qg]
    |true=>
     rw[e3]at c2;rw[if_pos (by simp[RH,e2,e3])]at h2;simp[hr,Zl,hb,Qg,Bh,e2,e3];refine⟨by simpa[Qg]using c1,by simpa[Qg]using c2,k2 _ ⟨rfl,bx++[Qg c],?_⟩⟩;simp[Qg,h2]
  rw[if_neg (by simp[RH,e1])]at h2;simp[hr,Zl,hb,Qg,Bh,e1];refine k1 _ ⟨by omega,h2,bx++[Qg c],?_⟩;simp[Qg]
 ·rintro m ⟨h1,h2,bx,hb⟩;rw[FO,zzev,zzhj]at h2;have h2:no=T:=h2;simp[hb,VK,h2]
 rintro ex m ⟨rfl,bx,hb⟩;simp[hb,VK]
def afq(p:Pl)(it:Int)(hc:p.cls.length<=1000000000)(cI:p.aM.length<=1000000000):Pure Tryz.prog az 273 [.agg (Qc p),I it,I 0] (I (Wv p it)):=by
 have C8:=lB p it cI;have awX:=afp p.cls 3 it 0 (-1) hc
 have asE:Pure Tryz.prog az 318 [.sl .ro (p.cls.map Qg),I it,I 0] (I (OH 3 it 0 p.cls (-1))):=by
  refine Qn aen (fun _ _ _=>I (OH 3 it 0 p.cls (-1))) (by simp) ?_;simp[ai5,ai6];exact awX
 refine Qn ad5 (fun _ f _=>if f=113 then Zq (Xj it p.aM)else I (OH 3 it 0 p.cls (-1))) (by simp) ?_;cases hf:Xj it p.aM with
 |none=>
  rw[hf]at C8;simp[NS,NT,Qc,hf,Zq,Wv];exact⟨by simpa[Qc,Zq]using C8,asE⟩
 |some x=>
  rw[hf]at C8;by_cases h5:x.ki=5
  ·simp[NS,NT,Qc,hf,Zq,Qm,Wv,h5];simpa[Qc,Zq,Qm,h5]using C8
  simp[NS,NT,Qc,hf,Zq,Qm,Wv,h5];exact⟨by simpa[Qc,Zq,Qm]using C8,asE⟩
def Lt(a b:Int)(c:Cl):Bool:=(decide (c.a=a)&&decide (c.b=b))||(decide (c.a=b)&&decide (c.b=a))
def Y3(a b:Int)(c:Cl):Bool:=decide (c.ki=5)&&(Lt a b c&&Xl c)
def Bi(a b:Int)(c:Cl)(r:List Cl)(g:Int):pT a b (c::r) g=pT a b r (if Y3 a b c=true then max g c.n else g):=by
 rw[pT];congr 1;by_cases h:c.ki=5/\(c.a=a/\c.b=b\/c.a=b/\c.b=a)/\Xl c=true
 ·rw[if_pos h,if_pos (by simp[Y3,Lt,h.1,h.2.2];exact h.2.1)]
 rw[if_neg h,if_neg (by intro h';apply h;simp[Y3,Lt]at h';exact⟨h'.1,h'.2.1,h'.2.2⟩)]
def GA{c:Cl}(h:Xl c=true)(h5:c.ki=5):0<=c.n/\c.n<=86400:=by
 unfold Xl at h;simp only[zzak]at h;have h2:=h.2;unfold Um at h2;simp[h5,wi]at h2;omega
def OJ(a b:Int):∀(l:List Cl)(g:Int),0<=g/\g<=86400->0<=pT a b l g/\pT a b l g<=86400
 |[],g,h=>h
 |c::r,g,h=>by
  rw[Bi];apply OJ a b r;split
  ·rename_i hh;simp[Y3]at hh;have:=GA hh.2.2 hh.1;omega
  exact h
def awY(a b T:Int)(cs:List Cl)(f:Nat->AV)(m:AM):Prop:=∃(i:Nat)(g:Int)(bx:List (List AV)),f 13=I i/\f 7=I g/\i<=cs.length/\pT a b (cs.drop i) g=T/\m=⟨bx,[],fun _=>.gone,0⟩
def am0(cs:List Cl)(a b:Int)(hl:cs.length<=1000000000):Pure Tryz.prog az 319 [.sl .ro (cs.map Qg),I a,I b] (I (pT a b cs 0)):=by
 obtain⟨T,hT⟩:∃T,pT a b cs 0=T:=⟨_,rfl⟩;rw[hT];refine Qn aeo Bc (by simp) ?_;simp[VJ];refine Qj vK (awY a b T cs) (fun f _=>cs.length-(numOf (f 13)).toNat) ?_ ?_
 ·exact⟨0,0,_,by simp,by simp,by omega,by simpa using hT,rfl⟩
 rintro f m ⟨i,g,bx,xu,h7,hi,hx,rfl⟩;rcases zzaa i cs.length with ai|bu
 ·obtain⟨c,hc⟩:=aR ai;have ah:Qh (cs.map Qg) i=Qg c:=Qs (by simp[hc]);have aa:(i:Int)<(cs.length:Int):=by omega
  have hw:=bK i (by omega);have k:=Ky c;rw[Zb hc,Bi]at hx;have awZ:∀E,dy vK E E:=fun E=>Qb _ _;obtain⟨v0,h0⟩:∃v,(c.ki==5)=v:=⟨_,rfl⟩;obtain⟨v1,h1⟩:∃v,(c.a==a)=v:=⟨_,rfl⟩;obtain⟨v2,h2⟩:∃v,(c.b==b)=v:=⟨_,rfl⟩;obtain⟨v3,h3⟩:∃v,(c.a==b)=v:=⟨_,rfl⟩;obtain⟨v4,h4⟩:∃v,(c.b==a)=v:=⟨_,rfl⟩
  have hh:Y3 a b c=(v0&&(((v1&&v2)||(v3&&v4))&&Xl c)):=by
   rw[<- h0,<- h1,<- h2,<- h3,<- h4];rfl
  obtain⟨v5,h5⟩:∃v,Xl c=v:=⟨_,rfl⟩;have hk5:v5=true->v0=true->0<=c.n/\c.n<=86400:=fun e e'=>GA (h5.trans e) (by rw[e']at h0;simpa using h0);rw[hh,h5]at hx;rw[h5]at k;have k':Abs.Pure Tryz.prog az 83 [.agg [I c.ki,I c.it,I c.fr,I c.to,I c.re,I c.n,I c.a,I c.b]] (.bool v5):=k;clear hh k;cases v0
  ·cases v1<;>cases v2<;>cases v3<;>cases v4<;>simp only[Bool.false_and,zzbq,if_false]at hx
   all_goals
    simp[xu,h7,ai,aa,ah,Qg,Bc,h0,h1,h2,h3,h4,vK,hw];refine⟨aO,⟨i+1,g,_,by simp,by simp[h7],by omega,hx,rfl⟩,by omega⟩
  cases v1<;>cases v2<;>cases v3<;>cases v4<;>cases v5<;>simp only[zzgg,Bool.and_false,zzdq,Bool.false_and,Bool.or_true,Bool.or_false,Bool.true_or,Bool.false_or,zzbq,if_false,if_true,Bool.or_self,Bool.and_self]at hx
  all_goals
   simp[xu,h7,ai,aa,ah,Qg,Bc,h0,h1,h2,h3,h4,h5,vK,hw];first
   |(
    refine⟨ag ?_,⟨i+1,g,_,by simp,by simp[h7],by omega,hx,rfl⟩,by omega⟩;repeat(first|exact Qb _ _|refine Qa _ rfl ?_))
   |(
    refine⟨k',ag ?_,⟨i+1,g,_,by simp,by simp[h7],by omega,hx,rfl⟩,by omega⟩;repeat(first|exact Qb _ _|refine Qa _ rfl ?_))
   |(
    refine⟨k',ag ?_,⟨i+1,max g c.n,_,by simp,by simp;omega,by omega,hx,rfl⟩,by omega⟩;repeat(first|exact Qb _ _|refine Qa _ rfl ?_))
 have bJ:¬(i:Int)<(cs.length:Int):=by omega
 rw[zzal bu]at hx;have hx:g=T:=hx;subst hx;simp[xu,h7,bJ,zzbl.2 bu,vK,ai7]
def sS(p:Pl)(a b:Int):Nat->FuncId->List AV->AV:=fun d f l=>
 if f=113 then(match l with|[_,.int _ n]=>Zq (Xj n p.aM)|_=>.junk)else if f=183 then .bool (Vf p.nu p.de)else if f=319 then(match l with|[_,.int _ x,.int _ y]=>I (pT x y p.cls 0)|_=>.junk)else
 if f=119 then(match l with|[_,.int _ x]=>I (xA p.nu p.de x)|_=>.junk)else .junk
def am1(p:Pl)(a b:Int)(hc:p.cls.length<=1000000000)(cI:p.aM.length<=1000000000):Pure Tryz.prog az 274 [.agg (Qc p),I a,I b] (I (Kh p a b)):=by
 have ka:=lB p a cI;have kb:=lB p b cI;have kr:=Wu p.nu p.de;refine Qn ad6 (sS p a b) (by simp) ?_;cases Dl:Xj a p.aM with
 |none=>
  rw[Dl]at ka;have hg:Kh p a b=0:=by simp[Kh,Dl]
  rw[hg];simp[se,sg,Qc,sS,Dl,Zq];simpa[Qc,Zq]using ka
 |some x=>
  rw[Dl]at ka;by_cases c1:x.sp=0
  ·have hg:Kh p a b=0:=by cases IS:Xj b p.aM<;>simp[Kh,Dl,IS,c1]
   rw[hg];simp[se,sg,Qc,sS,Dl,Zq,Qm,c1];simpa[Qc,Zq,Qm,c1]using ka
  cases c2:Vf p.nu p.de with
  |false=>
   rw[c2]at kr;have hg:Kh p a b=0:=by cases IS:Xj b p.aM<;>simp[Kh,Dl,IS,c2]
   rw[hg];simp[se,sg,Qc,sS,Dl,Zq,Qm,c1,c2];exact⟨by simpa[Qc,Zq,Qm]using ka,kr⟩
  |true=>
   rw[c2]at kr;cases IS:Xj b p.aM with
   |none=>
    rw[IS]at kb;have hg:Kh p a b=0:=by simp[Kh,Dl,IS]
    rw[hg];simp[se,sg,Qc,sS,Dl,IS,Zq,Qm,c1,c2];exact⟨by simpa[Qc,Zq,Qm]using ka,kr,by simpa[Qc,Zq,Qm]using kb⟩
   |some y=>
    rw[IS]at kb;by_cases c3:y.sp=0
    ·have hg:Kh p a b=0:=by simp[Kh,Dl,IS,c3]
     rw[hg];simp[se,sg,Qc,sS,Dl,IS,Zq,Qm,c1,c2,c3];exact⟨by simpa[Qc,Zq,Qm]using ka,kr,by simpa[Qc,Zq,Qm,c3]using kb⟩
    by_cases c4:x.sp=y.sp
    ·have hg:Kh p a b=0:=by simp[Kh,Dl,IS,c4]
     rw[hg];simp[se,sg,Qc,sS,Dl,IS,Zq,Qm,c1,c2,c3,<- c4];rw[<- c4]at c3;exact⟨by simpa[Qc,Zq,Qm]using ka,kr,by simpa[Qc,Zq,Qm,c4]using kb⟩
    have hg:Kh p a b=xA p.nu p.de (pT x.sp y.sp p.cls 0):=by simp[Kh,Dl,IS,c1,c2,c3,c4]
    rw[hg];have kg:=am0 p.cls x.sp y.sp hc;have kf:=A5 p.nu p.de (pT x.sp y.sp p.cls 0);simp[se,sg,Qc,sS,Dl,IS,Zq,Qm,c1,c2,c3,c4];exact⟨by simpa[Qc,Zq,Qm]using ka,kr,by simpa[Qc,Zq,Qm]using kb,kg,kf⟩
structure Bd where
 p:Pl
 at_:Int
 us:List (Int×Int)
 en:List (Int×Int)
 rv:List (Int×(Rt×List Sp))
 li:List (Int×Int)
 pm:List ((Int×Int)×List Sp)
abbrev iA(n:Int):AV:=I n
def rH(x:It):AV:=.agg (Qm x)
def rvA(x:Rt×List Sp):AV:=.sl x.1 (x.2.map Qe)
def Tr(l:List ((Int×Int)×List Sp)):List (List Int×AV):=l.map fun x=>([x.1.1,x.1.2],.sl .ro (x.2.map Qe))
def Qp(k:Nat)(b:Bd):List AV:=Qc b.p++[I b.at_,.mp (k+1),.mp (k+2),.mp (k+3),.mp (k+4),.mp (k+5),.mp (k+6),.mp (k+7),.mp (k+8)]
def aU(k:Nat)(b:Bd)(post:List (List AV)):List (List AV):=
 Qc b.p::[.aJ 0 (bH iA (Dj b.p))]::[.aJ 0 (bH rH (zS b.p))]::[.aJ 0 (bH iA (Uf b.p))]::[.aJ 0 (bH iA b.us)]::[.aJ 0 (bH iA b.en)]::
  [.aJ 0 (bH rvA b.rv)]::[.aJ 0 (bH iA b.li)]::[.aJ 2 (Tr b.pm)]::Qp k b::post
def aP(pre:List (List AV))(b:Bd)(post:List (List AV))(ls:List Nat):AM:=⟨pre++aU pre.length b post,ls,fun _=>.gone,0⟩
def am2(b:Bd):Prop:=∀k v,af k b.li=some v->v=Wv b.p k
def afr(pre post:List (List AV))(ls:List Nat)(b:Bd)(it:Int)(hc:b.p.cls.length<=1000000000)(cI:b.p.aM.length<=1000000000)(hli:am2 b)(Y:YT)(K:AV->AM->Prop)
  (hK:∀li,am2 {b with li:=li}->K (I (Wv b.p it)) (aP pre {b with li:=li} post ls)):
  an Tryz.prog az Y 199 [.ptr (pre.length+9) 0,I it] (aP pre b post ls) K:=by
 have aw0:=afq b.p it hc cI;refine Xe adh (fun _ _ _=>I (Wv b.p it)) (by simp) ?_;rcases Xq iA it b.li 0 with⟨h1,h2,h3,h4⟩|⟨u,n,h1,h2,_,_,_,h4⟩
 ·simp[UP,UQ,aP,aU,Qp,Qc,h2];refine⟨by simpa[Qc]using aw0,?_⟩
  have:=hK (Vb it (Wv b.p it) b.li) (fun k v h=>by
   rw[Uo]at h;split at h
   ·rename_i e;cases h;rw[e]
   exact hli k v h)
  have IT:bH iA b.li++[([it],I (Wv b.p it))]=bH iA (Vb it (Wv b.p it) b.li):=h4 _;rw[IT];exact this
 simp[UP,UQ,aP,aU,Qp,Qc,h2];have hu:=hli it u h1;subst hu;exact hK b.li hli
def afs(b:Bd):Prop:=∀k x,af k b.rv=some x->∀it y,Xj it b.p.aM=some y->y.sp=k->x.2.Perm (Kz b.p it)
def xS(p:Pl)(it:Int)(L:List (Int×Int)):List Sp:=L.filterMap fun x=>if 0<Kh p x.2 it then some (x.1,Kh p x.2 it)else none
def atL{α:Type}(d:α)(L:List α)(seen:List Nat):List α:=seen.map fun i=>L.getD i d
def aft{α:Type}(d:α)(L:List α)(seen:List Nat)(hn:seen.Nodup)(bP:∀i,i<L.length->i∈seen)(hb:∀i∈seen,i<L.length):(atL d L seen).Perm L:=by
 have hp:seen.Perm (List.range L.length):=by
  rw[zzgh hn zzdk];intro i;simp only[zzbd];exact⟨hb i,bP i⟩
 have h1:=hp.map fun i=>L.getD i d
 have h2:(List.range L.length).map (fun i=>L.getD i d)=L:=by
  apply zzee (by simp);intro i h1 h2;simp[h2]
 rw[h2]at h1;exact h1
def afu{p:Pl}{a i j:Int}{x y:It}(hi:Xj i p.aM=some x)(hj:Xj j p.aM=some y)(h:x.sp=y.sp):Kh p a i=Kh p a j:=by
 simp only[Kh,hi,hj];cases Xj a p.aM with
 |none=>rfl
 |some z=>simp only[h]
def afv{p:Pl}{i j:Int}{x y:It}(hi:Xj i p.aM=some x)(hj:Xj j p.aM=some y)(h:x.sp=y.sp):Kz p i=Kz p j:=by
 simp only[Kz,hi,hj,h];cases af y.sp (Uf p)with
 |none=>rfl
 |some _=>simp only[afu hi hj h]
def xU:∀(l:List It)(a:List (Int×It))(s:List (Int×Int)),af 0 s=none->af 0 (zR l a s)=none
 |[],a,s,h=>h
 |x::r,a,s,h=>by
  rw[zR];cases af x.id a with
  |some _=>exact xU r a s h
  |none=>
   refine xU r _ _ ?_;split
   ·rw[Uo,if_neg (by omega)];exact h
   exact h
end Go.Proofs.YtnopaopphmjnmaaGreatDoor
