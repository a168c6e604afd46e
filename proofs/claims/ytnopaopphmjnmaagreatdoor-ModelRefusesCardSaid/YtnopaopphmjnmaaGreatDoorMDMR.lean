import Derived.Test.YtnopaopphmjnmaaGreatDoorMDMQ
import Derived.Test.YtnopaopphmjnmaaGreatDoorMDSeB
set_option linter.all false
set_option maxRecDepth 100000
set_option maxHeartbeats 64000000
namespace Go.Proofs.YtnopaopphmjnmaaGreatDoor
open Go Go.Abs
section
variable {α:Type}
def af(k:Int):List (Int×α)->Option α
 |[]=>none
 |x::r=>if x.1=k then some x.2 else af k r
def Zt(k:Int)(v:α):List (Int×α)->List (Int×α)
 |[]=>[(k,v)]
 |x::r=>if x.1=k then(k,v)::r else x::Zt k v r
def bI(row:α->AV)(l:List (Int×α)):List (List Int×AV):=l.map fun x=>([x.1],row x.2)
@[simp] theorem awM(row:α->AV):bI row []=[]:=rfl
@[simp] def awN(row:α->AV)(l:List (Int×α)):(bI row l).length=l.length:=by simp[bI]
def Xp(row:α->AV)(k:Int):∀(l:List (Int×α))(i:Nat),
  (af k l=none/\Xh [k] (bI row l) i=none/\(∀v,Zt k v l=l++[(k,v)])/\∀v,bI row l++[([k],row v)]=bI row (Zt k v l))\/
  ∃u n,af k l=some u/\Xh [k] (bI row l) i=some (i+n,row u)/\n<l.length/\(bI row l).getD n ([],.junk)=([k],row u)/\(∀v,(Zt k v l).length=l.length)/\∀v,(bI row l).set n ([k],row v)=bI row (Zt k v l)
 |[],i=>.inl ⟨rfl,rfl,fun _=>rfl,fun _=>rfl⟩
 |x::r,i=>by
  by_cases h:x.1=k
  ·refine .inr ⟨x.2,0,by rw[af,if_pos h],by simp[bI,Xh,h],by simp,by simp[bI,h],fun v=>by rw[Zt,if_pos h];rfl,fun v=>by rw[Zt,if_pos h];simp[bI]⟩
  have hk:¬([k]:List Int)=[x.1]:=by intro e;cases e;exact h rfl
  rcases Xp row k r (i+1)with⟨h1,h2,h3,h4⟩|⟨u,n,h1,h2,h3,h4,h5,h6⟩
  ·refine .inl ⟨by rw[af,if_neg h];exact h1,?_,fun v=>by rw[Zt,if_neg h,h3];rfl,fun v=>?_⟩
   ·simp only[bI,zzay,Xh];rw[if_neg hk];exact h2
   rw[Zt,if_neg h];simp only[bI,zzay,zzae];exact congrArg _ (h4 v)
  refine .inr ⟨u,n+1,by rw[af,if_neg h];exact h1,?_,by simp;omega,by simpa[bI]using h4,fun v=>by rw[Zt,if_neg h];simp[h5 v],fun v=>?_⟩
  ·simp only[bI,zzay,Xh];rw[if_neg hk,zzfa n 1,<- zzao];exact h2
  rw[Zt,if_neg h];simp only[bI,zzay,zzdu];exact congrArg _ (h6 v)
def Vq(k q:Int)(v:α):∀l:List (Int×α),af q (Zt k v l)=if q=k then some v else af q l
 |[]=>by
  by_cases h:q=k
  ·subst h;simp[Zt,af]
  have:¬k=q:=fun e=>h e.symm;simp[Zt,af,h,this]
 |x::r=>by
  have ih:=Vq k q v r;by_cases h:x.1=k
  ·rw[Zt,if_pos h];by_cases hq:q=k
   ·subst hq;simp[af]
   have:¬k=q:=fun e=>hq e.symm;have hx:¬x.1=q:=by omega
   simp[af,hq,this,hx]
  rw[Zt,if_neg h,af,ih,af];by_cases hx:x.1=q
  ·have:¬q=k:=by omega
   simp[hx,this]
  rw[if_neg hx];by_cases hq:q=k<;>simp[hq,hx]
def Gp(k:Int)(v:α):∀l:List (Int×α),(Zt k v l).length<=l.length+1
 |[]=>by simp[Zt]
 |x::r=>by
  rw[Zt];split
  ·simp
  have:=Gp k v r;simp only[zzbd];omega
def azp(l:List (Int×α)):Prop:=(l.map (·.1)).Nodup
end
def Gq:List En->Nat->List (Int×Int)->List (Int×Int)
 |[],_,a=>a
 |e::r,i,a=>Gq r (i+1) (match af e.id a with|some _=>a|none=>Zt e.id (i:Int) a)
def Lp:List It->List (Int×It)->List (Int×It)
 |[],a=>a
 |x::r,a=>Lp r (match af x.id a with|some _=>a|none=>Zt x.id x a)
def zG:List It->List (Int×It)->List (Int×Int)->List (Int×Int)
 |[],_,s=>s
 |x::r,a,s=>(match af x.id a with
  |some _=>zG r a s
  |none=>zG r (Zt x.id x a) (if 1<=x.sp/\x.sp<=200 then Zt x.sp x.id s else s))
def Da(p:Pl):List (Int×Int):=Gq p.ens 0 []
def zH(p:Pl):List (Int×It):=Lp p.aL []
def Yy(p:Pl):List (Int×Int):=zG p.aL [] []
def zI(id:Int):List En->Nat->Option Nat
 |[],_=>none
 |e::r,i=>if e.id=id then some i else zI id r (i+1)
def Ox(id:Int):∀(l:List En)(i:Nat)(a:List (Int×Int)),af id (Gq l i a)=match af id a with|some v=>some v|none=>(zI id l i).map fun n=>(n:Int)
 |[],i,a=>by simp only[Gq,zI];cases af id a<;>rfl
 |e::r,i,a=>by
  rw[Gq,Ox id r,zI];cases h:af e.id a with
  |some v=>
   simp only;cases h':af id a with
   |some u=>rfl
   |none=>
    have:¬e.id=id:=by rintro rfl;rw[h]at h';cases h'
    simp[this]
  |none=>
   simp only;rw[Vq];by_cases e1:id=e.id
   ·subst e1;simp[h]
   have e2:¬e.id=id:=fun h=>e1 h.symm;simp[e1,e2]
def uz(p:Pl)(id:Int):af id (Da p)=(zI id p.ens 0).map fun n=>(n:Int):=by rw[Da,Ox];rfl
def Oy(id:Int):∀(l:List It)(a:List (Int×It)),af id (Lp l a)=match af id a with|some v=>some v|none=>Xg id l
 |[],a=>by simp only[Lp,Xg];cases af id a<;>rfl
 |e::r,a=>by
  rw[Lp,Oy id r,Xg];cases h:af e.id a with
  |some v=>
   simp only;cases h':af id a with
   |some u=>rfl
   |none=>
    have:¬e.id=id:=by rintro rfl;rw[h]at h';cases h'
    simp[this]
  |none=>
   simp only;rw[Vq];by_cases e1:id=e.id
   ·subst e1;simp[h]
   have e2:¬e.id=id:=fun h=>e1 h.symm;simp[e1,e2]
def uA(p:Pl)(id:Int):af id (zH p)=Xg id p.aL:=by rw[zH,Oy];rfl
structure Ad where
 it:Int
 re:Int
 fr:Int
 fs:Int
def Vh(a:Ad):List AV:=[I a.it,I a.re,I a.fr,I a.fs]
def rz(a:Ad):Bool:=decide (a.re=0/\0<=a.fr/\a.fr<=100000000/\1<=a.fs/\a.fs<=100000000)
def Vr(u:List (Int×Int))(it:Int):List (Int×Int):=Zt it ((af it u).getD 0+1) u
def Zl(p:Pl)(en:List (Int×Int))(it e:Int):List (Int×Int):=match Xg it p.aL with
 |some x=>Zt x.sp (max ((af x.sp en).getD 0) e) en
 |none=>en
def Oz:List Ad->List (Int×Int)->List (Int×Int)
 |[],u=>u
 |a::r,u=>Oz r (if rz a then Vr u a.it else u)
def OA(p:Pl):List Ad->List (Int×Int)->List (Int×Int)
 |[],u=>u
 |a::r,u=>OA p r (if rz a then Zl p u a.it (a.fr+a.fs)else u)
def OB(ki it rg:Int):List Cl->Int->Int
 |[],n=>n
 |c::r,n=>OB ki it rg r (if c.ki=ki/\gP c it rg=true/\Xi c=true then c.n else n)
def Wn(p:Pl)(it:Int):Int:=match Xg it p.aL with
 |some x=>if x.ki=5 then -1 else OB 3 it 0 p.cls (-1)
 |none=>OB 3 it 0 p.cls (-1)
def pK(a b:Int):List Cl->Int->Int
 |[],g=>g
 |c::r,g=>pK a b r (if c.ki=5/\(c.a=a/\c.b=b\/c.a=b/\c.b=a)/\Xi c=true then max g c.n else g)
def Jw(p:Pl)(a b:Int):Int:=match Xg a p.aL,Xg b p.aL with
 |some x,some y=>if x.sp=0\/Vb p.nu p.de=false\/y.sp=0\/x.sp=y.sp then 0 else wW p.nu p.de (pK x.sp y.sp p.cls 0)
 |_,_=>0
def Gr(at_ n:Int):List Sp->Option Int
 |[]=>none
 |s::r=>if max s.1 at_<s.2/\n<=s.2-max s.1 at_ then some (max s.1 at_)else Gr at_ n r
def lR(l:List Sp)(at_ n:Int):Option Int:=if n<=0 then some at_ else Gr at_ n (Xk l)
def Xw(p:Pl)(it n:Int):List Sp:=Xk (Vm p it 0 (n*1000000,(n+1)*1000000)++Vm p it 0 ((n+1)*1000000,(n+2)*1000000))
def Tq(p:Pl)(e:En)(last from_ n:Int):Option Int:=
 if n*1000000<=last then
  match lR (Xw p e.it n) from_ e.fr with
  |none=>Tq p e last from_ (n+1)
  |some s=>if last<s then none else some s
 else none
termination_by(last-n*1000000+1000000).toNat
decreasing_by omega
def mH(p:Pl)(e:En):Int:=min (min e.la (p.ln-e.fr)) 100000000
def Vz(p:Pl)(e:En)(from_:Int):Option Int:=
 if e.fr<1\/1000000<e.fr\/p.ln<e.fr then none else Tq p e (mH p e) (max from_ 0) ((max from_ 0).tdiv 1000000)
def Kq(p:Pl)(it:Int):List Sp:=match Xg it p.aL with
 |none=>[]
 |some y=>match af y.sp (Yy p)with
  |none=>[]
  |some _=>(Yy p).filterMap fun x=>if 0<Jw p x.2 it then some (x.1,Jw p x.2 it)else none
def Uh(en:List (Int×Int)):List Sp->Int->Int
 |[],f=>f
 |r::l,f=>Uh en l (match af r.1 en with|some e=>max f (e+r.2)|none=>f)
def Uy(p:Pl):List Int->List (Int×Int)->List (Int×Int)->Int->Int->Option (List Sp)
 |[],_,_,_,_=>some []
 |id::r,us,en,free,last=>match zI id p.ens 0 with
  |none=>none
  |some k=>if(k:Int)<=last then none else match p.ens[k]? with
   |none=>none
   |some e=>if Wn p e.it≠ -1/\Wn p e.it<=(af e.it us).getD 0 then none else
    match Vz p e (Uh en (Kq p e.it) (max e.ea free))with
    |none=>none
    |some s=>match Uy p r (Vr us e.it) (Zl p en e.it (s+e.fr)) (s+e.fr) k with
     |none=>none
     |some l=>some ((id,s)::l)
def Yn(p:Pl)(at_:Int)(past:List Ad)(ids:List Int):Option (List Sp):=Uy p ids (Oz past []) (OA p past []) at_ (-1)
def Db{at_ n:Int}:∀{l:List Sp}{s:Int},Gr at_ n l=some s->∃a∈l,max a.1 at_=s/\s<a.2/\n<=a.2-s
 |a::r,s,h=>by
  rw[Gr]at h;split at h
  ·rename_i hc;cases h;exact⟨a,by simp,rfl,hc.1,hc.2⟩
  obtain⟨b,hb,h1⟩:=Db h;exact⟨b,by simp[hb],h1⟩
def Qbt(p:Pl)(it n x:Int):Xq (Xw p it n) x<->n*1000000<=x/\x<(n+2)*1000000/\gT p it 0 x:=by
 rw[Xw,(Zw _).2,Yp,kY _ _ _ _ (by simp only;omega),kY _ _ _ _ (by simp only;omega)];simp only;constructor
 ·rintro(⟨h1,h2,h3⟩|⟨h1,h2,h3⟩)<;>exact⟨by omega,by omega,h3⟩
 rintro⟨h1,h2,h3⟩;by_cases h:x<(n+1)*1000000
 ·exact .inl ⟨h1,h,h3⟩
 exact .inr ⟨by omega,h2,h3⟩
def afL{p:Pl}{it n at_ m s:Int}(hm:1<=m)(h:lR (Xw p it n) at_ m=some s):at_<=s/\∀x,s<=x->x<s+m->gT p it 0 x:=by
 rw[lR,if_neg (by omega)]at h;obtain⟨a,ha,h1,h2,h3⟩:=Db h;refine⟨by omega,fun x hx hx2=>?_⟩;have:Xq (Xk (Xw p it n)) x:=⟨a,ha,by omega,by omega⟩;rw[(Zw _).2,Qbt]at this;exact this.2.2
def ZI{p:Pl}{e:En}{last from_ n s:Int}(he:1<=e.fr)(h:Tq p e last from_ n=some s):from_<=s/\s<=last/\∀x,s<=x->x<s+e.fr->gT p e.it 0 x:=by
 unfold Tq at h;split at h
 ·rename_i hc;cases hs:lR (Xw p e.it n) from_ e.fr with
  |none=>rw[hs]at h;exact ZI he h
  |some t=>
   rw[hs]at h;simp only at h;split at h
   ·cases h
   rename_i hl;cases h;obtain⟨h1,h2⟩:=afL he hs;exact⟨h1,by omega,h2⟩
 cases h
termination_by(last-n*1000000+1000000).toNat
decreasing_by omega
def Qax{p:Pl}{e:En}{from_ s:Int}(h:Vz p e from_=some s):(1<=e.fr/\e.fr<=1000000)/\from_<=s/\0<=s/\s<=e.la/\s+e.fr<=p.ln/\s<=100000000/\∀x,s<=x->x<s+e.fr->gT p e.it 0 x:=by
 rw[Vz]at h;split at h
 ·cases h
 rename_i hc;obtain⟨h1,h2,h3⟩:=ZI (by omega) h;simp only[mH]at h2;exact⟨by omega,by omega,by omega,by omega,by omega,by omega,h3⟩
def Gs(en:List (Int×Int)):∀(l:List Sp)(f:Int),f<=Uh en l f
 |[],f=>zzbx _
 |r::l,f=>by
  rw[Uh];refine zzho ?_ (Gs en l _);split<;>omega
def xA(en:List (Int×Int)){l l':List Sp}(h:l.Perm l'):∀f,Uh en l f=Uh en l' f:=by
 induction h with
 |nil=>exact fun _=>rfl
 |cons x _ ih=>intro f;simp only[Uh,ih]
 |swap x y l=>
  intro f;simp only[Uh];congr 1;cases af x.1 en<;>cases af y.1 en<;>simp only<;>omega
 |trans _ _ ih1 ih2=>exact fun f=>(ih1 f).trans (ih2 f)
def rA{id:Int}:∀{l:List En}{i k:Nat},zI id l i=some k->i<=k/\∃e,l[k-i]?=some e/\e.id=id/\Zf id l=some e
 |[],i,k,h=>by cases h
 |e::r,i,k,h=>by
  rw[zI]at h;split at h
  ·rename_i hc;cases h;exact⟨zzab _,e,by simp,hc,by simp[Zf,hc]⟩
  rename_i hc;obtain⟨h1,x,h2,h3,h4⟩:=rA h;refine⟨by omega,x,?_,h3,by simp[Zf,hc,h4]⟩;obtain⟨d,hd⟩:∃d,k-i=d+1:=⟨k-i-1,by omega⟩;rw[hd,zzdf,<- h2];congr 1;omega
def RD(ki it rg:Int)(c:Cl):Bool:=decide (c.ki=ki)&&(gP c it rg&&Xi c)
def A9(ki it rg:Int)(c:Cl):∀(l:List Cl)(n:Int),OB ki it rg (l++[c]) n=if RD ki it rg c=true then c.n else OB ki it rg l n
 |[],n=>by simp[OB,RD]
 |d::l,n=>by rw[zzae,OB,A9 ki it rg c l,OB]
def Ba(cs:List Cl)(ki it rg:Int):Nat->FuncId->List AV->AV:=fun _ f l=>
 if f=257 then .fn 310 [] [.ep [.sl .ro (cs.map Qg)] 0]else if f=255 then(match l with
  |[.agg [.int _ a,.int _ b,.int _ c,.int _ d,.int _ e,.int _ f,.int _ g,.int _ h],_,_]=>.bool (gP ⟨a,b,c,d,e,f,g,h⟩ it rg)
  |_=>.junk)else(match l with
  |[.agg [.int _ a,.int _ b,.int _ c,.int _ d,.int _ e,.int _ f,.int _ g,.int _ h]]=>.bool (Xi ⟨a,b,c,d,e,f,g,h⟩)
  |_=>.junk)
def afM(cs:List Cl)(ki it rg no:Int)(hl:cs.length<=1000000000):Pure Tryz.prog aq 347 [.sl .ro (cs.map Qg),I ki,I it,I rg,I no] (I (OB ki it rg cs no)):=by
 have anl:=mB cs;have cH:=mC cs hl;obtain⟨T,hT⟩:∃T,OB ki it rg cs no=T:=⟨_,rfl⟩;rw[hT];refine Qn aeN (Ba cs ki it rg) (by simp) ?_;simp[ajS,Ba];refine⟨anl,?_⟩;refine jh (xs:=Q7 cs cs.length) (by simp) cH FI (fun i m=>i<=cs.length/\OB ki it rg (cs.take (cs.length-i)) no=T/\∃bx,m.boxes=[I ki]::[I it]::[I rg]::[I 0]::bx) (fun ex m=>ex=.ret/\∃bx,m.boxes=[I ki]::[I it]::[I rg]::[I T]::bx) ?_ ?_ ?_ ?_ ?_ ?_
 ·exact⟨by omega,by simpa using hT,[],by simp⟩
 ·rintro i m m' ⟨h1,h2,bx,h3⟩ ⟨⟨b2,e1⟩,_,_⟩;exact⟨h1,h2,bx++b2,by rw[e1,h3];rfl⟩
 ·rintro ex m m' ⟨h1,bx,h3⟩ ⟨⟨b2,e1⟩,_,_⟩;exact⟨h1,bx++b2,by rw[e1,h3];rfl⟩
 ·rintro l i m x hg hr ⟨h1,h2,bx,hb⟩ hx K' k1 k2 _;obtain⟨k,c,hc,hk,rfl⟩:=wG cs cs.length i x (zzab _) hx;rw[Uc]at hb
  have bA:cs.take (cs.length-i)=cs.take (cs.length-(i+1))++[c]:=by
   rw[show cs.length-i=k+1 by omega,show cs.length-(i+1)=k by omega,zzar,hc];rfl
  rw[bA,A9]at h2;have c1:=mE c it rg;have c2:=Ko c;by_cases e1:c.ki=ki
  ·subst e1;cases e2:gP c it rg with
   |false=>
    rw[e2]at c1;rw[if_neg (by simp[RD,e2])]at h2;simp[hr,Zi,hb,Qg,Ba,e2];refine⟨by simpa[Qg]using c1,k1 _ ⟨by omega,h2,bx++[Qg c],?_⟩⟩;simp[Qg]
   |true=>
    rw[e2]at c1;cases e3:Xi c with
    |false=>
     rw[e3]at c2;rw[if_neg (by simp[RD,e3])]at h2;simp[hr,Zi,hb,Qg,Ba,e2,e3];refine⟨by simpa[Qg]using c1,by simpa[Qg]using c2,k1 _ ⟨by omega,h2,bx++[Qg c],?_⟩⟩;simp[Qg]
    |true=>
     rw[e3]at c2;rw[if_pos (by simp[RD,e2,e3])]at h2;simp[hr,Zi,hb,Qg,Ba,e2,e3];refine⟨by simpa[Qg]using c1,by simpa[Qg]using c2,k2 _ ⟨rfl,bx++[Qg c],?_⟩⟩;simp[Qg,h2]
  rw[if_neg (by simp[RD,e1])]at h2;simp[hr,Zi,hb,Qg,Ba,e1];refine k1 _ ⟨by omega,h2,bx++[Qg c],?_⟩;simp[Qg]
 ·rintro m ⟨h1,h2,bx,hb⟩;rw[FH,zzdl,zzhg]at h2;have h2:no=T:=h2;simp[hb,VY,h2]
 rintro ex m ⟨rfl,bx,hb⟩;simp[hb,VY]
def afN(p:Pl)(it:Int)(hc:p.cls.length<=1000000000)(cH:p.aL.length<=1000000000):Pure Tryz.prog aq 273 [.agg (Qc p),I it,I 0] (I (Wn p it)):=by
 have CW:=kV p it cH;have axV:=afM p.cls 3 it 0 (-1) hc
 have atu:Pure Tryz.prog aq 318 [.sl .ro (p.cls.map Qg),I it,I 0] (I (OB 3 it 0 p.cls (-1))):=by
  refine Qn aeG (fun _ _ _=>I (OB 3 it 0 p.cls (-1))) (by simp) ?_;simp[ajH,ajI];exact axV
 refine Qn aeo (fun _ f _=>if f=113 then Zo (Xg it p.aL)else I (OB 3 it 0 p.cls (-1))) (by simp) ?_;cases hf:Xg it p.aL with
 |none=>
  rw[hf]at CW;simp[NL,NM,Qc,hf,Zo,Wn];exact⟨by simpa[Qc,Zo]using CW,atu⟩
 |some x=>
  rw[hf]at CW;by_cases h5:x.ki=5
  ·simp[NL,NM,Qc,hf,Zo,Qm,Wn,h5];simpa[Qc,Zo,Qm,h5]using CW
  simp[NL,NM,Qc,hf,Zo,Qm,Wn,h5];exact⟨by simpa[Qc,Zo,Qm]using CW,atu⟩
def Lq(a b:Int)(c:Cl):Bool:=(decide (c.a=a)&&decide (c.b=b))||(decide (c.a=b)&&decide (c.b=a))
def ZJ(a b:Int)(c:Cl):Bool:=decide (c.ki=5)&&(Lq a b c&&Xi c)
def Bb(a b:Int)(c:Cl)(r:List Cl)(g:Int):pK a b (c::r) g=pK a b r (if ZJ a b c=true then max g c.n else g):=by
 rw[pK];congr 1;by_cases h:c.ki=5/\(c.a=a/\c.b=b\/c.a=b/\c.b=a)/\Xi c=true
 ·rw[if_pos h,if_pos (by simp[ZJ,Lq,h.1,h.2.2];exact h.2.1)]
 rw[if_neg h,if_neg (by intro h';apply h;simp[ZJ,Lq]at h';exact⟨h'.1,h'.2.1,h'.2.2⟩)]
def Gt{c:Cl}(h:Xi c=true)(h5:c.ki=5):0<=c.n/\c.n<=86400:=by
 unfold Xi at h;simp only[zzak]at h;have h2:=h.2;unfold Ug at h2;simp[h5,wi]at h2;omega
def OC(a b:Int):∀(l:List Cl)(g:Int),0<=g/\g<=86400->0<=pK a b l g/\pK a b l g<=86400
 |[],g,h=>h
 |c::r,g,h=>by
  rw[Bb];apply OC a b r;split
  ·rename_i hh;simp[ZJ]at hh;have:=Gt hh.2.2 hh.1;omega
  exact h
def axW(a b T:Int)(cs:List Cl)(f:Nat->AV)(m:AM):Prop:=∃(i:Nat)(g:Int)(bx:List (List AV)),f 13=I i/\f 7=I g/\i<=cs.length/\pK a b (cs.drop i) g=T/\m=⟨bx,[],fun _=>.gone,0⟩
def anM(cs:List Cl)(a b:Int)(hl:cs.length<=1000000000):Pure Tryz.prog aq 319 [.sl .ro (cs.map Qg),I a,I b] (I (pK a b cs 0)):=by
 obtain⟨T,hT⟩:∃T,pK a b cs 0=T:=⟨_,rfl⟩;rw[hT];refine Qn aeH A6 (by simp) ?_;simp[VW];refine Qi vu (axW a b T cs) (fun f _=>cs.length-(numOf (f 13)).toNat) ?_ ?_
 ·exact⟨0,0,_,by simp,by simp,by omega,by simpa using hT,rfl⟩
 rintro f m ⟨i,g,bx,eW,h7,hi,hx,rfl⟩;rcases zzaa i cs.length with ai|bw
 ·obtain⟨c,hc⟩:=aP ai;have aa:Qh (cs.map Qg) i=Qg c:=Qr (by simp[hc]);have ah:(i:Int)<(cs.length:Int):=by omega
  have hw:=bH i (by omega);have k:=Ko c;rw[Xy hc,Bb]at hx;have axX:∀E,fT vu E E:=fun E=>Qa _ _;obtain⟨v0,h0⟩:∃v,(c.ki==5)=v:=⟨_,rfl⟩;obtain⟨v1,h1⟩:∃v,(c.a==a)=v:=⟨_,rfl⟩;obtain⟨v2,h2⟩:∃v,(c.b==b)=v:=⟨_,rfl⟩;obtain⟨v3,h3⟩:∃v,(c.a==b)=v:=⟨_,rfl⟩;obtain⟨v4,h4⟩:∃v,(c.b==a)=v:=⟨_,rfl⟩
  have hh:ZJ a b c=(v0&&(((v1&&v2)||(v3&&v4))&&Xi c)):=by
   rw[<- h0,<- h1,<- h2,<- h3,<- h4];rfl
  obtain⟨v5,h5⟩:∃v,Xi c=v:=⟨_,rfl⟩;have hk5:v5=true->v0=true->0<=c.n/\c.n<=86400:=fun e e'=>Gt (h5.trans e) (by rw[e']at h0;simpa using h0);rw[hh,h5]at hx;rw[h5]at k;have k':Abs.Pure Tryz.prog aq 83 [.agg [I c.ki,I c.it,I c.fr,I c.to,I c.re,I c.n,I c.a,I c.b]] (.bool v5):=k;clear hh k;cases v0
  ·cases v1<;>cases v2<;>cases v3<;>cases v4<;>simp only[Bool.false_and,zzbq,if_false]at hx
   all_goals
    simp[eW,h7,ah,aa,Qg,A6,h0,h1,h2,h3,h4,vu,hw];refine⟨aN,⟨i+1,g,_,by simp,by simp,by omega,hx,rfl⟩,by omega⟩
  cases v1<;>cases v2<;>cases v3<;>cases v4<;>cases v5<;>simp only[zzgc,Bool.and_false,Bool.or_true,Bool.or_false,zzbq,if_false,if_true,Bool.or_self,Bool.and_self]at hx
  all_goals
   simp[eW,h7,ah,aa,Qg,A6,h0,h1,h2,h3,h4,h5,vu,hw];first
   |(
    refine⟨ag ?_,⟨i+1,g,_,by simp,by simp,by omega,hx,rfl⟩,by omega⟩;repeat(first|exact Qa _ _|refine Qb _ rfl ?_))
   |(
    refine⟨k',ag ?_,⟨i+1,g,_,by simp,by simp,by omega,hx,rfl⟩,by omega⟩;repeat(first|exact Qa _ _|refine Qb _ rfl ?_))
   |(
    refine⟨k',ag ?_,⟨i+1,max g c.n,_,by simp,by simp;omega,by omega,hx,rfl⟩,by omega⟩;repeat(first|exact Qa _ _|refine Qb _ rfl ?_))
 have bJ:¬(i:Int)<(cs.length:Int):=by omega
 rw[zzan bw]at hx;have hx:g=T:=hx;subst hx;simp[eW,h7,bJ,vu,ajJ]
def sM(p:Pl)(a b:Int):Nat->FuncId->List AV->AV:=fun d f l=>
 if f=113 then(match l with|[_,.int _ n]=>Zo (Xg n p.aL)|_=>.junk)else if f=183 then .bool (Vb p.nu p.de)else if f=319 then(match l with|[_,.int _ x,.int _ y]=>I (pK x y p.cls 0)|_=>.junk)else
 if f=119 then(match l with|[_,.int _ x]=>I (wW p.nu p.de x)|_=>.junk)else .junk
def anN(p:Pl)(a b:Int)(hc:p.cls.length<=1000000000)(cH:p.aL.length<=1000000000):Pure Tryz.prog aq 274 [.agg (Qc p),I a,I b] (I (Jw p a b)):=by
 have ka:=kV p a cH;have kb:=kV p b cH;have kr:=Wm p.nu p.de;refine Qn aep (sM p a b) (by simp) ?_;cases Dc:Xg a p.aL with
 |none=>
  rw[Dc]at ka;have hg:Jw p a b=0:=by simp[Jw,Dc]
  rw[hg];simp[rY,rZ,Qc,sM,Dc,Zo];simpa[Qc,Zo]using ka
 |some x=>
  rw[Dc]at ka;by_cases c1:x.sp=0
  ·have hg:Jw p a b=0:=by cases IA:Xg b p.aL<;>simp[Jw,Dc,IA,c1]
   rw[hg];simp[rY,rZ,Qc,sM,Dc,Zo,Qm,c1];simpa[Qc,Zo,Qm,c1]using ka
  cases c2:Vb p.nu p.de with
  |false=>
   rw[c2]at kr;have hg:Jw p a b=0:=by cases IA:Xg b p.aL<;>simp[Jw,Dc,IA,c2]
   rw[hg];simp[rY,rZ,Qc,sM,Dc,Zo,Qm,c1,c2];exact⟨by simpa[Qc,Zo,Qm]using ka,kr⟩
  |true=>
   rw[c2]at kr;cases IA:Xg b p.aL with
   |none=>
    rw[IA]at kb;have hg:Jw p a b=0:=by simp[Jw,Dc,IA]
    rw[hg];simp[rY,rZ,Qc,sM,Dc,IA,Zo,Qm,c1,c2];exact⟨by simpa[Qc,Zo,Qm]using ka,kr,by simpa[Qc,Zo,Qm]using kb⟩
   |some y=>
    rw[IA]at kb;by_cases c3:y.sp=0
    ·have hg:Jw p a b=0:=by simp[Jw,Dc,IA,c3]
     rw[hg];simp[rY,rZ,Qc,sM,Dc,IA,Zo,Qm,c1,c2,c3];exact⟨by simpa[Qc,Zo,Qm]using ka,kr,by simpa[Qc,Zo,Qm,c3]using kb⟩
    by_cases c4:x.sp=y.sp
    ·have hg:Jw p a b=0:=by simp[Jw,Dc,IA,c4]
     rw[hg];simp[rY,rZ,Qc,sM,Dc,IA,Zo,Qm,c1,c2,<- c4];rw[<- c4]at c3;exact⟨by simpa[Qc,Zo,Qm]using ka,kr,by simpa[Qc,Zo,Qm,c4]using kb⟩
    have hg:Jw p a b=wW p.nu p.de (pK x.sp y.sp p.cls 0):=by simp[Jw,Dc,IA,c1,c2,c3,c4]
    rw[hg];have kg:=anM p.cls x.sp y.sp hc;have kf:=AY p.nu p.de (pK x.sp y.sp p.cls 0);simp[rY,rZ,Qc,sM,Dc,IA,Zo,Qm,c1,c2,c3,c4];exact⟨by simpa[Qc,Zo,Qm]using ka,kr,by simpa[Qc,Zo,Qm]using kb,kg,kf⟩
structure Bd where
 p:Pl
 at_:Int
 us:List (Int×Int)
 en:List (Int×Int)
 rv:List (Int×(Rt×List Sp))
 li:List (Int×Int)
 pm:List ((Int×Int)×List Sp)
abbrev iA(n:Int):AV:=I n
def rB(x:It):AV:=.agg (Qm x)
def rvA(x:Rt×List Sp):AV:=.sl x.1 (x.2.map Qe)
def Tr(l:List ((Int×Int)×List Sp)):List (List Int×AV):=l.map fun x=>([x.1.1,x.1.2],.sl .ro (x.2.map Qe))
def Qq(k:Nat)(b:Bd):List AV:=Qc b.p++[I b.at_,.mp (k+1),.mp (k+2),.mp (k+3),.mp (k+4),.mp (k+5),.mp (k+6),.mp (k+7),.mp (k+8)]
def bq(k:Nat)(b:Bd)(post:List (List AV)):List (List AV):=
 Qc b.p::[.aK 0 (bI iA (Da b.p))]::[.aK 0 (bI rB (zH b.p))]::[.aK 0 (bI iA (Yy b.p))]::[.aK 0 (bI iA b.us)]::[.aK 0 (bI iA b.en)]::
  [.aK 0 (bI rvA b.rv)]::[.aK 0 (bI iA b.li)]::[.aK 2 (Tr b.pm)]::Qq k b::post
def aR(pre:List (List AV))(b:Bd)(post:List (List AV))(ls:List Nat):AM:=⟨pre++bq pre.length b post,ls,fun _=>.gone,0⟩
def anO(b:Bd):Prop:=∀k v,af k b.li=some v->v=Wn b.p k
def afO(pre post:List (List AV))(ls:List Nat)(b:Bd)(it:Int)(hc:b.p.cls.length<=1000000000)(cH:b.p.aL.length<=1000000000)(hli:anO b)(Y:YT)(K:AV->AM->Prop)
  (hK:∀li,anO {b with li:=li}->K (I (Wn b.p it)) (aR pre {b with li:=li} post ls)):
  an Tryz.prog aq Y 199 [.ptr (pre.length+9) 0,I it] (aR pre b post ls) K:=by
 have axY:=afN b.p it hc cH;refine Xe adz (fun _ _ _=>I (Wn b.p it)) (by simp) ?_;rcases Xp iA it b.li 0 with⟨h1,h2,h3,h4⟩|⟨u,n,h1,h2,_,_,_,h4⟩
 ·simp[U0,U1,aR,bq,Qq,Qc,h2];refine⟨by simpa[Qc]using axY,?_⟩
  have:=hK (Zt it (Wn b.p it) b.li) (fun k v h=>by
   rw[Vq]at h;split at h
   ·rename_i e;cases h;rw[e]
   exact hli k v h)
  have IB:bI iA b.li++[([it],I (Wn b.p it))]=bI iA (Zt it (Wn b.p it) b.li):=h4 _;rw[IB];exact this
 simp[U0,U1,aR,bq,Qq,Qc,h2];have hu:=hli it u h1;subst hu;exact hK b.li hli
def afP(b:Bd):Prop:=∀k x,af k b.rv=some x->∀it y,Xg it b.p.aL=some y->y.sp=k->x.2.Perm (Kq b.p it)
def xB(p:Pl)(it:Int)(L:List (Int×Int)):List Sp:=L.filterMap fun x=>if 0<Jw p x.2 it then some (x.1,Jw p x.2 it)else none
def atL{α:Type}(d:α)(L:List α)(seen:List Nat):List α:=seen.map fun i=>L.getD i d
def afQ{α:Type}(d:α)(L:List α)(seen:List Nat)(hn:seen.Nodup)(bS:∀i,i<L.length->i∈seen)(hb:∀i∈seen,i<L.length):(atL d L seen).Perm L:=by
 have hp:seen.Perm (List.range L.length):=by
  rw[zzgd hn zzdq];intro i;simp only[zzbf];exact⟨hb i,bS i⟩
 have h1:=hp.map fun i=>L.getD i d
 have h2:(List.range L.length).map (fun i=>L.getD i d)=L:=by
  apply zzed (by simp);intro i h1 h2;simp[h2]
 rw[h2]at h1;exact h1
def afR{p:Pl}{a i j:Int}{x y:It}(hi:Xg i p.aL=some x)(hj:Xg j p.aL=some y)(h:x.sp=y.sp):Jw p a i=Jw p a j:=by
 simp only[Jw,hi,hj];cases Xg a p.aL with
 |none=>rfl
 |some z=>simp only[h]
def afS{p:Pl}{i j:Int}{x y:It}(hi:Xg i p.aL=some x)(hj:Xg j p.aL=some y)(h:x.sp=y.sp):Kq p i=Kq p j:=by
 simp only[Kq,hi,hj,h];cases af y.sp (Yy p)with
 |none=>rfl
 |some _=>simp only[afR hi hj h]
def xC:∀(l:List It)(a:List (Int×It))(s:List (Int×Int)),af 0 s=none->af 0 (zG l a s)=none
 |[],a,s,h=>h
 |x::r,a,s,h=>by
  rw[zG];cases af x.id a with
  |some _=>exact xC r a s h
  |none=>
   refine xC r _ _ ?_;split
   ·rw[Vq,if_neg (by omega)];exact h
   exact h
end Go.Proofs.YtnopaopphmjnmaaGreatDoor
