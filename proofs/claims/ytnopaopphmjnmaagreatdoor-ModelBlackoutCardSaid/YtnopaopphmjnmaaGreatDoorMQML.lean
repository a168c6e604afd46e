import Derived.Test.YtnopaopphmjnmaaGreatDoorMQMK
import Derived.Test.YtnopaopphmjnmaaGreatDoorMQMJ
set_option linter.all false
set_option maxRecDepth 100000
set_option maxHeartbeats 64000000
namespace Go.Proofs.YtnopaopphmjnmaaGreatDoor
noncomputable section
open Go Go.Abs
def pR(nu de f:Int): -1<=Yp nu de f/\Yp nu de f<=100000000:=by
 unfold Yp;split
 ·rename_i h;obtain⟨h1,h2,h3⟩:=h;obtain⟨b1,b2,b3,b4,b5⟩:=Ka h1;have q0:0<=f*de:=zzef h2 zE;have q1:f*de<=f*nu:=zzgb zE h2;have q2:0<=(f*de).tdiv nu:=Int.tdiv_nonneg q0 zE
  have q3:(f*de).tdiv nu<=f:=by
   rw[zzco q0];exact Int.ediv_le_of_le_mul zE q1
  omega
 omega
def sS(p:Pl)(f:Int)(ht:0<=p.ep/\p.ep<=9000000000):Pure Tryz.prog aA 115 [.agg (Qa p),I f] (I (p.ep+Yp p.nu p.de f)):=by
 have h:=RZ p.nu p.de f;have hb:=pR p.nu p.de f;have hw:IntKind.i64.wrap (p.ep+Yp p.nu p.de f)=p.ep+Yp p.nu p.de f:=by rw[Qj]<;>omega
 refine Qo ac2 (fun _ f' l=>if f'=185 then I (Yp p.nu p.de f)else .junk) zd ?_;simp[ahZ,Qa,ah0,hw];exact h
def xL(p:Pl)(n:Int)(hn: -1000000000000<=n-p.ep/\n-p.ep<=1000000000000)(Y:YT)(m:AM)(b:Nat)(hb:b<m.boxes.length)(hr:Qh m.boxes b=Qa p)(K:AV->AM->Prop)(hK:K (I (xM p.nu p.de (n-p.ep))) m):
  an Tryz.prog aA Y 118 [I n,.ptr b 0] m K:=by
 have h:=Br p.nu p.de (n-p.ep);have hw:IntKind.i64.wrap (n-p.ep)=n-p.ep:=by rw[Qj]<;>omega
 refine Xd ac5 (fun _ f' l=>if f'=119 then I (xM p.nu p.de (n-p.ep))else .junk) zd ?_;simp[ah4,hr,Qa,ah5,hw,hb];exact⟨h,hK⟩
def lZ(p:Pl)(x:It)(region:Int)(s:Sp):List (List Sp):=Qcu p.cls x.id region::(uV p.cls x.ra).map fun w=>iI p.of p.sh s w.1 w.2
def Gz(l:List Sp):List AV:=[.sl .ro (l.map Qf)]
def GA(p:Pl)(x:It)(region:Int)(s:Sp):Pure Tryz.prog aA 116 [.agg (Qa p),.agg (Qn x),I region,.agg [I s.1,I s.2]] (.fn 186 [] [.ep (Qa p) 0,.ep (Qn x) 0,.ep [I region] 0,.ep [I s.1,I s.2] 0]):=by
 refine Qo ac3 (fun _ _ _=>.junk) zd ?_;simp[ah1,ah2,Qa,Qn]
def GB(p:Pl)(x:It)(region:Int)(s:Sp)(hc:p.cls.length<=1000000)(gQ:p.sh.length<=1000000000)(h1: -9223372036854775808<=s.1/\s.1<=9223372036854775807)(h2: -9223372036854775808<=s.2/\s.2<=9223372036854775807):
  Iter Tryz.prog aA 186 [] [.ep (Qa p) 0,.ep (Qn x) 0,.ep [I region] 0,.ep [I s.1,I s.2] 0] ((lZ p x region s).map Gz):=by
 intro Y l m K hF;have atk:=LD p.cls x.id region hc;have atl:=ur p.cls x.ra zE
 have hwl:(uV p.cls x.ra).length<=1000000:=by
  unfold uV;rw[zzbj];exact zzbg (zzbs _ _) hc
 refine Xd adJ (fun d f' l=>if f'=187 then .sl .ro ((Qcu p.cls x.id region).map Qf)else if f'=188 then .sl .ro ((uV p.cls x.ra).map Qf)else
  if f'=189 then(match l with|[_,_,.int _ a,.int _ b]=>.sl .ro ((iI p.of p.sh s a b).map Qf)|_=>.junk)else .junk) zd ?_
 unfold lZ at hF;generalize hS:Qcu p.cls x.id region=S at hF atk;generalize hW:uV p.cls x.ra=W at hF atl hwl;simp only[zzay,Gz]at hF;simp[VX,Qa,Qn,hS,hW];refine⟨atk,?_⟩;refine hF _ (fR.refl _) _ (fun m2 qF=>?_) (fun m2 hK=>?_)
 ·rw[zzcz]at qF;simp[hW];refine⟨atl,?_⟩;refine Qk KN (fun f mm=>∃i:Nat,f 23=I i/\i<=W.length/\xd (Y l) K ((W.drop i).map (Gz ∘ fun w=>iI p.of p.sh s w.1 w.2)) mm) (fun f _=>W.length-(numOf (f 23)).toNat) ?_ ?_
  ·exact⟨0,zd,zE,by simpa using qF⟩
  rintro f mm ⟨i,h23,hi,hF3⟩;rcases zzaa i W.length with ai|bz
  ·obtain⟨w,hw⟩:=aU ai;have sQ:=Zf hw;have aa:(i:Int)<(W.length:Int):=zE
   have pS:=bM i zE;have hd:W.drop i=w::W.drop (i+1):=by rw[zzaf ai,(zza.1 hw).2]
   rw[hd,zzay]at hF3;simp only[Function.comp_apply,Gz]at hF3;have ax5:=zY p.of p.sh s w.1 w.2 gQ h1 h2
   have fL:∀x,Qh (mm.boxes++[x]) mm.boxes.length=x:=fun x=>by
    simp
   simp[h23,KN,ai,aa,sQ,fL];refine⟨ax5,?_⟩;refine hF3 _ (fR.box mm [[I w.1,I w.2]]) _ (fun m3 hF4=>?_) (fun m3 hK=>?_)
   ·simp[pS];refine⟨aP,⟨i+1,zE,zE,by rw[<- zzgl];exact hF4⟩,zE⟩
   simp[N4];exact hK _ (fR.refl _)
  obtain rfl:i=W.length:=zE
  rw[zzbn,zzcc]at hF3;simp[h23,KN,N4];exact hF3 _ (fR.refl _)
 simp[N4];exact hK _ (fR.refl _)
open Go Go.Abs
def anE:SC:=(⟨_,by cbv⟩:uf [1,1,1,1,1,1,1,1,1,1,1,1,0,1] US).1
def Dz:SC->SC:=(⟨_,fun _=>by cbv⟩:Kq [1,1,1,1,1,1,1,1,1,1,1,1,0,1] US).1
theorem pT:US=Dz anE:=rfl
def uW(p:Pl)(w:Sp):Sp:=(xM p.nu p.de (w.1-p.ep),xM p.nu p.de (w.2-p.ep))
def Bs(Y:YT)(p:Pl)(orc:Nat->FuncId->List AV->AV)(ho:∀d l,orc d 74 l=.gd false .junk)(ho9:∀d l,orc d 999999 l=.junk)(E:List (Nat×AV))(m:AM)(U:List Sp)(rt:Rt)(Q:Exit->AS->Prop)
  (h85:Abs.look E 85=.sl rt (U.map Qf))(h86:Abs.look E 86=I U.length)(h87:Abs.look E 87=I 0)(uu:Abs.look E 14=.fn 118 [] [.ptr 0 0])(sU:Abs.look E 15=.sl .nil [])
  (h0:0<m.boxes.length)(hr:Qh m.boxes 0=Qa p)(hU:U.length<=10000000)(hUb:∀w∈U,(-1000000000000<=w.1-p.ep/\w.1-p.ep<=1000000000000)/\(-1000000000000<=w.2-p.ep/\w.2-p.ep<=1000000000000))
  (hQ:∀E' bx Lm fB,eS EV E' E->Abs.look E' 15=.sl fB ((U.map (uW p)).map Qf)->(fB=.nil/\U=[]\/U≠[]/\∃k,fB=.own k 2)->Q .normal ⟨Xv 108 E',⟨m.boxes++bx,Lm,m.st,m.ln⟩⟩):
  vc Tryz.prog aA orc Y anE ⟨Xv 108 E,m⟩ Q:=by
 simp[anE];refine Qk EV (fun f mm=>∃(i:Nat)(bx:List (List AV))(Lm:List Nat)(fB:Rt),f 87=I i/\i<=U.length/\mm=⟨m.boxes++bx,Lm,m.st,m.ln⟩/\f 15=.sl fB ((U.map (Qf ∘ uW p)).take i)/\(i=0/\fB=.nil\/i≠0/\∃k,fB=.own k 2/\Lm[k]?=some i)) (fun f _=>U.length-(numOf (f 87)).toNat) ?_ ?_
 ·exact⟨0,[],m.lens,.nil,by simp[h87],zE,zd,by simp[sU],.inl ⟨rfl,rfl⟩⟩
 rintro f mm ⟨i,bx,Lm,fB,h87',hi,rfl,h15',aT⟩;rcases zzaa i U.length with ai|bz
 ·obtain⟨w,hw⟩:=aU ai;have sQ:=Zf hw;obtain⟨c1,c2⟩:=hUb w (zzac hw);have aa:(i:Int)<(U.length:Int):=zE
  have pS:=bM i zE;have eT:IntKind.i64.wrap 1=1:=by rw[Qj]<;>omega
  have bC:U.take (i+1)=U.take i++[w]:=by rw[zzas,hw];rfl
  have iR:(U.take i).length=i:=by rw[zzaq];omega
  have uQ:∀x,Qh (m.boxes++(bx++[x])) (m.boxes.length+bx.length)=x:=fun x=>by
   simp
  have ud:∀x,Qh (m.boxes++x) 0=Qa p:=fun x=>by rw[Ql h0];exact hr
  have e1:=fun m' h1 h2 K hK=>xL p w.1 c1 Y m' 0 h1 h2 K hK;have e2:=fun m' h1 h2 K hK=>xL p w.2 c2 Y m' 0 h1 h2 K hK;have hG:(U.map (Qf ∘ uW p)).take (i+1)=(U.map (Qf ∘ uW p)).take i++[[I (xM p.nu p.de (w.1-p.ep)),I (xM p.nu p.de (w.2-p.ep))]]:=by rw[zzas,zzbi,hw];rfl
  have hGl:((U.map (Qf ∘ uW p)).take i).length=i:=by rw[zzaq,zzbj];omega
  have hG2:∀row∈(U.map (Qf ∘ uW p)).take i,row.length=2:=by
   intro row h;obtain⟨a,_,rfl⟩:=zzax.1 (zzcb h);rfl
  generalize hGG:(U.map (Qf ∘ uW p)).take i=G at*
  obtain⟨rfl,rfl⟩|⟨aM,k,rfl,hk⟩:=aT
  ·simp[h87',h85,h86,uu,h15',EV,ai,aa,sQ,uQ,ho,ho9];refine Qbj [(I (xM p.nu p.de (w.1-p.ep)),⟨m.boxes++(bx++[[I w.1,I w.2]]),Lm,m.st,m.ln⟩),(I (xM p.nu p.de (w.2-p.ep)),⟨m.boxes++(bx++[[I w.1,I w.2]]),Lm,m.st,m.ln⟩)] ?_;simp[h87',h85,h86,uu,h15',ai,aa,sQ,uQ,ho,ho9,pS,eT];refine⟨e1 _ (by simp;omega) (ud _) _ ⟨rfl,rfl⟩,e2 _ (by simp;omega) (ud _) _ ⟨rfl,rfl⟩,⟨by rintro row (h|rfl);exact hG2 row h;rfl,zE⟩,ag ?_,?_,zE⟩
   ·repeat(first|exact Qc _ _|refine Qb _ rfl ?_)
   exact⟨1,rfl,zE,_,_,⟨rfl,rfl⟩,_,⟨rfl,hG.symm⟩,.inr ⟨zE,Lm.length,rfl,by simp[hGl]⟩⟩
  simp[h87',h85,h86,uu,h15',EV,ai,aa,sQ,uQ,ho,ho9];refine Qbj [(I (xM p.nu p.de (w.1-p.ep)),⟨m.boxes++(bx++[[I w.1,I w.2]]),Lm,m.st,m.ln⟩),(I (xM p.nu p.de (w.2-p.ep)),⟨m.boxes++(bx++[[I w.1,I w.2]]),Lm,m.st,m.ln⟩)] ?_;simp[h87',h85,h86,uu,h15',ai,aa,sQ,uQ,ho,ho9,pS,hk];refine⟨e1 _ (by simp;omega) (ud _) _ ⟨rfl,rfl⟩,e2 _ (by simp;omega) (ud _) _ ⟨rfl,rfl⟩,⟨hGl.symm,by rintro row (h|rfl);exact hG2 row h;rfl,zE⟩,ag ?_,?_,zE⟩
  ·repeat(first|exact Qc _ _|refine Qb _ rfl ?_)
  exact⟨i+1,zE,zE,_,_,⟨rfl,rfl⟩,_,⟨rfl,hG.symm⟩,.inr ⟨zE,k,rfl,by simp[hGl,(zza.1 hk).1]⟩⟩
 obtain rfl:i=U.length:=zE
 rw[zzap zd]at h15';simp[h87',h86,EV];refine hQ _ bx Lm fB ?_ ?_ ?_
 ·repeat(first|exact Qc _ _|refine Qb _ rfl ?_)
 ·simp[h15']
 obtain⟨h1,h2⟩|⟨h1,k,h2,h3⟩:=aT
 ·exact .inl ⟨h2,zzcd.1 h1⟩
 exact .inr ⟨fun h=>h1 (by rw[h];rfl),k,h2⟩
open Go Go.Abs
def LJ:∀(l:List Sp)(lo hi:Int),VS l->(∀w∈l,lo<=w.1/\w.2<=hi)->(l.length:Int)<=max 0 (hi-lo)
 |[],lo,hi,_,_=>by simp only[zzcf];omega
 |s::l,lo,hi,h,hb=>by
  obtain⟨h1,h2,h3⟩:=cV.1 h;have:=LJ l (s.2+1) hi h3 (fun w hw=>⟨by have:=h2 w hw;omega,(hb w (by simp[hw])).2⟩);have b:=hb s zd;simp only[zzbe];omega
def T8(lo hi:Int)(l:List Sp):Prop:=∀w∈l,lo<=w.1/\w.1<=hi/\lo<=w.2/\w.2<=hi
def uX{lo hi:Int}{a b:List Sp}(h:T8 lo hi a):T8 lo hi (zZ a b):=by
 obtain⟨⟨h1,_⟩,h2⟩:=lz a b;intro w hw;have ai:=h1 w hw;obtain⟨s,hs,s1,s2⟩:=((h2 w.1).1 ⟨w,hw,zE,ai⟩).1;obtain⟨t,ht,t1,t2⟩:=((h2 (w.2-1)).1 ⟨w,hw,zE,zE⟩).1;have:=h s hs;have:=h t ht;omega
def ZU{lo hi:Int}{a b:List Sp}(h:T8 lo hi a):((zZ a b).length:Int)<=max 0 (hi-lo):=
 LJ _ _ _ (lz a b).1 (fun w hw=>⟨(uX h w hw).1,(uX h w hw).2.2.2⟩)
def lB{nu de f g:Int}(hv:Vh nu de=true)(h0:0<=f)(hfg:f<=g)(hg:g<=100000000):Yp nu de f<=Yp nu de g/\Yp nu de g<=Yp nu de f+(g-f):=by
 obtain⟨b1,b2,b3,b4,b5⟩:=Ka hv;rw[Yp,Yp,if_pos ⟨hv,h0,zE⟩,if_pos ⟨hv,zE,hg⟩];have q0:0<=f*de:=zzef h0 zE;have q1:0<=g*de:=zzef zE zE;rw[zzco q0,zzco q1];have m1:f*de<=g*de:=Int.mul_le_mul_of_nonneg_right hfg zE;have m2:(g-f)*de<=(g-f)*nu:=zzgb zE zE
 have m3:g*de<=f*de+(g-f)*nu:=by
  have:g*de=f*de+(g-f)*de:=by rw[<- Int.add_mul];congr 1;omega
  omega
 constructor
 ·exact Int.ediv_le_ediv zE m1
 have:=Int.ediv_le_ediv (c:=nu) zE m3;rw[Int.add_mul_ediv_right _ _ zE]at this;exact this
def R2(s:Sp):Sp:=(max s.1 0,min s.2 100000001)
def uS(p:Pl)(c:Sp):Sp:=(p.ep+Yp p.nu p.de c.1,p.ep+Yp p.nu p.de (c.2-1)+1)
def iJ(p:Pl)(x:It)(region:Int)(u:Sp)(i:Nat):List Sp:=((lZ p x region u).take i).foldl zZ [u]
def Vq(p:Pl)(id region:Int)(s:Sp):List Sp:=
 let c:=R2 s
 match Xh id p.aN with
 |none=>[]
 |some x=>if region<0\/8<=region\/c.2<=c.1\/1000000<c.2-c.1 then[]else if x.ki=5 then[c]else if Kn p=false then[]else
  zZ ((iJ p x region (uS p c) (lZ p x region (uS p c)).length).map (uW p)) [c]
def rM:List AV->Sp
 |[.int _ a,.int _ b]=>(a,b)
 |_=>(0,0)
@[simp] def afM(l:List Sp):(l.map Qf).map rM=l:=by
 induction l with
 |nil=>rfl
 |cons a l ih=>simp only[zzay,ih];rfl
@[simp] def atm(l:List Sp):l.map (rM ∘ Qf)=l:=by rw[<- zzcz];exact afM l
@[simp] theorem atn(a b:Int):rM [I a,I b]=(a,b):=rfl
def z6(p:Pl)(id region:Int)(s:Sp):Nat->FuncId->List AV->AV:=fun d f l=>
 if f=999999 then .junk else
 if f=113 then Zk (Xh id p.aN)else
 if f=114 then .bool (Kn p)else
 if f=115 then(match l with|[_,.int _ n]=>I (p.ep+Yp p.nu p.de n)|_=>.junk)else
 if f=116 then(match l with|[_,.agg x,_,.agg u]=>.fn 186 [] [.ep (Qa p) 0,.ep x 0,.ep [I region] 0,.ep u 0]|_=>.junk)else
 if f=117 then(match l with|[.sl _ A,.sl _ B]=>.sl .ro ((zZ (A.map rM) (B.map rM)).map Qf)|_=>.junk)else .gd false .junk
def LK(cs:List Cl)(item region:Int)(h:cs.length<=1000000):(Qcu cs item region).length<=2000000:=by
 have h1:=Uc (nO (dM (Jr cs item region)) (xm (Jr cs item region)) (dM (Jr cs item region)).length);have h2:=xu (dM (Jr cs item region)) (xm (Jr cs item region)) (dM (Jr cs item region)).length;have h3:=OZ (Jr cs item region);have h4:(Jr cs item region).length<=cs.length:=zzbs _ _;unfold Qcu;omega
def ZV(p:Pl)(x:It)(region:Int)(u:Sp)(h:p.cls.length<=1000000):∀l∈lZ p x region u,l.length<=2000000:=by
 intro l hl;rw[lZ,zzat,zzax]at hl;obtain rfl|⟨w,_,rfl⟩:=hl
 ·exact LK _ _ _ h
 have:=ZT p.of p.sh u w.1 w.2;omega
def DA{lo hi:Int}:∀(ls:List (List Sp))(a:List Sp),T8 lo hi a->T8 lo hi (ls.foldl zZ a)
 |[],a,h=>h
 |l::r,a,h=>DA r _ (uX h)
def Bt{lo hi:Int}:∀(ls:List (List Sp))(a:List Sp),T8 lo hi a->(a.length:Int)<=max 1 (hi-lo)->((ls.foldl zZ a).length:Int)<=max 1 (hi-lo)
 |[],a,_,h=>h
 |l::r,a,h,hl=>Bt r _ (uX h) (by have:=ZU (b:=l) h;omega)
def GC(p:Pl)(id region:Int)(s:Sp)(hc:p.cls.length<=1000000)(gQ:p.sh.length<=1000000000)(cp:p.aN.length<=1000000000)(h1: -9223372036854775808<=s.1/\s.1<=9223372036854775807)(h2: -9223372036854775808<=s.2/\s.2<=9223372036854775807):
  ∃rt,Pure Tryz.prog aA 59 [.agg (Qa p),I id,I region,.agg [I s.1,I s.2]] (.sl rt ((Vq p id region s).map Qf)):=by
 have sV:=lC p id cp;have k70:=LM p gQ;obtain⟨c,hcS⟩:∃c,R2 s=c:=⟨_,rfl⟩;have hcb:0<=c.1/\c.2<=100000001/\c.1<=9223372036854775807/\ -9223372036854775808<=c.2:=by rw[<- hcS,R2];simp only;omega
 have T7:max s.1 0=c.1:=by rw[<- hcS];rfl
 have RX:min s.2 100000001=c.2:=by rw[<- hcS];rfl
 have GD:(if s.1<0 then 0 else s.1)=c.1:=zE
 have GF:(if 100000001<s.2 then 100000001 else s.2)=c.2:=zE
 cases hfx:Xh id p.aN with
 |none=>
  have hP:Vq p id region s=[]:=by simp[Vq,hfx]
  rw[hP];refine⟨.nil,Qo vr (z6 p id region s) zd ?_⟩;rw[pT];simp[Dz,Qa,z6,hfx,Zk,tV,GD,GF];simpa[hfx,Zk,Qa]using sV
 |some x=>
  rw[hfx]at sV;by_cases hb:region<0\/8<=region\/c.2<=c.1\/1000000<c.2-c.1
  ·have hP:Vq p id region s=[]:=by simp only[Vq,hfx,hcS,if_pos hb]
   rw[hP];refine⟨.nil,Qo vr (z6 p id region s) zd ?_⟩;have LN:Abs.Pure Tryz.prog aA 113 [.agg (Qa p),I id] (.aZ [.agg (Qn x),.bool true]):=sV;rw[pT];by_cases b1:region<0
   ·simp[Dz,Qa,z6,hfx,Zk,Qn,tV,GD,GF,b1,Qf];exact LN
   by_cases b2:8<=region
   ·simp[Dz,Qa,z6,hfx,Zk,Qn,tV,GD,GF,b1,b2,Qf];exact LN
   by_cases b3:c.2<=c.1
   ·simp[Dz,Qa,z6,hfx,Zk,Qn,tV,GD,GF,b1,b2,b3,Qf];exact LN
   have b4:1000000<c.2-c.1:=zE
   have hw:IntKind.i64.wrap (c.2-c.1)=c.2-c.1:=by rw[Qj]<;>omega
   simp[Dz,Qa,z6,hfx,Zk,Qn,tV,GD,GF,b1,b2,b3,b4,hw,Qf];exact LN
  simp only[not_or]at hb;obtain⟨b1,b2,b3,b4⟩:=hb;have hw:IntKind.i64.wrap (c.2-c.1)=c.2-c.1:=by rw[Qj]<;>omega
  by_cases hk:x.ki=5
  ·have hP:Vq p id region s=[c]:=by simp only[Vq,hfx,hcS,if_neg (show¬(region<0\/8<=region\/c.2<=c.1\/1000000<c.2-c.1) by omega),if_pos hk]
   rw[hP];refine⟨.full,Qo vr (z6 p id region s) zd ?_⟩;rw[pT];simp[Dz,Qa,z6,hfx,Zk,Qn,tV,GD,GF,b1,b2,b3,b4,hw,hk,Qf];rw[Zk,Qn,hk]at sV;exact sV
  have ax6:=pR p.nu p.de c.1;have awX:=pR p.nu p.de (c.2-1);have eT:IntKind.i64.wrap (c.2-1)=c.2-1:=by rw[Qj]<;>omega
  have LN:Abs.Pure Tryz.prog aA 113 [.agg (Qa p),I id] (.aZ [.agg (Qn x),.bool true]):=sV;by_cases ht:Kn p=true
  ·have hte:Vh p.nu p.de=true/\0<=p.ep/\p.ep<=9000000000:=by
    simp only[Kn,zzak,decide_eq_true_eq]at ht;exact⟨ht.1.1,ht.2⟩
   have dP:IntKind.i64.wrap (p.ep+Yp p.nu p.de (c.2-1)+1)=p.ep+Yp p.nu p.de (c.2-1)+1:=by rw[Qj]<;>omega
   have LO:IntKind.i64.wrap (p.ep+Yp p.nu p.de c.1)=p.ep+Yp p.nu p.de c.1:=by rw[Qj]<;>omega
   have ato:=k70;rw[ht]at ato;have k71:=sS p c.1 hte.2;have ax7:=sS p (c.2-1) hte.2;obtain⟨u,hu⟩:∃u,uS p c=u:=⟨_,rfl⟩;have hu1:p.ep+Yp p.nu p.de c.1=u.1:=by rw[<- hu];rfl
   have K4:p.ep+Yp p.nu p.de (c.2-1)+1=u.2:=by rw[<- hu];rfl
   have hu3:IntKind.i64.wrap u.2=u.2:=by rw[<- K4];exact dP
   have hdf:=lB (f:=c.1) (g:=c.2-1) hte.1 zE zE zE;have k72:=GA p x region u
   have hP:Vq p id region s=zZ ((iJ p x region u (lZ p x region u).length).map (uW p)) [c]:=by
    simp only[Vq,hfx,hcS,hu,if_neg (show¬(region<0\/8<=region\/c.2<=c.1\/1000000<c.2-c.1) by omega),if_neg hk,ht];simp
   rw[hP];refine⟨.ro,Qo vr (z6 p id region s) zd ?_⟩;rw[pT];simp[Dz,Qa,z6,hfx,Zk,Qn,GD,GF,b1,b2,b3,b4,hw,hk,Qf,ht,eT,dP,hu1,K4,hu3];rw[hu1]at k71;refine⟨LN,ato,k71,ax7,k72,?_⟩;have hub: -9223372036854775808<=u.1/\u.1<=9223372036854775807/\ -9223372036854775808<=u.2/\u.2<=9223372036854775807:=zE
   have hLi:=GB p x region u hc gQ ⟨hub.1,hub.2.1⟩ hub.2.2;have hLl:=ZV p x region u hc;have atp:T8 u.1 u.2 [u]:=by intro w hw;simp at hw;subst hw;omega
   have ax8:∀i,T8 u.1 u.2 (iJ p x region u i):=fun i=>DA _ _ atp
   have oF:∀i,(iJ p x region u i).length<=2000000:=fun i=>by
    have:=Bt ((lZ p x region u).take i) [u] atp (by simp;omega);unfold iJ;omega
   have qZ:∀i l,(lZ p x region u)[i]?=some l->iJ p x region u (i+1)=zZ (iJ p x region u i) l:=fun i l h=>by
    unfold iJ;rw[zzas,h,zzgp];rfl
   have hc0:iJ p x region u 0=[u]:=by simp[iJ]
   have hps:∀y,uW p y=uW p y:=fun _=>rfl;generalize hXs:lZ p x region u=Xs at*
   refine jK (xs:=Xs.map Gz) (by simp;exact⟨rfl,rfl⟩) hLi (by intro y hy;simp[Gz]at hy;obtain⟨a,_,rfl⟩:=hy;rfl)
    (fun i m=>∃(bx:List (List AV))(rt:Rt),m.boxes=Qa p::[I c.1,I c.2]::Qn x::[I u.1,I u.2]::[.sl rt ((iJ p x region u i).map Qf)]::bx/\(rt=.full\/rt=.ro)) (fun _ _=>False) ?_ ?_ (fun _ _ _ h=>h.elim) ?_ ?_ (fun _ _ h=>h.elim)
   ·refine⟨[],.full,?_,.inl rfl⟩;rw[hc0];rfl
   ·rintro i m m' ⟨bx,rt,hb,aT⟩ ⟨⟨b2,e1⟩,_,_⟩;exact⟨bx++b2,rt,by rw[e1,hb];rfl,aT⟩
   ·rintro l i m y hg hr ⟨bx,rt,hb,aT⟩ hy K' q1 _ _;rw[zzbi,zzcj]at hy;obtain⟨y,hy,rfl⟩:=hy;rw[Ui]at hb;have hyl:=hLl y (zzac hy);have k73:=jS (iJ p x region u i) y (by have:=oF i;omega) zE;have hn:=qZ i y hy;generalize iJ p x region u i=C at*
    obtain rfl|rfl:=aT
    ·have ax9:=Zo (l:=[.sl .full (C.map Qf),.sl .ro (y.map Qf)]) k73 ⟨Wk.sl _ _,Wk.refl _,trivial⟩;simp[hr,Zn,Gz,hb,z6];refine⟨ax9,q1 _ ⟨bx,.ro,?_,.inr rfl⟩⟩;simp[hb,hn]
    simp[hr,Zn,Gz,hb,z6];refine⟨k73,q1 _ ⟨bx,.ro,?_,.inr rfl⟩⟩;simp[hb,hn]
   rintro m ⟨bx,rt,hb,aT⟩;have hcU:=oF Xs.length;have hcI:=ax8 Xs.length;rw[zzbj]at hb;generalize iJ p x region u Xs.length=C at*
   have k73:=jS (C.map (uW p)) [c] (by simp;omega) zd;have sP:∀w∈C,(-1000000000000<=w.1-p.ep/\w.1-p.ep<=1000000000000)/\(-1000000000000<=w.2-p.ep/\w.2-p.ep<=1000000000000):=fun w hw=>by have:=hcI w hw;omega
   have leaf:∀rt,Abs.Pure Tryz.prog aA 117 [.sl rt (C.map (Qf ∘ uW p)),.sl .full [[I c.1,I c.2]]] (.sl .ro ((zZ (C.map (rM ∘ Qf ∘ uW p)) [(c.1,c.2)]).map Qf))/\(zZ (C.map (rM ∘ Qf ∘ uW p)) [(c.1,c.2)]).map Qf=(zZ (C.map (uW p)) [c]).map Qf:=by
    have e1:C.map (rM ∘ Qf ∘ uW p)=C.map (uW p):=zzda fun _ _=>rfl;intro rt;rw[e1];refine⟨?_,rfl⟩;have:=Zo (l:=[.sl rt ((C.map (uW p)).map Qf),.sl .full ([c].map Qf)]) k73 ⟨Wk.sl _ _,Wk.sl _ _,trivial⟩;rw[zzcz]at this;exact this
   obtain rfl|rfl:=aT
   ·simp[hb];refine Bs Y0 p (z6 p id region s) (fun _ _=>rfl) (fun _ _=>rfl) _ _ C .full _ zd zd zd zd zd (by simp[hb]) (by simp[hb]) zE sP ?_;intro E' bx' Lm fB hA sU z7;have h7:Abs.look E' 7=.ptr 1 0:=by rw[hA 7 (by decide)];simp
    obtain⟨rfl,hC⟩|⟨hC,k,rfl⟩:=z7
    ·simp[h7,sU,hb,z6,tV];exact leaf _
    simp[h7,sU,hb,z6,tV];exact leaf _
   simp[hb];refine Bs Y0 p (z6 p id region s) (fun _ _=>rfl) (fun _ _=>rfl) _ _ C .ro _ zd zd zd zd zd (by simp[hb]) (by simp[hb]) zE sP ?_;intro E' bx' Lm fB hA sU z7;have h7:Abs.look E' 7=.ptr 1 0:=by rw[hA 7 (by decide)];simp
   obtain⟨rfl,hC⟩|⟨hC,k,rfl⟩:=z7
   ·simp[h7,sU,hb,z6,tV];exact leaf _
   simp[h7,sU,hb,z6,tV];exact leaf _
  have ZW:Kn p=false:=by simpa using ht
  rw[ZW]at k70;have hP:Vq p id region s=[]:=by simp only[Vq,hfx,hcS,if_neg (show¬(region<0\/8<=region\/c.2<=c.1\/1000000<c.2-c.1) by omega),if_neg hk,if_pos ZW]
  rw[hP];refine⟨.nil,Qo vr (z6 p id region s) zd ?_⟩;rw[pT];simp[Dz,Qa,z6,hfx,Zk,Qn,tV,GD,GF,b1,b2,b3,b4,hw,hk,Qf,ZW];exact⟨LN,k70⟩
def nV(p:Pl)(id region:Int)(s:Sp)(hc:p.cls.length<=1000000)(gQ:p.sh.length<=1000000000)(cp:p.aN.length<=1000000000)(h1: -9223372036854775808<=s.1/\s.1<=9223372036854775807)(h2: -9223372036854775808<=s.2/\s.2<=9223372036854775807):
  Pure Tryz.prog aA 59 [.agg (Qa p),I id,I region,.agg [I s.1,I s.2]] (.sl .ro ((Vq p id region s).map Qf)):=by
 obtain⟨rt,h⟩:=GC p id region s hc gQ cp h1 h2;exact Xa h (Wk.sl _ _)
end
