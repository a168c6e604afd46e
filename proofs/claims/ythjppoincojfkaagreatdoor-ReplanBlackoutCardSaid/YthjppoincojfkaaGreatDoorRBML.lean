import Derived.Test.YthjppoincojfkaaGreatDoorRBMK
import Derived.Test.YthjppoincojfkaaGreatDoorRBMJ
set_option linter.all false
set_option maxRecDepth 100000
set_option maxHeartbeats 64000000
namespace Go.Proofs.YthjppoincojfkaaGreatDoor
noncomputable section
open Go Go.Abs
def pF(nu de f:Int): -1<=Yn nu de f/\Yn nu de f<=100000000:=by
 unfold Yn;split
 ·rename_i h;obtain⟨h1,h2,h3⟩:=h;obtain⟨b1,b2,b3,b4,b5⟩:=Ju h1;have q0:0<=f*de:=zzed h2 zE;have q1:f*de<=f*nu:=zzfs zE h2;have q2:0<=(f*de).tdiv nu:=Int.tdiv_nonneg q0 zE
  have q3:(f*de).tdiv nu<=f:=by
   rw[zzck q0];exact Int.ediv_le_of_le_mul zE q1
  omega
 omega
def sG(p:Pl)(f:Int)(ht:0<=p.ep/\p.ep<=9000000000):Pure Tryz.prog aD 82 [.agg (Qa p),I f] (I (p.ep+Yn p.nu p.de f)):=by
 have h:=QD p.nu p.de f;have hb:=pF p.nu p.de f;have hw:IntKind.i64.wrap (p.ep+Yn p.nu p.de f)=p.ep+Yn p.nu p.de f:=by rw[Ql]<;>omega
 refine Qp akh (fun _ f' l=>if f'=134 then I (Yn p.nu p.de f)else .junk) zd ?_;simp[ao3,Qa,ao4,hw];exact h
def xq(p:Pl)(n:Int)(hn: -1000000000000<=n-p.ep/\n-p.ep<=1000000000000)(Y:YT)(m:AM)(b:Nat)(hb:b<m.boxes.length)(hr:Qj m.boxes b=Qa p)(K:So)(hK:K (I (xu p.nu p.de (n-p.ep))) m):
  aB Tryz.prog aD Y 85 [I n,.ptr b 0] m K:=by
 have h:=A5 p.nu p.de (n-p.ep);have hw:IntKind.i64.wrap (n-p.ep)=n-p.ep:=by rw[Ql]<;>omega
 refine Xn akl (fun _ f' l=>if f'=86 then I (xu p.nu p.de (n-p.ep))else .junk) zd ?_;simp[ao8,hr,Qa,ao9,hw,hb];exact⟨h,hK⟩
def lN(p:Pl)(x:It)(region:Int)(s:Sp):List (List Sp):=Qcq p.cls x.id region::(uF p.cls x.ra).map fun w=>ir p.of p.sh s w.1 w.2
def FT(l:List Sp):P2:=[.sl .ro (l.map Qf)]
def FU(p:Pl)(x:It)(region:Int)(s:Sp):Pure Tryz.prog aD 83 [.agg (Qa p),.agg (Qh x),I region,.agg [I s.1,I s.2]] (.fn 135 [] [.ep (Qa p) 0,.ep (Qh x) 0,.ep [I region] 0,.ep [I s.1,I s.2] 0]):=by
 refine Qp aki (fun _ _ _=>.junk) zd ?_;simp[ao5,ao6,Qa,Qh]
def FV(p:Pl)(x:It)(region:Int)(s:Sp)(hc:p.cls.length<=1000000)(fu:p.sh.length<=1000000000)(h1: -9223372036854775808<=s.1/\s.1<=9223372036854775807)(h2: -9223372036854775808<=s.2/\s.2<=9223372036854775807):
  Iter Tryz.prog aD 135 [] [.ep (Qa p) 0,.ep (Qh x) 0,.ep [I region] 0,.ep [I s.1,I s.2] 0] ((lN p x region s).map FT):=by
 intro Y l m K hF;have asx:=Ks p.cls x.id region hc;have asy:=tV p.cls x.ra zE
 have A6:(uF p.cls x.ra).length<=1000000:=by
  unfold uF;rw[zzbt];exact zzbb (zzcb _ _) hc
 refine Xn ab3 (fun d f' l=>if f'=136 then .sl .ro ((Qcq p.cls x.id region).map Qf)else if f'=137 then .sl .ro ((uF p.cls x.ra).map Qf)else
  if f'=138 then(match l with|[_,_,.int _ a,.int _ b]=>.sl .ro ((ir p.of p.sh s a b).map Qf)|_=>.junk)else .junk) zd ?_
 unfold lN at hF;generalize hS:Qcq p.cls x.id region=S at hF asx;generalize hW:uF p.cls x.ra=W at hF asy A6;simp only[zzaz,FT]at hF;simp[Ty,Qa,Qh,hS,hW];refine⟨asx,?_⟩;refine hF _ (fD.refl _) _ (fun m2 AW=>?_) (fun m2 hK=>?_)
 ·rw[zzct]at AW;simp[hW];refine⟨asy,?_⟩;refine Qk IS (fun f mm=>∃i:Nat,f 23=I i/\i<=W.length/\wI (Y l) K ((W.drop i).map (FT ∘ fun w=>ir p.of p.sh s w.1 w.2)) mm) (fun f _=>W.length-(numOf (f 23)).toNat) ?_ ?_
  ·exact⟨0,zd,zE,Nm AW⟩
  rintro f mm ⟨i,h23,hi,hF3⟩;rcases zzaa i W.length with ai|bn
  ·obtain⟨w,hw⟩:=aV ai;have zI:=Zv hw;have aa:(i:Int)<(W.length:Int):=zE
   have qX:=bO i zE;have hd:W.drop i=w::W.drop (i+1):=by rw[zzah ai,(zza.1 hw).2]
   rw[hd,zzaz]at hF3;simp only[Function.comp_apply,FT]at hF3;have axg:=zL p.of p.sh s w.1 w.2 fu h1 h2
   have iE:∀x,Qj (mm.boxes++[x]) mm.boxes.length=x:=fun x=>by
    simp
   simp[h23,IS,ai,aa,zI,iE];refine⟨axg,?_⟩;refine hF3 _ (fD.box mm [[I w.1,I w.2]]) _ (fun m3 hF4=>?_) (fun m3 hK=>?_)
   ·simp[qX];refine⟨aQ,⟨i+1,zE,zE,by rw[<- zzgd];exact hF4⟩,zE⟩
   simp[MJ];exact hK _ (fD.refl _)
  obtain rfl:i=W.length:=zE
  rw[zzbx,zzcr]at hF3;simp[h23,IS,MJ];exact hF3 _ (fD.refl _)
 simp[MJ];exact hK _ (fD.refl _)
open Go Go.Abs
def al1:SC:=(⟨_,by cbv⟩:JT [1,1,1,1,1,1,1,1,1,1,1,1,0,1] SM).1
def C5:SC->SC:=(⟨_,fun _=>by cbv⟩:Fe [1,1,1,1,1,1,1,1,1,1,1,1,0,1] SM).1
theorem pG:SM=C5 al1:=rfl
def uG(p:Pl)(w:Sp):Sp:=(xu p.nu p.de (w.1-p.ep),xu p.nu p.de (w.2-p.ep))
def A7(Y:YT)(p:Pl)(orc:UV)(ho:∀d l,orc d 74 l=.gd false .junk)(ho9:∀d l,orc d 999999 l=.junk)(E:QQ)(m:AM)(U:List Sp)(rt:Rt)(Q:R0)
  (h85:Abs.look E 85=.sl rt (U.map Qf))(h86:Abs.look E 86=I U.length)(h87:Abs.look E 87=I 0)(tW:Abs.look E 14=.fn 85 [] [.ptr 0 0])(sH:Abs.look E 15=.sl .nil [])
  (h0:0<m.boxes.length)(hr:Qj m.boxes 0=Qa p)(hU:U.length<=10000000)(hUb:∀w∈U,(-1000000000000<=w.1-p.ep/\w.1-p.ep<=1000000000000)/\(-1000000000000<=w.2-p.ep/\w.2-p.ep<=1000000000000))
  (hQ:∀E' bx Lm yZ,fN Ea E' E->Abs.look E' 15=.sl yZ ((U.map (uG p)).map Qf)->(yZ=.nil/\U=[]\/U≠[]/\∃k,yZ=.own k 2)->Q .normal ⟨Vw 108 E',⟨m.boxes++bx,Lm,m.st,m.ln⟩⟩):
  vc Tryz.prog aD orc Y al1 ⟨Vw 108 E,m⟩ Q:=by
 simp[al1];refine Qk Ea (fun f mm=>∃(i:Nat)(bx:T5)(Lm:Pa)(yZ:Rt),f 87=I i/\i<=U.length/\mm=⟨m.boxes++bx,Lm,m.st,m.ln⟩/\f 15=.sl yZ ((U.map (Qf ∘ uG p)).take i)/\(i=0/\yZ=.nil\/i≠0/\∃k,yZ=.own k 2/\Lm[k]?=some i)) (fun f _=>U.length-(numOf (f 87)).toNat) ?_ ?_
 ·exact⟨0,[],m.lens,.nil,by simp[h87],zE,zd,by simp[sH],.inl ⟨rfl,rfl⟩⟩
 rintro f mm ⟨i,bx,Lm,yZ,h87',hi,rfl,h15',aX⟩;rcases zzaa i U.length with ai|bn
 ·obtain⟨w,hw⟩:=aV ai;have zI:=Zv hw;obtain⟨c1,c2⟩:=hUb w (zzad hw);have aa:(i:Int)<(U.length:Int):=zE
  have qX:=bO i zE;have dU:IntKind.i64.wrap 1=1:=by rw[Ql]<;>omega
  have bA:U.take (i+1)=U.take i++[w]:=by rw[zzax,hw];rfl
  have lZ:(U.take i).length=i:=by rw[zzap];omega
  have A0:∀x,Qj (m.boxes++(bx++[x])) (m.boxes.length+bx.length)=x:=fun x=>by
   simp
  have Cp:∀x,Qj (m.boxes++x) 0=Qa p:=fun x=>by rw[Qn h0];exact hr
  have e1:=fun m' h1 h2 K hK=>xq p w.1 c1 Y m' 0 h1 h2 K hK;have e2:=fun m' h1 h2 K hK=>xq p w.2 c2 Y m' 0 h1 h2 K hK;have hG:(U.map (Qf ∘ uG p)).take (i+1)=(U.map (Qf ∘ uG p)).take i++[[I (xu p.nu p.de (w.1-p.ep)),I (xu p.nu p.de (w.2-p.ep))]]:=by rw[zzax,zzbm,hw];rfl
  have hGl:((U.map (Qf ∘ uG p)).take i).length=i:=by rw[zzap,zzbt];omega
  have hG2:∀row∈(U.map (Qf ∘ uG p)).take i,row.length=2:=by
   intro row h;obtain⟨a,_,rfl⟩:=zzb.1 (zzce h);rfl
  generalize hGG:(U.map (Qf ∘ uG p)).take i=G at*
  obtain⟨rfl,rfl⟩|⟨aN,k,rfl,hk⟩:=aX
  ·simp[h87',h85,h86,tW,h15',Ea,ai,aa,zI,A0,ho,ho9];refine Qbf [(I (xu p.nu p.de (w.1-p.ep)),⟨m.boxes++(bx++[[I w.1,I w.2]]),Lm,m.st,m.ln⟩),(I (xu p.nu p.de (w.2-p.ep)),⟨m.boxes++(bx++[[I w.1,I w.2]]),Lm,m.st,m.ln⟩)] ?_;simp[h87',h85,h86,tW,h15',ai,aa,zI,A0,ho,ho9,qX,dU];refine⟨e1 _ (by simp;omega) (Cp _) _ ⟨rfl,rfl⟩,e2 _ (by simp;omega) (Cp _) _ ⟨rfl,rfl⟩,⟨by rintro row (h|rfl);exact hG2 row h;rfl,zE⟩,ag ?_,?_,zE⟩
   ·repeat(first|exact Qb _ _|refine Qc _ rfl ?_)
   exact⟨1,rfl,zE,_,_,⟨rfl,rfl⟩,_,⟨rfl,hG.symm⟩,.inr ⟨zE,Lm.length,rfl,by simp[hGl]⟩⟩
  simp[h87',h85,h86,tW,h15',Ea,ai,aa,zI,A0,ho,ho9];refine Qbf [(I (xu p.nu p.de (w.1-p.ep)),⟨m.boxes++(bx++[[I w.1,I w.2]]),Lm,m.st,m.ln⟩),(I (xu p.nu p.de (w.2-p.ep)),⟨m.boxes++(bx++[[I w.1,I w.2]]),Lm,m.st,m.ln⟩)] ?_;simp[h87',h85,h86,tW,h15',ai,aa,zI,A0,ho,ho9,qX,hk];refine⟨e1 _ (by simp;omega) (Cp _) _ ⟨rfl,rfl⟩,e2 _ (by simp;omega) (Cp _) _ ⟨rfl,rfl⟩,⟨hGl.symm,by rintro row (h|rfl);exact hG2 row h;rfl,zE⟩,ag ?_,?_,zE⟩
  ·repeat(first|exact Qb _ _|refine Qc _ rfl ?_)
  exact⟨i+1,zE,zE,_,_,⟨rfl,rfl⟩,_,⟨rfl,hG.symm⟩,.inr ⟨zE,k,rfl,by simp[hGl,(zza.1 hk).1]⟩⟩
 obtain rfl:i=U.length:=zE
 rw[zzas zd]at h15';simp[h87',h86,Ea];refine hQ _ bx Lm yZ ?_ ?_ ?_
 ·repeat(first|exact Qb _ _|refine Qc _ rfl ?_)
 ·simp[h15']
 obtain⟨h1,h2⟩|⟨h1,k,h2,h3⟩:=aX
 ·exact .inl ⟨h2,zzc.1 h1⟩
 exact .inr ⟨fun h=>h1 (by rw[h];rfl),k,h2⟩
open Go Go.Abs
def KE:∀(l:List Sp)(lo hi:Int),VS l->(∀w∈l,lo<=w.1/\w.2<=hi)->(l.length:Int)<=max 0 (hi-lo)
 |[],lo,hi,_,_=>by simp only[zzcn];omega
 |s::l,lo,hi,h,hb=>by
  obtain⟨h1,h2,h3⟩:=cV.1 h;have:=KE l (s.2+1) hi h3 (fun w hw=>⟨by have:=h2 w hw;omega,(hb w (by simp[hw])).2⟩);have b:=hb s zd;simp only[zzbg];omega
def Sl(lo hi:Int)(l:List Sp):Prop:=∀w∈l,lo<=w.1/\w.1<=hi/\lo<=w.2/\w.2<=hi
def uH{lo hi:Int}{a b:List Sp}(h:Sl lo hi a):Sl lo hi (zM a b):=by
 obtain⟨⟨h1,_⟩,h2⟩:=kR a b;intro w hw;have ai:=h1 w hw;obtain⟨s,hs,s1,s2⟩:=((h2 w.1).1 ⟨w,hw,zE,ai⟩).1;obtain⟨t,ht,t1,t2⟩:=((h2 (w.2-1)).1 ⟨w,hw,zE,zE⟩).1;have:=h s hs;have:=h t ht;omega
def XR{lo hi:Int}{a b:List Sp}(h:Sl lo hi a):((zM a b).length:Int)<=max 0 (hi-lo):=
 KE _ _ _ (kR a b).1 (fun w hw=>⟨(uH h w hw).1,(uH h w hw).2.2.2⟩)
def kS{nu de f g:Int}(hv:Vd nu de=true)(h0:0<=f)(hfg:f<=g)(hg:g<=100000000):Yn nu de f<=Yn nu de g/\Yn nu de g<=Yn nu de f+(g-f):=by
 obtain⟨b1,b2,b3,b4,b5⟩:=Ju hv;rw[Yn,Yn,if_pos ⟨hv,h0,zE⟩,if_pos ⟨hv,zE,hg⟩];have q0:0<=f*de:=zzed h0 zE;have q1:0<=g*de:=zzed zE zE;rw[zzck q0,zzck q1];have m1:f*de<=g*de:=Int.mul_le_mul_of_nonneg_right hfg zE;have m2:(g-f)*de<=(g-f)*nu:=zzfs zE zE
 have m3:g*de<=f*de+(g-f)*nu:=by
  have:g*de=f*de+(g-f)*de:=by rw[<- Int.add_mul];congr 1;omega
  omega
 constructor
 ·exact Int.ediv_le_ediv zE m1
 have:=Int.ediv_le_ediv (c:=nu) zE m3;rw[Int.add_mul_ediv_right _ _ zE]at this;exact this
def QE(s:Sp):Sp:=(max s.1 0,min s.2 100000001)
def uS(p:Pl)(c:Sp):Sp:=(p.ep+Yn p.nu p.de c.1,p.ep+Yn p.nu p.de (c.2-1)+1)
def iu(p:Pl)(x:It)(region:Int)(u:Sp)(i:Nat):List Sp:=((lN p x region u).take i).foldl zM [u]
def Vt(p:Pl)(id region:Int)(s:Sp):List Sp:=
 let c:=QE s
 match Xg id p.aM with
 |none=>[]
 |some x=>if region<0\/8<=region\/c.2<=c.1\/1000000<c.2-c.1 then[]else if x.ki=5 then[c]else if Ki p=false then[]else
  zM ((iu p x region (uS p c) (lN p x region (uS p c)).length).map (uG p)) [c]
def qY:P2->Sp
 |[.int _ a,.int _ b]=>(a,b)
 |_=>(0,0)
@[simp] def aen(l:List Sp):(l.map Qf).map qY=l:=by
 induction l with
 |nil=>rfl
 |cons a l ih=>simp only[zzaz,ih];rfl
@[simp] def asz(l:List Sp):l.map (qY ∘ Qf)=l:=by rw[<- zzct];exact aen l
@[simp] theorem asA(a b:Int):qY [I a,I b]=(a,b):=rfl
def zN(p:Pl)(id region:Int)(s:Sp):UV:=fun d f l=>
 if f=999999 then .junk else
 if f=80 then Xp (Xg id p.aM)else
 if f=81 then .bool (Ki p)else
 if f=82 then(match l with|[_,.int _ n]=>I (p.ep+Yn p.nu p.de n)|_=>.junk)else
 if f=83 then(match l with|[_,.agg x,_,.agg u]=>.fn 135 [] [.ep (Qa p) 0,.ep x 0,.ep [I region] 0,.ep u 0]|_=>.junk)else
 if f=84 then(match l with|[.sl _ A,.sl _ B]=>.sl .ro ((zM (A.map qY) (B.map qY)).map Qf)|_=>.junk)else .gd false .junk
def KF(cs:List Cl)(item region:Int)(h:cs.length<=1000000):(Qcq cs item region).length<=2000000:=by
 have h1:=Yu (nD (dJ (Jl cs item region)) (wU (Jl cs item region)) (dJ (Jl cs item region)).length);have h2:=wW (dJ (Jl cs item region)) (wU (Jl cs item region)) (dJ (Jl cs item region)).length;have h3:=NS (Jl cs item region);have h4:(Jl cs item region).length<=cs.length:=zzcb _ _;unfold Qcq;omega
def XS(p:Pl)(x:It)(region:Int)(u:Sp)(h:p.cls.length<=1000000):∀l∈lN p x region u,l.length<=2000000:=by
 intro l hl;rw[lN,zzaq,zzb]at hl;obtain rfl|⟨w,_,rfl⟩:=hl
 ·exact KF _ _ _ h
 have:=XQ p.of p.sh u w.1 w.2;omega
def C6{lo hi:Int}:∀(ls:List (List Sp))(a:List Sp),Sl lo hi a->Sl lo hi (ls.foldl zM a)
 |[],a,h=>h
 |l::r,a,h=>C6 r _ (uH h)
def A8{lo hi:Int}:∀(ls:List (List Sp))(a:List Sp),Sl lo hi a->(a.length:Int)<=max 1 (hi-lo)->((ls.foldl zM a).length:Int)<=max 1 (hi-lo)
 |[],a,_,h=>h
 |l::r,a,h,hl=>A8 r _ (uH h) (by have:=XR (b:=l) h;omega)
def FX(p:Pl)(id region:Int)(s:Sp)(hc:p.cls.length<=1000000)(fu:p.sh.length<=1000000000)(cT:p.aM.length<=1000000000)(h1: -9223372036854775808<=s.1/\s.1<=9223372036854775807)(h2: -9223372036854775808<=s.2/\s.2<=9223372036854775807):
  ∃rt,Pure Tryz.prog aD 40 [.agg (Qa p),I id,I region,.agg [I s.1,I s.2]] (.sl rt ((Vt p id region s).map Qf)):=by
 have sI:=kT p id cT;have k70:=KG p fu;obtain⟨c,hcS⟩:∃c,QE s=c:=⟨_,rfl⟩;have hcb:0<=c.1/\c.2<=100000001/\c.1<=9223372036854775807/\ -9223372036854775808<=c.2:=by rw[<- hcS,QE];simp only;omega
 have hmx:max s.1 0=c.1:=by rw[<- hcS];rfl
 have hmn:min s.2 100000001=c.2:=by rw[<- hcS];rfl
 have FY:(if s.1<0 then 0 else s.1)=c.1:=zE
 have FZ:(if 100000001<s.2 then 100000001 else s.2)=c.2:=zE
 cases hfx:Xg id p.aM with
 |none=>
  have hP:Vt p id region s=[]:=by simp[Vt,hfx]
  rw[hP];refine⟨.nil,Qp u5 (zN p id region s) zd ?_⟩;rw[pG];simp[C5,Qa,zN,hfx,Xp,tC,FY,FZ];simpa[hfx,Xp,Qa]using sI
 |some x=>
  rw[hfx]at sI;by_cases hb:region<0\/8<=region\/c.2<=c.1\/1000000<c.2-c.1
  ·have hP:Vt p id region s=[]:=by simp only[Vt,hfx,hcS,if_pos hb]
   rw[hP];refine⟨.nil,Qp u5 (zN p id region s) zd ?_⟩;have KH:Abs.Pure Tryz.prog aD 80 [.agg (Qa p),I id] (.aS [.agg (Qh x),.bool true]):=sI;rw[pG];by_cases b1:region<0
   ·simp[C5,Qa,zN,hfx,Xp,Qh,tC,FY,FZ,b1,Qf];exact KH
   by_cases b2:8<=region
   ·simp[C5,Qa,zN,hfx,Xp,Qh,tC,FY,FZ,b1,b2,Qf];exact KH
   by_cases b3:c.2<=c.1
   ·simp[C5,Qa,zN,hfx,Xp,Qh,tC,FY,FZ,b1,b2,b3,Qf];exact KH
   have b4:1000000<c.2-c.1:=zE
   have hw:IntKind.i64.wrap (c.2-c.1)=c.2-c.1:=by rw[Ql]<;>omega
   simp[C5,Qa,zN,hfx,Xp,Qh,tC,FY,FZ,b1,b2,b3,b4,hw,Qf];exact KH
  simp only[not_or]at hb;obtain⟨b1,b2,b3,b4⟩:=hb;have hw:IntKind.i64.wrap (c.2-c.1)=c.2-c.1:=by rw[Ql]<;>omega
  by_cases hk:x.ki=5
  ·have hP:Vt p id region s=[c]:=by simp only[Vt,hfx,hcS,if_neg (show¬(region<0\/8<=region\/c.2<=c.1\/1000000<c.2-c.1) by omega),if_pos hk]
   rw[hP];refine⟨.full,Qp u5 (zN p id region s) zd ?_⟩;rw[pG];simp[C5,Qa,zN,hfx,Xp,Qh,tC,FY,FZ,b1,b2,b3,b4,hw,hk,Qf];rw[Xp,Qh,hk]at sI;exact sI
  have axh:=pF p.nu p.de c.1;have avI:=pF p.nu p.de (c.2-1);have dU:IntKind.i64.wrap (c.2-1)=c.2-1:=by rw[Ql]<;>omega
  have KH:Abs.Pure Tryz.prog aD 80 [.agg (Qa p),I id] (.aS [.agg (Qh x),.bool true]):=sI;by_cases ht:Ki p=true
  ·have hte:Vd p.nu p.de=true/\0<=p.ep/\p.ep<=9000000000:=by
    simp only[Ki,zzac,decide_eq_true_eq]at ht;exact⟨ht.1.1,ht.2⟩
   have fE:IntKind.i64.wrap (p.ep+Yn p.nu p.de (c.2-1)+1)=p.ep+Yn p.nu p.de (c.2-1)+1:=by rw[Ql]<;>omega
   have Sm:IntKind.i64.wrap (p.ep+Yn p.nu p.de c.1)=p.ep+Yn p.nu p.de c.1:=by rw[Ql]<;>omega
   have asC:=k70;rw[ht]at asC;have k71:=sG p c.1 hte.2;have axi:=sG p (c.2-1) hte.2;obtain⟨u,hu⟩:∃u,uS p c=u:=⟨_,rfl⟩;have hu1:p.ep+Yn p.nu p.de c.1=u.1:=by rw[<- hu];rfl
   have JB:p.ep+Yn p.nu p.de (c.2-1)+1=u.2:=by rw[<- hu];rfl
   have hu3:IntKind.i64.wrap u.2=u.2:=by rw[<- JB];exact fE
   have hdf:=kS (f:=c.1) (g:=c.2-1) hte.1 zE zE zE;have k72:=FU p x region u
   have hP:Vt p id region s=zM ((iu p x region u (lN p x region u).length).map (uG p)) [c]:=by
    simp only[Vt,hfx,hcS,hu,if_neg (show¬(region<0\/8<=region\/c.2<=c.1\/1000000<c.2-c.1) by omega),if_neg hk,ht];simp
   rw[hP];refine⟨.ro,Qp u5 (zN p id region s) zd ?_⟩;rw[pG];simp[C5,Qa,zN,hfx,Xp,Qh,FY,FZ,b1,b2,b3,b4,hw,hk,Qf,ht,dU,fE,hu1,JB,hu3];rw[hu1]at k71;refine⟨KH,asC,k71,axi,k72,?_⟩;have hub: -9223372036854775808<=u.1/\u.1<=9223372036854775807/\ -9223372036854775808<=u.2/\u.2<=9223372036854775807:=zE
   have hLi:=FV p x region u hc fu ⟨hub.1,hub.2.1⟩ hub.2.2;have hLl:=XS p x region u hc;have asD:Sl u.1 u.2 [u]:=by intro w hw;simp at hw;subst hw;omega
   have axj:∀i,Sl u.1 u.2 (iu p x region u i):=fun i=>C6 _ _ asD
   have qj:∀i,(iu p x region u i).length<=2000000:=fun i=>by
    have:=A8 ((lN p x region u).take i) [u] asD (by simp;omega);unfold iu;omega
   have fA:∀i l,(lN p x region u)[i]?=some l->iu p x region u (i+1)=zM (iu p x region u i) l:=fun i l h=>by
    unfold iu;rw[zzax,h,zzgj];rfl
   have hc0:iu p x region u 0=[u]:=by simp[iu]
   have hps:∀y,uG p y=uG p y:=fun _=>rfl;generalize hXs:lN p x region u=Xs at*
   refine ji (xs:=Xs.map FT) (by simp;exact⟨rfl,rfl⟩) hLi (by intro y hy;simp[FT]at hy;obtain⟨a,_,rfl⟩:=hy;rfl)
    (fun i m=>∃(bx:T5)(rt:Rt),m.boxes=Qa p::[I c.1,I c.2]::Qh x::[I u.1,I u.2]::[.sl rt ((iu p x region u i).map Qf)]::bx/\(rt=.full\/rt=.ro)) (fun _ _=>False) ?_ ?_ (fun _ _ _ h=>h.elim) ?_ ?_ (fun _ _ h=>h.elim)
   ·refine⟨[],.full,?_,.inl rfl⟩;rw[hc0];rfl
   ·rintro i m m' ⟨bx,rt,hb,aX⟩ ⟨⟨b2,e1⟩,_,_⟩;exact⟨bx++b2,rt,by rw[e1,hb];rfl,aX⟩
   ·rintro l i m y hg hr ⟨bx,rt,hb,aX⟩ hy K' q1 _ _;rw[zzbm,zzby]at hy;obtain⟨y,hy,rfl⟩:=hy;rw[Jm]at hb;have hyl:=hLl y (zzad hy);have k73:=jI (iu p x region u i) y (by have:=qj i;omega) zE;have hn:=fA i y hy;generalize iu p x region u i=C at*
    obtain rfl|rfl:=aX
    ·have axk:=Xw (l:=[.sl .full (C.map Qf),.sl .ro (y.map Qf)]) k73 ⟨Wk.sl _ _,Ps,trivial⟩;simp[hr,Zp,FT,hb,zN];refine⟨axk,q1 _ ⟨bx,.ro,?_,.inr rfl⟩⟩;simp[hb,hn]
    simp[hr,Zp,FT,hb,zN];refine⟨k73,q1 _ ⟨bx,.ro,?_,.inr rfl⟩⟩;simp[hb,hn]
   rintro m ⟨bx,rt,hb,aX⟩;have hcU:=qj Xs.length;have hcI:=axj Xs.length;rw[zzbt]at hb;generalize iu p x region u Xs.length=C at*
   have k73:=jI (C.map (uG p)) [c] (by simp;omega) zd;have ei:∀w∈C,(-1000000000000<=w.1-p.ep/\w.1-p.ep<=1000000000000)/\(-1000000000000<=w.2-p.ep/\w.2-p.ep<=1000000000000):=fun w hw=>by have:=hcI w hw;omega
   have leaf:∀rt,Abs.Pure Tryz.prog aD 84 [.sl rt (C.map (Qf ∘ uG p)),.sl .full [[I c.1,I c.2]]] (.sl .ro ((zM (C.map (qY ∘ Qf ∘ uG p)) [(c.1,c.2)]).map Qf))/\(zM (C.map (qY ∘ Qf ∘ uG p)) [(c.1,c.2)]).map Qf=(zM (C.map (uG p)) [c]).map Qf:=by
    have e1:C.map (qY ∘ Qf ∘ uG p)=C.map (uG p):=zzcq fun _ _=>rfl;intro rt;rw[e1];refine⟨?_,rfl⟩;have:=Xw (l:=[.sl rt ((C.map (uG p)).map Qf),.sl .full ([c].map Qf)]) k73 ⟨Wk.sl _ _,Wk.sl _ _,trivial⟩;rw[zzct]at this;exact this
   obtain rfl|rfl:=aX
   ·simp[hb];refine A7 Y0 p (zN p id region s) (fun _ _=>rfl) (fun _ _=>rfl) _ _ C .full _ zd zd zd zd zd (by simp[hb]) (by simp[hb]) zE ei ?_;intro E' bx' Lm yZ hA sH XT;have h7:Abs.look E' 7=.ptr 1 0:=by rw[hA 7 (by decide)];simp
    obtain⟨rfl,hC⟩|⟨hC,k,rfl⟩:=XT
    ·simp[h7,sH,hb,zN,tC];exact leaf _
    simp[h7,sH,hb,zN,tC];exact leaf _
   simp[hb];refine A7 Y0 p (zN p id region s) (fun _ _=>rfl) (fun _ _=>rfl) _ _ C .ro _ zd zd zd zd zd (by simp[hb]) (by simp[hb]) zE ei ?_;intro E' bx' Lm yZ hA sH XT;have h7:Abs.look E' 7=.ptr 1 0:=by rw[hA 7 (by decide)];simp
   obtain⟨rfl,hC⟩|⟨hC,k,rfl⟩:=XT
   ·simp[h7,sH,hb,zN,tC];exact leaf _
   simp[h7,sH,hb,zN,tC];exact leaf _
  have XU:Ki p=false:=by simpa using ht
  rw[XU]at k70;have hP:Vt p id region s=[]:=by simp only[Vt,hfx,hcS,if_neg (show¬(region<0\/8<=region\/c.2<=c.1\/1000000<c.2-c.1) by omega),if_neg hk,if_pos XU]
  rw[hP];refine⟨.nil,Qp u5 (zN p id region s) zd ?_⟩;rw[pG];simp[C5,Qa,zN,hfx,Xp,Qh,tC,FY,FZ,b1,b2,b3,b4,hw,hk,Qf,XU];exact⟨KH,k70⟩
def nJ(p:Pl)(id region:Int)(s:Sp)(hc:p.cls.length<=1000000)(fu:p.sh.length<=1000000000)(cT:p.aM.length<=1000000000)(h1: -9223372036854775808<=s.1/\s.1<=9223372036854775807)(h2: -9223372036854775808<=s.2/\s.2<=9223372036854775807):
  Pure Tryz.prog aD 40 [.agg (Qa p),I id,I region,.agg [I s.1,I s.2]] (.sl .ro ((Vt p id region s).map Qf)):=by
 obtain⟨rt,h⟩:=FX p id region s hc fu cT h1 h2;exact Zk h (Wk.sl _ _)
end
