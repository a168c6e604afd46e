import Derived.Test.YthjppoincojfkaaGreatDoorRAMK
import Derived.Test.YthjppoincojfkaaGreatDoorRAMJ
set_option linter.all false
set_option maxRecDepth 100000
set_option maxHeartbeats 64000000
namespace Go.Proofs.YthjppoincojfkaaGreatDoor
noncomputable section
open Go Go.Abs
def pH(nu de f:Int): -1<=Yo nu de f/\Yo nu de f<=100000000:=by
 unfold Yo;split
 ·rename_i h;obtain⟨h1,h2,h3⟩:=h;obtain⟨b1,b2,b3,b4,b5⟩:=Jy h1;have q0:0<=f*de:=zzeb h2 zE;have q1:f*de<=f*nu:=zzfr zE h2;have q2:0<=(f*de).tdiv nu:=Int.tdiv_nonneg q0 zE
  have q3:(f*de).tdiv nu<=f:=by
   rw[zzcj q0];exact Int.ediv_le_of_le_mul zE q1
  omega
 omega
def sN(p:Pl)(f:Int)(ht:0<=p.ep/\p.ep<=9000000000):Pure Tryz.prog aD 82 [.agg (Qa p),I f] (I (p.ep+Yo p.nu p.de f)):=by
 have h:=QC p.nu p.de f;have hb:=pH p.nu p.de f;have hw:IntKind.i64.wrap (p.ep+Yo p.nu p.de f)=p.ep+Yo p.nu p.de f:=by rw[Ql]<;>omega
 refine Qo aki (fun _ f' l=>if f'=134 then I (Yo p.nu p.de f)else .junk) zd ?_;simp[aoV,Qa,aoW,hw];exact h
def xD(p:Pl)(n:Int)(hn: -1000000000000<=n-p.ep/\n-p.ep<=1000000000000)(Y:YT)(m:AM)(b:Nat)(hb:b<m.boxes.length)(hr:Qj m.boxes b=Qa p)(K:So)(hK:K (I (xE p.nu p.de (n-p.ep))) m):
  aB Tryz.prog aD Y 85 [I n,.ptr b 0] m K:=by
 have h:=A9 p.nu p.de (n-p.ep);have hw:IntKind.i64.wrap (n-p.ep)=n-p.ep:=by rw[Ql]<;>omega
 refine Xn akm (fun _ f' l=>if f'=86 then I (xE p.nu p.de (n-p.ep))else .junk) zd ?_;simp[ao0,hr,Qa,ao1,hw,hb];exact⟨h,hK⟩
def lN(p:Pl)(x:It)(region:Int)(s:Sp):List (List Sp):=Qcq p.cls x.id region::(uL p.cls x.ra).map fun w=>iu p.of p.sh s w.1 w.2
def F1(l:List Sp):P2:=[.sl .ro (l.map Qe)]
def F2(p:Pl)(x:It)(region:Int)(s:Sp):Pure Tryz.prog aD 83 [.agg (Qa p),.agg (Qm x),I region,.agg [I s.1,I s.2]] (.fn 135 [] [.ep (Qa p) 0,.ep (Qm x) 0,.ep [I region] 0,.ep [I s.1,I s.2] 0]):=by
 refine Qo akj (fun _ _ _=>.junk) zd ?_;simp[aoX,aoY,Qa,Qm]
def F3(p:Pl)(x:It)(region:Int)(s:Sp)(hc:p.cls.length<=1000000)(fB:p.sh.length<=1000000000)(h1: -9223372036854775808<=s.1/\s.1<=9223372036854775807)(h2: -9223372036854775808<=s.2/\s.2<=9223372036854775807):
  Iter Tryz.prog aD 135 [] [.ep (Qa p) 0,.ep (Qm x) 0,.ep [I region] 0,.ep [I s.1,I s.2] 0] ((lN p x region s).map F1):=by
 intro Y l m K hF;have asp:=KD p.cls x.id region hc;have asq:=tY p.cls x.ra zE
 have hwl:(uL p.cls x.ra).length<=1000000:=by
  unfold uL;rw[zzbt];exact zzba (zzca _ _) hc
 refine Xn abZ (fun d f' l=>if f'=136 then .sl .ro ((Qcq p.cls x.id region).map Qe)else if f'=137 then .sl .ro ((uL p.cls x.ra).map Qe)else
  if f'=138 then(match l with|[_,_,.int _ a,.int _ b]=>.sl .ro ((iu p.of p.sh s a b).map Qe)|_=>.junk)else .junk) zd ?_
 unfold lN at hF;generalize hS:Qcq p.cls x.id region=S at hF asp;generalize hW:uL p.cls x.ra=W at hF asq hwl;simp only[zzaz,F1]at hF;simp[Ty,Qa,Qm,hS,hW];refine⟨asp,?_⟩;refine hF _ (fF.refl _) _ (fun m2 A0=>?_) (fun m2 hK=>?_)
 ·rw[zzcu]at A0;simp[hW];refine⟨asq,?_⟩;refine Qk IX (fun f mm=>∃i:Nat,f 23=I i/\i<=W.length/\wR (Y l) K ((W.drop i).map (F1 ∘ fun w=>iu p.of p.sh s w.1 w.2)) mm) (fun f _=>W.length-(numOf (f 23)).toNat) ?_ ?_
  ·exact⟨0,zd,zE,Nm A0⟩
  rintro f mm ⟨i,h23,hi,hF3⟩;rcases zzaa i W.length with ai|bn
  ·obtain⟨w,hw⟩:=aV ai;have zQ:=Zx hw;have aa:(i:Int)<(W.length:Int):=zE
   have ru:=bO i zE;have hd:W.drop i=w::W.drop (i+1):=by rw[zzag ai,(zza.1 hw).2]
   rw[hd,zzaz]at hF3;simp only[Function.comp_apply,F1]at hF3;have axc:=zT p.of p.sh s w.1 w.2 fB h1 h2
   have iI:∀x,Qj (mm.boxes++[x]) mm.boxes.length=x:=fun x=>by
    simp
   simp[h23,IX,ai,aa,zQ,iI];refine⟨axc,?_⟩;refine hF3 _ (fF.box mm [[I w.1,I w.2]]) _ (fun m3 hF4=>?_) (fun m3 hK=>?_)
   ·simp[ru];refine⟨aQ,⟨i+1,zE,zE,by rw[<- zzgc];exact hF4⟩,zE⟩
   simp[MK];exact hK _ (fF.refl _)
  obtain rfl:i=W.length:=zE
  rw[zzbv,zzcv]at hF3;simp[h23,IX,MK];exact hF3 _ (fF.refl _)
 simp[MK];exact hK _ (fF.refl _)
open Go Go.Abs
def al2:SC:=(⟨_,by cbv⟩:JY [1,1,1,1,1,1,1,1,1,1,1,1,0,1] SM).1
def C8:SC->SC:=(⟨_,fun _=>by cbv⟩:Fm [1,1,1,1,1,1,1,1,1,1,1,1,0,1] SM).1
theorem pI:SM=C8 al2:=rfl
def uM(p:Pl)(w:Sp):Sp:=(xE p.nu p.de (w.1-p.ep),xE p.nu p.de (w.2-p.ep))
def Ba(Y:YT)(p:Pl)(orc:UV)(ho:∀d l,orc d 74 l=.gd false .junk)(ho9:∀d l,orc d 999999 l=.junk)(E:QQ)(m:AM)(U:List Sp)(rt:Rt)(Q:R0)
  (h85:Abs.look E 85=.sl rt (U.map Qe))(h86:Abs.look E 86=I U.length)(h87:Abs.look E 87=I 0)(tZ:Abs.look E 14=.fn 85 [] [.ptr 0 0])(sO:Abs.look E 15=.sl .nil [])
  (h0:0<m.boxes.length)(hr:Qj m.boxes 0=Qa p)(hU:U.length<=10000000)(hUb:∀w∈U,(-1000000000000<=w.1-p.ep/\w.1-p.ep<=1000000000000)/\(-1000000000000<=w.2-p.ep/\w.2-p.ep<=1000000000000))
  (hQ:∀E' bx Lm za,fP Ei E' E->Abs.look E' 15=.sl za ((U.map (uM p)).map Qe)->(za=.nil/\U=[]\/U≠[]/\∃k,za=.own k 2)->Q .normal ⟨Vy 108 E',⟨m.boxes++bx,Lm,m.st,m.ln⟩⟩):
  vc Tryz.prog aD orc Y al2 ⟨Vy 108 E,m⟩ Q:=by
 simp[al2];refine Qk Ei (fun f mm=>∃(i:Nat)(bx:T5)(Lm:Pa)(za:Rt),f 87=I i/\i<=U.length/\mm=⟨m.boxes++bx,Lm,m.st,m.ln⟩/\f 15=.sl za ((U.map (Qe ∘ uM p)).take i)/\(i=0/\za=.nil\/i≠0/\∃k,za=.own k 2/\Lm[k]?=some i)) (fun f _=>U.length-(numOf (f 87)).toNat) ?_ ?_
 ·exact⟨0,[],m.lens,.nil,by simp[h87],zE,zd,by simp[sO],.inl ⟨rfl,rfl⟩⟩
 rintro f mm ⟨i,bx,Lm,za,h87',hi,rfl,h15',aX⟩;rcases zzaa i U.length with ai|bn
 ·obtain⟨w,hw⟩:=aV ai;have zQ:=Zx hw;obtain⟨c1,c2⟩:=hUb w (zzae hw);have aa:(i:Int)<(U.length:Int):=zE
  have ru:=bO i zE;have lJ:IntKind.i64.wrap 1=1:=by rw[Ql]<;>omega
  have bA:U.take (i+1)=U.take i++[w]:=by rw[zzax,hw];rfl
  have lZ:(U.take i).length=i:=by rw[zzaq];omega
  have A4:∀x,Qj (m.boxes++(bx++[x])) (m.boxes.length+bx.length)=x:=fun x=>by
   simp
  have Cu:∀x,Qj (m.boxes++x) 0=Qa p:=fun x=>by rw[Qn h0];exact hr
  have e1:=fun m' h1 h2 K hK=>xD p w.1 c1 Y m' 0 h1 h2 K hK;have e2:=fun m' h1 h2 K hK=>xD p w.2 c2 Y m' 0 h1 h2 K hK;have hG:(U.map (Qe ∘ uM p)).take (i+1)=(U.map (Qe ∘ uM p)).take i++[[I (xE p.nu p.de (w.1-p.ep)),I (xE p.nu p.de (w.2-p.ep))]]:=by rw[zzax,zzbm,hw];rfl
  have hGl:((U.map (Qe ∘ uM p)).take i).length=i:=by rw[zzaq,zzbt];omega
  have hG2:∀row∈(U.map (Qe ∘ uM p)).take i,row.length=2:=by
   intro row h;obtain⟨a,_,rfl⟩:=zzbg.1 (zzcc h);rfl
  generalize hGG:(U.map (Qe ∘ uM p)).take i=G at*
  obtain⟨rfl,rfl⟩|⟨aO,k,rfl,hk⟩:=aX
  ·simp[h87',h85,h86,tZ,h15',Ei,ai,aa,zQ,A4,ho,ho9];refine Qbk [(I (xE p.nu p.de (w.1-p.ep)),⟨m.boxes++(bx++[[I w.1,I w.2]]),Lm,m.st,m.ln⟩),(I (xE p.nu p.de (w.2-p.ep)),⟨m.boxes++(bx++[[I w.1,I w.2]]),Lm,m.st,m.ln⟩)] ?_;simp[h87',h85,h86,tZ,h15',ai,aa,zQ,A4,ho,ho9,ru,lJ];refine⟨e1 _ (by simp;omega) (Cu _) _ ⟨rfl,rfl⟩,e2 _ (by simp;omega) (Cu _) _ ⟨rfl,rfl⟩,⟨by rintro row (h|rfl);exact hG2 row h;rfl,zE⟩,ag ?_,?_,zE⟩
   ·repeat(first|exact Qb _ _|refine Qc _ rfl ?_)
   exact⟨1,rfl,zE,_,_,⟨rfl,rfl⟩,_,⟨rfl,hG.symm⟩,.inr ⟨zE,Lm.length,rfl,by simp[hGl]⟩⟩
  simp[h87',h85,h86,tZ,h15',Ei,ai,aa,zQ,A4,ho,ho9];refine Qbk [(I (xE p.nu p.de (w.1-p.ep)),⟨m.boxes++(bx++[[I w.1,I w.2]]),Lm,m.st,m.ln⟩),(I (xE p.nu p.de (w.2-p.ep)),⟨m.boxes++(bx++[[I w.1,I w.2]]),Lm,m.st,m.ln⟩)] ?_;simp[h87',h85,h86,tZ,h15',ai,aa,zQ,A4,ho,ho9,ru,hk];refine⟨e1 _ (by simp;omega) (Cu _) _ ⟨rfl,rfl⟩,e2 _ (by simp;omega) (Cu _) _ ⟨rfl,rfl⟩,⟨hGl.symm,by rintro row (h|rfl);exact hG2 row h;rfl,zE⟩,ag ?_,?_,zE⟩
  ·repeat(first|exact Qb _ _|refine Qc _ rfl ?_)
  exact⟨i+1,zE,zE,_,_,⟨rfl,rfl⟩,_,⟨rfl,hG.symm⟩,.inr ⟨zE,k,rfl,by simp[hGl,(zza.1 hk).1]⟩⟩
 obtain rfl:i=U.length:=zE
 rw[zzau zd]at h15';simp[h87',h86,Ei];refine hQ _ bx Lm za ?_ ?_ ?_
 ·repeat(first|exact Qb _ _|refine Qc _ rfl ?_)
 ·simp[h15']
 obtain⟨h1,h2⟩|⟨h1,k,h2,h3⟩:=aX
 ·exact .inl ⟨h2,zzbz.1 h1⟩
 exact .inr ⟨fun h=>h1 (by rw[h];rfl),k,h2⟩
open Go Go.Abs
def KJ:∀(l:List Sp)(lo hi:Int),VS l->(∀w∈l,lo<=w.1/\w.2<=hi)->(l.length:Int)<=max 0 (hi-lo)
 |[],lo,hi,_,_=>by simp only[zzco];omega
 |s::l,lo,hi,h,hb=>by
  obtain⟨h1,h2,h3⟩:=cW.1 h;have:=KJ l (s.2+1) hi h3 (fun w hw=>⟨by have:=h2 w hw;omega,(hb w (by simp[hw])).2⟩);have b:=hb s zd;simp only[zzbd];omega
def Sl(lo hi:Int)(l:List Sp):Prop:=∀w∈l,lo<=w.1/\w.1<=hi/\lo<=w.2/\w.2<=hi
def uN{lo hi:Int}{a b:List Sp}(h:Sl lo hi a):Sl lo hi (zU a b):=by
 obtain⟨⟨h1,_⟩,h2⟩:=kR a b;intro w hw;have ai:=h1 w hw;obtain⟨s,hs,s1,s2⟩:=((h2 w.1).1 ⟨w,hw,zE,ai⟩).1;obtain⟨t,ht,t1,t2⟩:=((h2 (w.2-1)).1 ⟨w,hw,zE,zE⟩).1;have:=h s hs;have:=h t ht;omega
def XP{lo hi:Int}{a b:List Sp}(h:Sl lo hi a):((zU a b).length:Int)<=max 0 (hi-lo):=
 KJ _ _ _ (kR a b).1 (fun w hw=>⟨(uN h w hw).1,(uN h w hw).2.2.2⟩)
def kS{nu de f g:Int}(hv:Vh nu de=true)(h0:0<=f)(hfg:f<=g)(hg:g<=100000000):Yo nu de f<=Yo nu de g/\Yo nu de g<=Yo nu de f+(g-f):=by
 obtain⟨b1,b2,b3,b4,b5⟩:=Jy hv;rw[Yo,Yo,if_pos ⟨hv,h0,zE⟩,if_pos ⟨hv,zE,hg⟩];have q0:0<=f*de:=zzeb h0 zE;have q1:0<=g*de:=zzeb zE zE;rw[zzcj q0,zzcj q1];have m1:f*de<=g*de:=Int.mul_le_mul_of_nonneg_right hfg zE;have m2:(g-f)*de<=(g-f)*nu:=zzfr zE zE
 have m3:g*de<=f*de+(g-f)*nu:=by
  have:g*de=f*de+(g-f)*de:=by rw[<- Int.add_mul];congr 1;omega
  omega
 constructor
 ·exact Int.ediv_le_ediv zE m1
 have:=Int.ediv_le_ediv (c:=nu) zE m3;rw[Int.add_mul_ediv_right _ _ zE]at this;exact this
def QD(s:Sp):Sp:=(max s.1 0,min s.2 100000001)
def uS(p:Pl)(c:Sp):Sp:=(p.ep+Yo p.nu p.de c.1,p.ep+Yo p.nu p.de (c.2-1)+1)
def iw(p:Pl)(x:It)(region:Int)(u:Sp)(i:Nat):List Sp:=((lN p x region u).take i).foldl zU [u]
def Vw(p:Pl)(id region:Int)(s:Sp):List Sp:=
 let c:=QD s
 match Xk id p.aN with
 |none=>[]
 |some x=>if region<0\/8<=region\/c.2<=c.1\/1000000<c.2-c.1 then[]else if x.ki=5 then[c]else if Ki p=false then[]else
  zU ((iw p x region (uS p c) (lN p x region (uS p c)).length).map (uM p)) [c]
def ry:P2->Sp
 |[.int _ a,.int _ b]=>(a,b)
 |_=>(0,0)
@[simp] def aej(l:List Sp):(l.map Qe).map ry=l:=by
 induction l with
 |nil=>rfl
 |cons a l ih=>simp only[zzaz,ih];rfl
@[simp] def asr(l:List Sp):l.map (ry ∘ Qe)=l:=by rw[<- zzcu];exact aej l
@[simp] theorem ass(a b:Int):ry [I a,I b]=(a,b):=rfl
def zV(p:Pl)(id region:Int)(s:Sp):UV:=fun d f l=>
 if f=999999 then .junk else
 if f=80 then Zq (Xk id p.aN)else
 if f=81 then .bool (Ki p)else
 if f=82 then(match l with|[_,.int _ n]=>I (p.ep+Yo p.nu p.de n)|_=>.junk)else
 if f=83 then(match l with|[_,.agg x,_,.agg u]=>.fn 135 [] [.ep (Qa p) 0,.ep x 0,.ep [I region] 0,.ep u 0]|_=>.junk)else
 if f=84 then(match l with|[.sl _ A,.sl _ B]=>.sl .ro ((zU (A.map ry) (B.map ry)).map Qe)|_=>.junk)else .gd false .junk
def KK(cs:List Cl)(item region:Int)(h:cs.length<=1000000):(Qcq cs item region).length<=2000000:=by
 have h1:=Yy (nG (dJ (Wm cs item region)) (xd (Wm cs item region)) (dJ (Wm cs item region)).length);have h2:=xg (dJ (Wm cs item region)) (xd (Wm cs item region)) (dJ (Wm cs item region)).length;have h3:=NR (Wm cs item region);have h4:(Wm cs item region).length<=cs.length:=zzca _ _;unfold Qcq;omega
def XQ(p:Pl)(x:It)(region:Int)(u:Sp)(h:p.cls.length<=1000000):∀l∈lN p x region u,l.length<=2000000:=by
 intro l hl;rw[lN,zzao,zzbg]at hl;obtain rfl|⟨w,_,rfl⟩:=hl
 ·exact KK _ _ _ h
 have:=XO p.of p.sh u w.1 w.2;omega
def C9{lo hi:Int}:∀(ls:List (List Sp))(a:List Sp),Sl lo hi a->Sl lo hi (ls.foldl zU a)
 |[],a,h=>h
 |l::r,a,h=>C9 r _ (uN h)
def Bb{lo hi:Int}:∀(ls:List (List Sp))(a:List Sp),Sl lo hi a->(a.length:Int)<=max 1 (hi-lo)->((ls.foldl zU a).length:Int)<=max 1 (hi-lo)
 |[],a,_,h=>h
 |l::r,a,h,hl=>Bb r _ (uN h) (by have:=XP (b:=l) h;omega)
def F4(p:Pl)(id region:Int)(s:Sp)(hc:p.cls.length<=1000000)(fB:p.sh.length<=1000000000)(cU:p.aN.length<=1000000000)(h1: -9223372036854775808<=s.1/\s.1<=9223372036854775807)(h2: -9223372036854775808<=s.2/\s.2<=9223372036854775807):
  ∃rt,Pure Tryz.prog aD 40 [.agg (Qa p),I id,I region,.agg [I s.1,I s.2]] (.sl rt ((Vw p id region s).map Qe)):=by
 have sP:=kT p id cU;have k70:=KL p fB;obtain⟨c,hcS⟩:∃c,QD s=c:=⟨_,rfl⟩;have hcb:0<=c.1/\c.2<=100000001/\c.1<=9223372036854775807/\ -9223372036854775808<=c.2:=by rw[<- hcS,QD];simp only;omega
 have hmx:max s.1 0=c.1:=by rw[<- hcS];rfl
 have hmn:min s.2 100000001=c.2:=by rw[<- hcS];rfl
 have F5:(if s.1<0 then 0 else s.1)=c.1:=zE
 have F6:(if 100000001<s.2 then 100000001 else s.2)=c.2:=zE
 cases hfx:Xk id p.aN with
 |none=>
  have hP:Vw p id region s=[]:=by simp[Vw,hfx]
  rw[hP];refine⟨.nil,Qo vk (zV p id region s) zd ?_⟩;rw[pI];simp[C8,Qa,zV,hfx,Zq,tH,F5,F6];simpa[hfx,Zq,Qa]using sP
 |some x=>
  rw[hfx]at sP;by_cases hb:region<0\/8<=region\/c.2<=c.1\/1000000<c.2-c.1
  ·have hP:Vw p id region s=[]:=by simp only[Vw,hfx,hcS,if_pos hb]
   rw[hP];refine⟨.nil,Qo vk (zV p id region s) zd ?_⟩;have KM:Abs.Pure Tryz.prog aD 80 [.agg (Qa p),I id] (.aS [.agg (Qm x),.bool true]):=sP;rw[pI];by_cases b1:region<0
   ·simp[C8,Qa,zV,hfx,Zq,Qm,tH,F5,F6,b1,Qe];exact KM
   by_cases b2:8<=region
   ·simp[C8,Qa,zV,hfx,Zq,Qm,tH,F5,F6,b1,b2,Qe];exact KM
   by_cases b3:c.2<=c.1
   ·simp[C8,Qa,zV,hfx,Zq,Qm,tH,F5,F6,b1,b2,b3,Qe];exact KM
   have b4:1000000<c.2-c.1:=zE
   have hw:IntKind.i64.wrap (c.2-c.1)=c.2-c.1:=by rw[Ql]<;>omega
   simp[C8,Qa,zV,hfx,Zq,Qm,tH,F5,F6,b1,b2,b3,b4,hw,Qe];exact KM
  simp only[not_or]at hb;obtain⟨b1,b2,b3,b4⟩:=hb;have hw:IntKind.i64.wrap (c.2-c.1)=c.2-c.1:=by rw[Ql]<;>omega
  by_cases hk:x.ki=5
  ·have hP:Vw p id region s=[c]:=by simp only[Vw,hfx,hcS,if_neg (show¬(region<0\/8<=region\/c.2<=c.1\/1000000<c.2-c.1) by omega),if_pos hk]
   rw[hP];refine⟨.full,Qo vk (zV p id region s) zd ?_⟩;rw[pI];simp[C8,Qa,zV,hfx,Zq,Qm,tH,F5,F6,b1,b2,b3,b4,hw,hk,Qe];rw[Zq,Qm,hk]at sP;exact sP
  have axd:=pH p.nu p.de c.1;have avD:=pH p.nu p.de (c.2-1);have lJ:IntKind.i64.wrap (c.2-1)=c.2-1:=by rw[Ql]<;>omega
  have KM:Abs.Pure Tryz.prog aD 80 [.agg (Qa p),I id] (.aS [.agg (Qm x),.bool true]):=sP;by_cases ht:Ki p=true
  ·have hte:Vh p.nu p.de=true/\0<=p.ep/\p.ep<=9000000000:=by
    simp only[Ki,zzac,decide_eq_true_eq]at ht;exact⟨ht.1.1,ht.2⟩
   have fW:IntKind.i64.wrap (p.ep+Yo p.nu p.de (c.2-1)+1)=p.ep+Yo p.nu p.de (c.2-1)+1:=by rw[Ql]<;>omega
   have Sm:IntKind.i64.wrap (p.ep+Yo p.nu p.de c.1)=p.ep+Yo p.nu p.de c.1:=by rw[Ql]<;>omega
   have ast:=k70;rw[ht]at ast;have k71:=sN p c.1 hte.2;have axe:=sN p (c.2-1) hte.2;obtain⟨u,hu⟩:∃u,uS p c=u:=⟨_,rfl⟩;have hu1:p.ep+Yo p.nu p.de c.1=u.1:=by rw[<- hu];rfl
   have JG:p.ep+Yo p.nu p.de (c.2-1)+1=u.2:=by rw[<- hu];rfl
   have hu3:IntKind.i64.wrap u.2=u.2:=by rw[<- JG];exact fW
   have hdf:=kS (f:=c.1) (g:=c.2-1) hte.1 zE zE zE;have k72:=F2 p x region u
   have hP:Vw p id region s=zU ((iw p x region u (lN p x region u).length).map (uM p)) [c]:=by
    simp only[Vw,hfx,hcS,hu,if_neg (show¬(region<0\/8<=region\/c.2<=c.1\/1000000<c.2-c.1) by omega),if_neg hk,ht];simp
   rw[hP];refine⟨.ro,Qo vk (zV p id region s) zd ?_⟩;rw[pI];simp[C8,Qa,zV,hfx,Zq,Qm,F5,F6,b1,b2,b3,b4,hw,hk,Qe,ht,lJ,fW,hu1,JG,hu3];rw[hu1]at k71;refine⟨KM,ast,k71,axe,k72,?_⟩;have hub: -9223372036854775808<=u.1/\u.1<=9223372036854775807/\ -9223372036854775808<=u.2/\u.2<=9223372036854775807:=zE
   have hLi:=F3 p x region u hc fB ⟨hub.1,hub.2.1⟩ hub.2.2;have hLl:=XQ p x region u hc;have asu:Sl u.1 u.2 [u]:=by intro w hw;simp at hw;subst hw;omega
   have axf:∀i,Sl u.1 u.2 (iw p x region u i):=fun i=>C9 _ _ asu
   have qu:∀i,(iw p x region u i).length<=2000000:=fun i=>by
    have:=Bb ((lN p x region u).take i) [u] asu (by simp;omega);unfold iw;omega
   have fC:∀i l,(lN p x region u)[i]?=some l->iw p x region u (i+1)=zU (iw p x region u i) l:=fun i l h=>by
    unfold iw;rw[zzax,h,zzgh];rfl
   have hc0:iw p x region u 0=[u]:=by simp[iw]
   have hps:∀y,uM p y=uM p y:=fun _=>rfl;generalize hXs:lN p x region u=Xs at*
   refine jk (xs:=Xs.map F1) (by simp;exact⟨rfl,rfl⟩) hLi (by intro y hy;simp[F1]at hy;obtain⟨a,_,rfl⟩:=hy;rfl)
    (fun i m=>∃(bx:T5)(rt:Rt),m.boxes=Qa p::[I c.1,I c.2]::Qm x::[I u.1,I u.2]::[.sl rt ((iw p x region u i).map Qe)]::bx/\(rt=.full\/rt=.ro)) (fun _ _=>False) ?_ ?_ (fun _ _ _ h=>h.elim) ?_ ?_ (fun _ _ h=>h.elim)
   ·refine⟨[],.full,?_,.inl rfl⟩;rw[hc0];rfl
   ·rintro i m m' ⟨bx,rt,hb,aX⟩ ⟨⟨b2,e1⟩,_,_⟩;exact⟨bx++b2,rt,by rw[e1,hb];rfl,aX⟩
   ·rintro l i m y hg hr ⟨bx,rt,hb,aX⟩ hy K' q1 _ _;rw[zzbm,zzby]at hy;obtain⟨y,hy,rfl⟩:=hy;rw[Jm]at hb;have hyl:=hLl y (zzae hy);have k73:=jJ (iw p x region u i) y (by have:=qu i;omega) zE;have hn:=fC i y hy;generalize iw p x region u i=C at*
    obtain rfl|rfl:=aX
    ·have axg:=Xp (l:=[.sl .full (C.map Qe),.sl .ro (y.map Qe)]) k73 ⟨Wk.sl _ _,Ps,trivial⟩;simp[hr,Zr,F1,hb,zV];refine⟨axg,q1 _ ⟨bx,.ro,?_,.inr rfl⟩⟩;simp[hb,hn]
    simp[hr,Zr,F1,hb,zV];refine⟨k73,q1 _ ⟨bx,.ro,?_,.inr rfl⟩⟩;simp[hb,hn]
   rintro m ⟨bx,rt,hb,aX⟩;have hcU:=qu Xs.length;have hcI:=axf Xs.length;rw[zzbt]at hb;generalize iw p x region u Xs.length=C at*
   have k73:=jJ (C.map (uM p)) [c] (by simp;omega) zd;have ef:∀w∈C,(-1000000000000<=w.1-p.ep/\w.1-p.ep<=1000000000000)/\(-1000000000000<=w.2-p.ep/\w.2-p.ep<=1000000000000):=fun w hw=>by have:=hcI w hw;omega
   have leaf:∀rt,Abs.Pure Tryz.prog aD 84 [.sl rt (C.map (Qe ∘ uM p)),.sl .full [[I c.1,I c.2]]] (.sl .ro ((zU (C.map (ry ∘ Qe ∘ uM p)) [(c.1,c.2)]).map Qe))/\(zU (C.map (ry ∘ Qe ∘ uM p)) [(c.1,c.2)]).map Qe=(zU (C.map (uM p)) [c]).map Qe:=by
    have e1:C.map (ry ∘ Qe ∘ uM p)=C.map (uM p):=zzct fun _ _=>rfl;intro rt;rw[e1];refine⟨?_,rfl⟩;have:=Xp (l:=[.sl rt ((C.map (uM p)).map Qe),.sl .full ([c].map Qe)]) k73 ⟨Wk.sl _ _,Wk.sl _ _,trivial⟩;rw[zzcu]at this;exact this
   obtain rfl|rfl:=aX
   ·simp[hb];refine Ba Y0 p (zV p id region s) (fun _ _=>rfl) (fun _ _=>rfl) _ _ C .full _ zd zd zd zd zd (by simp[hb]) (by simp[hb]) zE ef ?_;intro E' bx' Lm za hA sO XR;have h7:Abs.look E' 7=.ptr 1 0:=by rw[hA 7 (by decide)];simp
    obtain⟨rfl,hC⟩|⟨hC,k,rfl⟩:=XR
    ·simp[h7,sO,hb,zV,tH];exact leaf _
    simp[h7,sO,hb,zV,tH];exact leaf _
   simp[hb];refine Ba Y0 p (zV p id region s) (fun _ _=>rfl) (fun _ _=>rfl) _ _ C .ro _ zd zd zd zd zd (by simp[hb]) (by simp[hb]) zE ef ?_;intro E' bx' Lm za hA sO XR;have h7:Abs.look E' 7=.ptr 1 0:=by rw[hA 7 (by decide)];simp
   obtain⟨rfl,hC⟩|⟨hC,k,rfl⟩:=XR
   ·simp[h7,sO,hb,zV,tH];exact leaf _
   simp[h7,sO,hb,zV,tH];exact leaf _
  have XS:Ki p=false:=by simpa using ht
  rw[XS]at k70;have hP:Vw p id region s=[]:=by simp only[Vw,hfx,hcS,if_neg (show¬(region<0\/8<=region\/c.2<=c.1\/1000000<c.2-c.1) by omega),if_neg hk,if_pos XS]
  rw[hP];refine⟨.nil,Qo vk (zV p id region s) zd ?_⟩;rw[pI];simp[C8,Qa,zV,hfx,Zq,Qm,tH,F5,F6,b1,b2,b3,b4,hw,hk,Qe,XS];exact⟨KM,k70⟩
def nM(p:Pl)(id region:Int)(s:Sp)(hc:p.cls.length<=1000000)(fB:p.sh.length<=1000000000)(cU:p.aN.length<=1000000000)(h1: -9223372036854775808<=s.1/\s.1<=9223372036854775807)(h2: -9223372036854775808<=s.2/\s.2<=9223372036854775807):
  Pure Tryz.prog aD 40 [.agg (Qa p),I id,I region,.agg [I s.1,I s.2]] (.sl .ro ((Vw p id region s).map Qe)):=by
 obtain⟨rt,h⟩:=F4 p id region s hc fB cU h1 h2;exact Zl h (Wk.sl _ _)
end
