import Derived.Test.YtnopaopphmjnmaaGreatDoorMEMK
import Derived.Test.YtnopaopphmjnmaaGreatDoorMEMJ
set_option linter.all false
set_option maxRecDepth 100000
set_option maxHeartbeats 64000000
namespace Go.Proofs.YtnopaopphmjnmaaGreatDoor
noncomputable section
open Go Go.Abs
def pF(nu de f:Int): -1<=Yr nu de f/\Yr nu de f<=100000000:=by
 unfold Yr;split
 ·rename_i h;obtain⟨h1,h2,h3⟩:=h;obtain⟨b1,b2,b3,b4,b5⟩:=Jy h1;have q0:0<=f*de:=zzec h2 (by omega);have q1:f*de<=f*nu:=zzfv (by omega) h2;have q2:0<=(f*de).tdiv nu:=Int.tdiv_nonneg q0 (by omega)
  have q3:(f*de).tdiv nu<=f:=by
   rw[zzcm q0];exact Int.ediv_le_of_le_mul (by omega) q1
  omega
 omega
def sI(p:Pl)(f:Int)(ht:0<=p.ep/\p.ep<=9000000000):Pure Tryz.prog az 115 [.agg (Qc p),I f] (I (p.ep+Yr p.nu p.de f)):=by
 have h:=Rj p.nu p.de f;have hb:=pF p.nu p.de f;have hw:IntKind.i64.wrap (p.ep+Yr p.nu p.de f)=p.ep+Yr p.nu p.de f:=by rw[Qk]<;>omega
 refine Qn acp (fun _ f' l=>if f'=185 then I (Yr p.nu p.de f)else .junk) (by simp) ?_;simp[ahi,Qc,ahj,hw];exact h
def xz(p:Pl)(n:Int)(hn: -1000000000000<=n-p.ep/\n-p.ep<=1000000000000)(Y:YT)(m:AM)(b:Nat)(hb:b<m.boxes.length)(hr:Qh m.boxes b=Qc p)(K:AV->AM->Prop)(hK:K (I (xA p.nu p.de (n-p.ep))) m):
  an Tryz.prog az Y 118 [I n,.ptr b 0] m K:=by
 have h:=A5 p.nu p.de (n-p.ep);have hw:IntKind.i64.wrap (n-p.ep)=n-p.ep:=by rw[Qk]<;>omega
 refine Xe acs (fun _ f' l=>if f'=119 then I (xA p.nu p.de (n-p.ep))else .junk) (by simp) ?_;simp[ahn,hr,Qc,aho,hw,hb];exact⟨h,hK⟩
def mh(p:Pl)(x:It)(region:Int)(s:Sp):List (List Sp):=Qct p.cls x.id region::(uK p.cls x.ra).map fun w=>iE p.of p.sh s w.1 w.2
def F0(l:List Sp):List AV:=[.sl .ro (l.map Qe)]
def F1(p:Pl)(x:It)(region:Int)(s:Sp):Pure Tryz.prog az 116 [.agg (Qc p),.agg (Qm x),I region,.agg [I s.1,I s.2]] (.fn 186 [] [.ep (Qc p) 0,.ep (Qm x) 0,.ep [I region] 0,.ep [I s.1,I s.2] 0]):=by
 refine Qn acq (fun _ _ _=>.junk) (by simp) ?_;simp[ahk,ahl,Qc,Qm]
def F3(p:Pl)(x:It)(region:Int)(s:Sp)(hc:p.cls.length<=1000000)(gO:p.sh.length<=1000000000)(h1: -9223372036854775808<=s.1/\s.1<=9223372036854775807)(h2: -9223372036854775808<=s.2/\s.2<=9223372036854775807):
  Iter Tryz.prog az 186 [] [.ep (Qc p) 0,.ep (Qm x) 0,.ep [I region] 0,.ep [I s.1,I s.2] 0] ((mh p x region s).map F0):=by
 intro Y l m K hF;have asj:=K1 p.cls x.id region hc;have asl:=ud p.cls x.ra (by omega)
 have hwl:(uK p.cls x.ra).length<=1000000:=by
  unfold uK;rw[zzbf];exact zzbn (zzbr _ _) hc
 refine Xe ac4 (fun d f' l=>if f'=187 then .sl .ro ((Qct p.cls x.id region).map Qe)else if f'=188 then .sl .ro ((uK p.cls x.ra).map Qe)else
  if f'=189 then(match l with|[_,_,.int _ a,.int _ b]=>.sl .ro ((iE p.of p.sh s a b).map Qe)|_=>.junk)else .junk) (by simp) ?_
 unfold mh at hF;generalize hS:Qct p.cls x.id region=S at hF asj;generalize hW:uK p.cls x.ra=W at hF asl hwl;simp only[zzay,F0]at hF;simp[UL,Qc,Qm,hS,hW];refine⟨asj,?_⟩;refine hF _ (fM.refl _) _ (fun m2 qx=>?_) (fun m2 hK=>?_)
 ·rw[zzcz]at qx;simp[hW];refine⟨asl,?_⟩;refine Qj JO (fun f mm=>∃i:Nat,f 23=I i/\i<=W.length/\wP (Y l) K ((W.drop i).map (F0 ∘ fun w=>iE p.of p.sh s w.1 w.2)) mm) (fun f _=>W.length-(numOf (f 23)).toNat) ?_ ?_
  ·exact⟨0,by simp,by omega,by simpa using qx⟩
  rintro f mm ⟨i,h23,hi,hF3⟩;rcases zzaa i W.length with ai|bu
  ·obtain⟨w,hw⟩:=aR ai;have sG:=Zc hw;have aa:(i:Int)<(W.length:Int):=by omega
   have pG:=bK i (by omega);have hd:W.drop i=w::W.drop (i+1):=by rw[zzaf ai,(zza.1 hw).2]
   rw[hd,zzay]at hF3;simp only[Function.comp_apply,F0]at hF3;have awQ:=zJ p.of p.sh s w.1 w.2 gO h1 h2
   have fI:∀x,Qh (mm.boxes++[x]) mm.boxes.length=x:=fun x=>by
    simp
   simp[h23,JO,ai,aa,sG,fI];refine⟨awQ,?_⟩;refine hF3 _ (fM.box mm [[I w.1,I w.2]]) _ (fun m3 hF4=>?_) (fun m3 hK=>?_)
   ·simp[pG];refine⟨aO,⟨i+1,by omega,by omega,by rw[<- zzgf];exact hF4⟩,by omega⟩
   simp[Nz];exact hK _ (fM.refl _)
  obtain rfl:i=W.length:=by omega
  rw[zzbo,zzcg]at hF3;simp[h23,JO,Nz];exact hF3 _ (fM.refl _)
 simp[Nz];exact hK _ (fM.refl _)
open Go Go.Abs
def amN:SC:=(⟨_,by cbv⟩:tW [1,1,1,1,1,1,1,1,1,1,1,1,0,1] TI).1
def C6:SC->SC:=(⟨_,fun _=>by cbv⟩:uE [1,1,1,1,1,1,1,1,1,1,1,1,0,1] TI).1
theorem pH:TI=C6 amN:=rfl
def uL(p:Pl)(w:Sp):Sp:=(xA p.nu p.de (w.1-p.ep),xA p.nu p.de (w.2-p.ep))
def A6(Y:YT)(p:Pl)(orc:Nat->FuncId->List AV->AV)(ho:∀d l,orc d 74 l=.gd false .junk)(ho9:∀d l,orc d 999999 l=.junk)(E:List (Nat×AV))(m:AM)(U:List Sp)(rt:Rt)(Q:Exit->AS->Prop)
  (h85:Abs.look E 85=.sl rt (U.map Qe))(h86:Abs.look E 86=I U.length)(h87:Abs.look E 87=I 0)(ue:Abs.look E 14=.fn 118 [] [.ptr 0 0])(iN:Abs.look E 15=.sl .nil [])
  (h0:0<m.boxes.length)(hr:Qh m.boxes 0=Qc p)(hU:U.length<=10000000)(hUb:∀w∈U,(-1000000000000<=w.1-p.ep/\w.1-p.ep<=1000000000000)/\(-1000000000000<=w.2-p.ep/\w.2-p.ep<=1000000000000))
  (hQ:∀E' bx Lm fk,dy El E' E->Abs.look E' 15=.sl fk ((U.map (uL p)).map Qe)->(fk=.nil/\U=[]\/U≠[]/\∃k,fk=.own k 2)->Q .normal ⟨Ze 108 E',⟨m.boxes++bx,Lm,m.st,m.ln⟩⟩):
  vc Tryz.prog az orc Y amN ⟨Ze 108 E,m⟩ Q:=by
 simp[amN];refine Qj El (fun f mm=>∃(i:Nat)(bx:List (List AV))(Lm:List Nat)(fk:Rt),f 87=I i/\i<=U.length/\mm=⟨m.boxes++bx,Lm,m.st,m.ln⟩/\f 15=.sl fk ((U.map (Qe ∘ uL p)).take i)/\(i=0/\fk=.nil\/i≠0/\∃k,fk=.own k 2/\Lm[k]?=some i)) (fun f _=>U.length-(numOf (f 87)).toNat) ?_ ?_
 ·exact⟨0,[],m.lens,.nil,by simp[h87],by omega,by simp,by simp[iN],.inl ⟨rfl,rfl⟩⟩
 rintro f mm ⟨i,bx,Lm,fk,h87',hi,rfl,h15',aS⟩;rcases zzaa i U.length with ai|bu
 ·obtain⟨w,hw⟩:=aR ai;have sG:=Zc hw;obtain⟨c1,c2⟩:=hUb w (zzac hw);have aa:(i:Int)<(U.length:Int):=by omega
  have pG:=bK i (by omega);have eX:IntKind.i64.wrap 1=1:=by rw[Qk]<;>omega
  have bB:U.take (i+1)=U.take i++[w]:=by rw[zzas,hw];rfl
  have mH:(U.take i).length=i:=by rw[zzaq];omega
  have nP:∀x,Qh (m.boxes++(bx++[x])) (m.boxes.length+bx.length)=x:=fun x=>by
   simp
  have tO:∀x,Qh (m.boxes++x) 0=Qc p:=fun x=>by rw[Ql h0];exact hr
  have e1:=fun m' h1 h2 K hK=>xz p w.1 c1 Y m' 0 h1 h2 K hK;have e2:=fun m' h1 h2 K hK=>xz p w.2 c2 Y m' 0 h1 h2 K hK;have hG:(U.map (Qe ∘ uL p)).take (i+1)=(U.map (Qe ∘ uL p)).take i++[[I (xA p.nu p.de (w.1-p.ep)),I (xA p.nu p.de (w.2-p.ep))]]:=by rw[zzas,zzbm,hw];rfl
  have hGl:((U.map (Qe ∘ uL p)).take i).length=i:=by rw[zzaq,zzbf];omega
  have hG2:∀row∈(U.map (Qe ∘ uL p)).take i,row.length=2:=by
   intro row h;obtain⟨a,_,rfl⟩:=zzbc.1 (zzcb h);rfl
  generalize hGG:(U.map (Qe ∘ uL p)).take i=G at*
  obtain⟨rfl,rfl⟩|⟨aK,k,rfl,hk⟩:=aS
  ·simp[h87',h85,h86,ue,h15',El,ai,aa,sG,nP,ho,ho9];refine Qbn [(I (xA p.nu p.de (w.1-p.ep)),⟨m.boxes++(bx++[[I w.1,I w.2]]),Lm,m.st,m.ln⟩),(I (xA p.nu p.de (w.2-p.ep)),⟨m.boxes++(bx++[[I w.1,I w.2]]),Lm,m.st,m.ln⟩)] ?_;simp[h87',h85,h86,ue,h15',ai,aa,sG,nP,ho,ho9,pG,eX];refine⟨e1 _ (by simp;omega) (tO _) _ ⟨rfl,rfl⟩,e2 _ (by simp;omega) (tO _) _ ⟨rfl,rfl⟩,⟨by rintro row (h|rfl);exact hG2 row h;rfl,by omega⟩,ag ?_,?_,by omega⟩
   ·repeat(first|exact Qb _ _|refine Qa _ rfl ?_)
   exact⟨1,rfl,by omega,_,_,⟨rfl,rfl⟩,_,⟨rfl,hG.symm⟩,.inr ⟨by omega,Lm.length,rfl,by simp[hGl]⟩⟩
  simp[h87',h85,h86,ue,h15',El,ai,aa,sG,nP,ho,ho9];refine Qbn [(I (xA p.nu p.de (w.1-p.ep)),⟨m.boxes++(bx++[[I w.1,I w.2]]),Lm,m.st,m.ln⟩),(I (xA p.nu p.de (w.2-p.ep)),⟨m.boxes++(bx++[[I w.1,I w.2]]),Lm,m.st,m.ln⟩)] ?_;simp[h87',h85,h86,ue,h15',ai,aa,sG,nP,ho,ho9,pG,hk];refine⟨e1 _ (by simp;omega) (tO _) _ ⟨rfl,rfl⟩,e2 _ (by simp;omega) (tO _) _ ⟨rfl,rfl⟩,⟨hGl.symm,by rintro row (h|rfl);exact hG2 row h;rfl,by omega⟩,ag ?_,?_,by omega⟩
  ·repeat(first|exact Qb _ _|refine Qa _ rfl ?_)
  exact⟨i+1,by omega,by omega,_,_,⟨rfl,rfl⟩,_,⟨rfl,hG.symm⟩,.inr ⟨by omega,k,rfl,by simp[hGl,(zza.1 hk).1]⟩⟩
 obtain rfl:i=U.length:=by omega
 rw[zzap (by simp)]at h15';simp[h87',h86,El];refine hQ _ bx Lm fk ?_ ?_ ?_
 ·repeat(first|exact Qb _ _|refine Qa _ rfl ?_)
 ·simp[h15']
 obtain⟨h1,h2⟩|⟨h1,k,h2,h3⟩:=aS
 ·exact .inl ⟨h2,zzcc.1 h1⟩
 exact .inr ⟨fun h=>h1 (by rw[h];rfl),k,h2⟩
open Go Go.Abs
def K7:∀(l:List Sp)(lo hi:Int),VS l->(∀w∈l,lo<=w.1/\w.2<=hi)->(l.length:Int)<=max 0 (hi-lo)
 |[],lo,hi,_,_=>by simp only[zzch];omega
 |s::l,lo,hi,h,hb=>by
  obtain⟨h1,h2,h3⟩:=cT.1 h;have:=K7 l (s.2+1) hi h3 (fun w hw=>⟨by have:=h2 w hw;omega,(hb w (by simp[hw])).2⟩);have b:=hb s (by simp);simp only[zzba];omega
def Tl(lo hi:Int)(l:List Sp):Prop:=∀w∈l,lo<=w.1/\w.1<=hi/\lo<=w.2/\w.2<=hi
def uM{lo hi:Int}{a b:List Sp}(h:Tl lo hi a):Tl lo hi (zK a b):=by
 obtain⟨⟨h1,_⟩,h2⟩:=lu a b;intro w hw;have ai:=h1 w hw;obtain⟨s,hs,s1,s2⟩:=((h2 w.1).1 ⟨w,hw,by omega,ai⟩).1;obtain⟨t,ht,t1,t2⟩:=((h2 (w.2-1)).1 ⟨w,hw,by omega,by omega⟩).1;have:=h s hs;have:=h t ht;omega
def YK{lo hi:Int}{a b:List Sp}(h:Tl lo hi a):((zK a b).length:Int)<=max 0 (hi-lo):=
 K7 _ _ _ (lu a b).1 (fun w hw=>⟨(uM h w hw).1,(uM h w hw).2.2.2⟩)
def lz{nu de f g:Int}(hv:Vf nu de=true)(h0:0<=f)(hfg:f<=g)(hg:g<=100000000):Yr nu de f<=Yr nu de g/\Yr nu de g<=Yr nu de f+(g-f):=by
 obtain⟨b1,b2,b3,b4,b5⟩:=Jy hv;rw[Yr,Yr,if_pos ⟨hv,h0,by omega⟩,if_pos ⟨hv,by omega,hg⟩];have q0:0<=f*de:=zzec h0 (by omega);have q1:0<=g*de:=zzec (by omega) (by omega);rw[zzcm q0,zzcm q1];have m1:f*de<=g*de:=Int.mul_le_mul_of_nonneg_right hfg (by omega);have m2:(g-f)*de<=(g-f)*nu:=zzfv (by omega) (by omega)
 have m3:g*de<=f*de+(g-f)*nu:=by
  have:g*de=f*de+(g-f)*de:=by rw[<- Int.add_mul];congr 1;omega
  omega
 constructor
 ·exact Int.ediv_le_ediv (by omega) m1
 have:=Int.ediv_le_ediv (c:=nu) (by omega) m3;rw[Int.add_mul_ediv_right _ _ (by omega)]at this;exact this
def Rk(s:Sp):Sp:=(max s.1 0,min s.2 100000001)
def uS(p:Pl)(c:Sp):Sp:=(p.ep+Yr p.nu p.de c.1,p.ep+Yr p.nu p.de (c.2-1)+1)
def iF(p:Pl)(x:It)(region:Int)(u:Sp)(i:Nat):List Sp:=((mh p x region u).take i).foldl zK [u]
def Vq(p:Pl)(id region:Int)(s:Sp):List Sp:=
 let c:=Rk s
 match Xj id p.aM with
 |none=>[]
 |some x=>if region<0\/8<=region\/c.2<=c.1\/1000000<c.2-c.1 then[]else if x.ki=5 then[c]else if Kj p=false then[]else
  zK ((iF p x region (uS p c) (mh p x region (uS p c)).length).map (uL p)) [c]
def rz:List AV->Sp
 |[.int _ a,.int _ b]=>(a,b)
 |_=>(0,0)
@[simp] def afb(l:List Sp):(l.map Qe).map rz=l:=by
 induction l with
 |nil=>rfl
 |cons a l ih=>simp only[zzay,ih];rfl
@[simp] def asm(l:List Sp):l.map (rz ∘ Qe)=l:=by rw[<- zzcz];exact afb l
@[simp] theorem asn(a b:Int):rz [I a,I b]=(a,b):=rfl
def zL(p:Pl)(id region:Int)(s:Sp):Nat->FuncId->List AV->AV:=fun d f l=>
 if f=999999 then .junk else
 if f=113 then Zq (Xj id p.aM)else
 if f=114 then .bool (Kj p)else
 if f=115 then(match l with|[_,.int _ n]=>I (p.ep+Yr p.nu p.de n)|_=>.junk)else
 if f=116 then(match l with|[_,.agg x,_,.agg u]=>.fn 186 [] [.ep (Qc p) 0,.ep x 0,.ep [I region] 0,.ep u 0]|_=>.junk)else
 if f=117 then(match l with|[.sl _ A,.sl _ B]=>.sl .ro ((zK (A.map rz) (B.map rz)).map Qe)|_=>.junk)else .gd false .junk
def K8(cs:List Cl)(item region:Int)(h:cs.length<=1000000):(Qct cs item region).length<=2000000:=by
 have h1:=Uc (nN (dH (Wl cs item region)) (wW (Wl cs item region)) (dH (Wl cs item region)).length);have h2:=wY (dH (Wl cs item region)) (wW (Wl cs item region)) (dH (Wl cs item region)).length;have h3:=Oo (Wl cs item region);have h4:(Wl cs item region).length<=cs.length:=zzbr _ _;unfold Qct;omega
def YL(p:Pl)(x:It)(region:Int)(u:Sp)(h:p.cls.length<=1000000):∀l∈mh p x region u,l.length<=2000000:=by
 intro l hl;rw[mh,zzaw,zzbc]at hl;obtain rfl|⟨w,_,rfl⟩:=hl
 ·exact K8 _ _ _ h
 have:=YJ p.of p.sh u w.1 w.2;omega
def C7{lo hi:Int}:∀(ls:List (List Sp))(a:List Sp),Tl lo hi a->Tl lo hi (ls.foldl zK a)
 |[],a,h=>h
 |l::r,a,h=>C7 r _ (uM h)
def A7{lo hi:Int}:∀(ls:List (List Sp))(a:List Sp),Tl lo hi a->(a.length:Int)<=max 1 (hi-lo)->((ls.foldl zK a).length:Int)<=max 1 (hi-lo)
 |[],a,_,h=>h
 |l::r,a,h,hl=>A7 r _ (uM h) (by have:=YK (b:=l) h;omega)
def F4(p:Pl)(id region:Int)(s:Sp)(hc:p.cls.length<=1000000)(gO:p.sh.length<=1000000000)(cI:p.aM.length<=1000000000)(h1: -9223372036854775808<=s.1/\s.1<=9223372036854775807)(h2: -9223372036854775808<=s.2/\s.2<=9223372036854775807):
  ∃rt,Pure Tryz.prog az 59 [.agg (Qc p),I id,I region,.agg [I s.1,I s.2]] (.sl rt ((Vq p id region s).map Qe)):=by
 have C8:=lB p id cI;have k70:=K9 p gO;obtain⟨c,hcS⟩:∃c,Rk s=c:=⟨_,rfl⟩;have hcb:0<=c.1/\c.2<=100000001/\c.1<=9223372036854775807/\ -9223372036854775808<=c.2:=by rw[<- hcS,Rk];simp only;omega
 have Tk:max s.1 0=c.1:=by rw[<- hcS];rfl
 have Rh:min s.2 100000001=c.2:=by rw[<- hcS];rfl
 have F5:(if s.1<0 then 0 else s.1)=c.1:=by omega
 have F6:(if 100000001<s.2 then 100000001 else s.2)=c.2:=by omega
 cases hfx:Xj id p.aM with
 |none=>
  have hP:Vq p id region s=[]:=by simp[Vq,hfx]
  rw[hP];refine⟨.nil,Qn va (zL p id region s) (by simp) ?_⟩;rw[pH];simp[C6,Qc,zL,hfx,Zq,tI,F5,F6];simpa[hfx,Zq,Qc]using C8
 |some x=>
  rw[hfx]at C8;by_cases hb:region<0\/8<=region\/c.2<=c.1\/1000000<c.2-c.1
  ·have hP:Vq p id region s=[]:=by simp only[Vq,hfx,hcS,if_pos hb]
   rw[hP];refine⟨.nil,Qn va (zL p id region s) (by simp) ?_⟩;have La:Abs.Pure Tryz.prog az 113 [.agg (Qc p),I id] (.aW [.agg (Qm x),.bool true]):=C8;rw[pH];by_cases b1:region<0
   ·simp[C6,Qc,zL,hfx,Zq,Qm,tI,F5,F6,b1,Qe];exact La
   by_cases b2:8<=region
   ·simp[C6,Qc,zL,hfx,Zq,Qm,tI,F5,F6,b1,b2,Qe];exact La
   by_cases b3:c.2<=c.1
   ·simp[C6,Qc,zL,hfx,Zq,Qm,tI,F5,F6,b1,b2,b3,Qe];exact La
   have b4:1000000<c.2-c.1:=by omega
   have hw:IntKind.i64.wrap (c.2-c.1)=c.2-c.1:=by rw[Qk]<;>omega
   simp[C6,Qc,zL,hfx,Zq,Qm,tI,F5,F6,b1,b2,b3,b4,hw,Qe];exact La
  simp only[not_or]at hb;obtain⟨b1,b2,b3,b4⟩:=hb;have hw:IntKind.i64.wrap (c.2-c.1)=c.2-c.1:=by rw[Qk]<;>omega
  by_cases hk:x.ki=5
  ·have hP:Vq p id region s=[c]:=by simp only[Vq,hfx,hcS,if_neg (show¬(region<0\/8<=region\/c.2<=c.1\/1000000<c.2-c.1) by omega),if_pos hk]
   rw[hP];refine⟨.full,Qn va (zL p id region s) (by simp) ?_⟩;rw[pH];simp[C6,Qc,zL,hfx,Zq,Qm,tI,F5,F6,b1,b2,b3,b4,hw,hk,Qe];rw[Zq,Qm,hk]at C8;exact C8
  have awR:=pF p.nu p.de c.1;have avR:=pF p.nu p.de (c.2-1);have eX:IntKind.i64.wrap (c.2-1)=c.2-1:=by rw[Qk]<;>omega
  have La:Abs.Pure Tryz.prog az 113 [.agg (Qc p),I id] (.aW [.agg (Qm x),.bool true]):=C8;by_cases ht:Kj p=true
  ·have hte:Vf p.nu p.de=true/\0<=p.ep/\p.ep<=9000000000:=by
    simp only[Kj,zzak,decide_eq_true_eq]at ht;exact⟨ht.1.1,ht.2⟩
   have dG:IntKind.i64.wrap (p.ep+Yr p.nu p.de (c.2-1)+1)=p.ep+Yr p.nu p.de (c.2-1)+1:=by rw[Qk]<;>omega
   have Lb:IntKind.i64.wrap (p.ep+Yr p.nu p.de c.1)=p.ep+Yr p.nu p.de c.1:=by rw[Qk]<;>omega
   have aso:=k70;rw[ht]at aso;have k71:=sI p c.1 hte.2;have awS:=sI p (c.2-1) hte.2;obtain⟨u,hu⟩:∃u,uS p c=u:=⟨_,rfl⟩;have hu1:p.ep+Yr p.nu p.de c.1=u.1:=by rw[<- hu];rfl
   have J8:p.ep+Yr p.nu p.de (c.2-1)+1=u.2:=by rw[<- hu];rfl
   have hu3:IntKind.i64.wrap u.2=u.2:=by rw[<- J8];exact dG
   have hdf:=lz (f:=c.1) (g:=c.2-1) hte.1 (by omega) (by omega) (by omega);have k72:=F1 p x region u
   have hP:Vq p id region s=zK ((iF p x region u (mh p x region u).length).map (uL p)) [c]:=by
    simp only[Vq,hfx,hcS,hu,if_neg (show¬(region<0\/8<=region\/c.2<=c.1\/1000000<c.2-c.1) by omega),if_neg hk,ht];simp
   rw[hP];refine⟨.ro,Qn va (zL p id region s) (by simp) ?_⟩;rw[pH];simp[C6,Qc,zL,hfx,Zq,Qm,F5,F6,b1,b2,b3,b4,hw,hk,Qe,ht,eX,dG,hu1,J8,hu3];rw[hu1]at k71;refine⟨La,aso,k71,awS,k72,?_⟩;have hub: -9223372036854775808<=u.1/\u.1<=9223372036854775807/\ -9223372036854775808<=u.2/\u.2<=9223372036854775807:=by omega
   have hLi:=F3 p x region u hc gO ⟨hub.1,hub.2.1⟩ hub.2.2;have hLl:=YL p x region u hc;have asp:Tl u.1 u.2 [u]:=by intro w hw;simp at hw;subst hw;omega
   have awT:∀i,Tl u.1 u.2 (iF p x region u i):=fun i=>C7 _ _ asp
   have qt:∀i,(iF p x region u i).length<=2000000:=fun i=>by
    have:=A7 ((mh p x region u).take i) [u] asp (by simp;omega);unfold iF;omega
   have jh:∀i l,(mh p x region u)[i]?=some l->iF p x region u (i+1)=zK (iF p x region u i) l:=fun i l h=>by
    unfold iF;rw[zzas,h,zzgi];rfl
   have hc0:iF p x region u 0=[u]:=by simp[iF]
   have hps:∀y,uL p y=uL p y:=fun _=>rfl;generalize hXs:mh p x region u=Xs at*
   refine jI (xs:=Xs.map F0) (by simp;exact⟨rfl,rfl⟩) hLi (by intro y hy;simp[F0]at hy;obtain⟨a,_,rfl⟩:=hy;rfl)
    (fun i m=>∃(bx:List (List AV))(rt:Rt),m.boxes=Qc p::[I c.1,I c.2]::Qm x::[I u.1,I u.2]::[.sl rt ((iF p x region u i).map Qe)]::bx/\(rt=.full\/rt=.ro)) (fun _ _=>False) ?_ ?_ (fun _ _ _ h=>h.elim) ?_ ?_ (fun _ _ h=>h.elim)
   ·refine⟨[],.full,?_,.inl rfl⟩;rw[hc0];rfl
   ·rintro i m m' ⟨bx,rt,hb,aS⟩ ⟨⟨b2,e1⟩,_,_⟩;exact⟨bx++b2,rt,by rw[e1,hb];rfl,aS⟩
   ·rintro l i m y hg hr ⟨bx,rt,hb,aS⟩ hy K' q1 _ _;rw[zzbm,zzcf]at hy;obtain⟨y,hy,rfl⟩:=hy;rw[Ui]at hb;have hyl:=hLl y (zzac hy);have k73:=jP (iF p x region u i) y (by have:=qt i;omega) (by omega);have hn:=jh i y hy;generalize iF p x region u i=C at*
    obtain rfl|rfl:=aS
    ·have awU:=Zu (l:=[.sl .full (C.map Qe),.sl .ro (y.map Qe)]) k73 ⟨Wk.sl _ _,Wk.refl _,trivial⟩;simp[hr,Zl,F0,hb,zL];refine⟨awU,q1 _ ⟨bx,.ro,?_,.inr rfl⟩⟩;simp[hb,hn]
    simp[hr,Zl,F0,hb,zL];refine⟨k73,q1 _ ⟨bx,.ro,?_,.inr rfl⟩⟩;simp[hb,hn]
   rintro m ⟨bx,rt,hb,aS⟩;have hcU:=qt Xs.length;have hcI:=awT Xs.length;rw[zzbf]at hb;generalize iF p x region u Xs.length=C at*
   have k73:=jP (C.map (uL p)) [c] (by simp;omega) (by simp);have sF:∀w∈C,(-1000000000000<=w.1-p.ep/\w.1-p.ep<=1000000000000)/\(-1000000000000<=w.2-p.ep/\w.2-p.ep<=1000000000000):=fun w hw=>by have:=hcI w hw;omega
   have leaf:∀rt,Abs.Pure Tryz.prog az 117 [.sl rt (C.map (Qe ∘ uL p)),.sl .full [[I c.1,I c.2]]] (.sl .ro ((zK (C.map (rz ∘ Qe ∘ uL p)) [(c.1,c.2)]).map Qe))/\(zK (C.map (rz ∘ Qe ∘ uL p)) [(c.1,c.2)]).map Qe=(zK (C.map (uL p)) [c]).map Qe:=by
    have e1:C.map (rz ∘ Qe ∘ uL p)=C.map (uL p):=zzda fun _ _=>rfl;intro rt;rw[e1];refine⟨?_,rfl⟩;have:=Zu (l:=[.sl rt ((C.map (uL p)).map Qe),.sl .full ([c].map Qe)]) k73 ⟨Wk.sl _ _,Wk.sl _ _,trivial⟩;rw[zzcz]at this;exact this
   obtain rfl|rfl:=aS
   ·simp[hb];refine A6 Y0 p (zL p id region s) (fun _ _=>rfl) (fun _ _=>rfl) _ _ C .full _ (by simp) (by simp) (by simp) (by simp) (by simp) (by simp[hb]) (by simp[hb]) (by omega) sF ?_;intro E' bx' Lm fk hA iN F7;have h7:Abs.look E' 7=.ptr 1 0:=by rw[hA 7 (by decide)];simp
    obtain⟨rfl,hC⟩|⟨hC,k,rfl⟩:=F7
    ·simp[h7,iN,hb,zL,tI];exact leaf _
    simp[h7,iN,hb,zL,tI];exact leaf _
   simp[hb];refine A6 Y0 p (zL p id region s) (fun _ _=>rfl) (fun _ _=>rfl) _ _ C .ro _ (by simp) (by simp) (by simp) (by simp) (by simp) (by simp[hb]) (by simp[hb]) (by omega) sF ?_;intro E' bx' Lm fk hA iN F7;have h7:Abs.look E' 7=.ptr 1 0:=by rw[hA 7 (by decide)];simp
   obtain⟨rfl,hC⟩|⟨hC,k,rfl⟩:=F7
   ·simp[h7,iN,hb,zL,tI];exact leaf _
   simp[h7,iN,hb,zL,tI];exact leaf _
  have YM:Kj p=false:=by simpa using ht
  rw[YM]at k70;have hP:Vq p id region s=[]:=by simp only[Vq,hfx,hcS,if_neg (show¬(region<0\/8<=region\/c.2<=c.1\/1000000<c.2-c.1) by omega),if_neg hk,if_pos YM]
  rw[hP];refine⟨.nil,Qn va (zL p id region s) (by simp) ?_⟩;rw[pH];simp[C6,Qc,zL,hfx,Zq,Qm,tI,F5,F6,b1,b2,b3,b4,hw,hk,Qe,YM];exact⟨La,k70⟩
def nU(p:Pl)(id region:Int)(s:Sp)(hc:p.cls.length<=1000000)(gO:p.sh.length<=1000000000)(cI:p.aM.length<=1000000000)(h1: -9223372036854775808<=s.1/\s.1<=9223372036854775807)(h2: -9223372036854775808<=s.2/\s.2<=9223372036854775807):
  Pure Tryz.prog az 59 [.agg (Qc p),I id,I region,.agg [I s.1,I s.2]] (.sl .ro ((Vq p id region s).map Qe)):=by
 obtain⟨rt,h⟩:=F4 p id region s hc gO cI h1 h2;exact Xa h (Wk.sl _ _)
end
end Go.Proofs.YtnopaopphmjnmaaGreatDoor
