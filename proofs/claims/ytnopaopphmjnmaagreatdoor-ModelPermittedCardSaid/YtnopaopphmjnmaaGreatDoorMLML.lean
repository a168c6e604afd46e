import Derived.Test.YtnopaopphmjnmaaGreatDoorMLMK
import Derived.Test.YtnopaopphmjnmaaGreatDoorMLMJ
set_option linter.all false
set_option maxRecDepth 100000
set_option maxHeartbeats 64000000
namespace Go.Proofs.YtnopaopphmjnmaaGreatDoor
noncomputable section
open Go Go.Abs
def pF(nu de f:Int): -1<=Yn nu de f/\Yn nu de f<=100000000:=by
 unfold Yn;split
 ·rename_i h;obtain⟨h1,h2,h3⟩:=h;obtain⟨b1,b2,b3,b4,b5⟩:=Jt h1;have q0:0<=f*de:=zzeb h2 (by omega);have q1:f*de<=f*nu:=zzfz (by omega) h2;have q2:0<=(f*de).tdiv nu:=Int.tdiv_nonneg q0 (by omega)
  have q3:(f*de).tdiv nu<=f:=by
   rw[zzco q0];exact Int.ediv_le_of_le_mul (by omega) q1
  omega
 omega
def sH(p:Pl)(f:Int)(ht:0<=p.ep/\p.ep<=9000000000):Pure Tryz.prog az 115 [.agg (Qb p),I f] (I (p.ep+Yn p.nu p.de f)):=by
 have h:=Ra p.nu p.de f;have hb:=pF p.nu p.de f;have hw:IntKind.i64.wrap (p.ep+Yn p.nu p.de f)=p.ep+Yn p.nu p.de f:=by rw[Qk]<;>omega
 refine Qn acn (fun _ f' l=>if f'=185 then I (Yn p.nu p.de f)else .junk) (by simp) ?_;simp[ahk,Qb,ahl,hw];exact h
def xq(p:Pl)(n:Int)(hn: -1000000000000<=n-p.ep/\n-p.ep<=1000000000000)(Y:YT)(m:AM)(b:Nat)(hb:b<m.boxes.length)(hr:Qh m.boxes b=Qb p)(K:AV->AM->Prop)(hK:K (I (xu p.nu p.de (n-p.ep))) m):
  an Tryz.prog az Y 118 [I n,.ptr b 0] m K:=by
 have h:=A3 p.nu p.de (n-p.ep);have hw:IntKind.i64.wrap (n-p.ep)=n-p.ep:=by rw[Qk]<;>omega
 refine Xe acq (fun _ f' l=>if f'=119 then I (xu p.nu p.de (n-p.ep))else .junk) (by simp) ?_;simp[ahp,hr,Qb,ahq,hw,hb];exact⟨h,hK⟩
def lW(p:Pl)(x:It)(region:Int)(s:Sp):List (List Sp):=Qcj p.cls x.id region::(uD p.cls x.ra).map fun w=>iB p.of p.sh s w.1 w.2
def FQ(l:List Sp):List AV:=[.sl .ro (l.map Qe)]
def FR(p:Pl)(x:It)(region:Int)(s:Sp):Pure Tryz.prog az 116 [.agg (Qb p),.agg (Qm x),I region,.agg [I s.1,I s.2]] (.fn 186 [] [.ep (Qb p) 0,.ep (Qm x) 0,.ep [I region] 0,.ep [I s.1,I s.2] 0]):=by
 refine Qn aco (fun _ _ _=>.junk) (by simp) ?_;simp[ahm,ahn,Qb,Qm]
def FT(p:Pl)(x:It)(region:Int)(s:Sp)(hc:p.cls.length<=1000000)(gK:p.sh.length<=1000000000)(h1: -9223372036854775808<=s.1/\s.1<=9223372036854775807)(h2: -9223372036854775808<=s.2/\s.2<=9223372036854775807):
  Iter Tryz.prog az 186 [] [.ep (Qb p) 0,.ep (Qm x) 0,.ep [I region] 0,.ep [I s.1,I s.2] 0] ((lW p x region s).map FQ):=by
 intro Y l m K hF;have ar9:=KO p.cls x.id region hc;have asa:=tT p.cls x.ra (by omega)
 have hwl:(uD p.cls x.ra).length<=1000000:=by
  unfold uD;rw[zzbg];exact zzbn (zzbr _ _) hc
 refine Xe ac2 (fun d f' l=>if f'=187 then .sl .ro ((Qcj p.cls x.id region).map Qe)else if f'=188 then .sl .ro ((uD p.cls x.ra).map Qe)else
  if f'=189 then(match l with|[_,_,.int _ a,.int _ b]=>.sl .ro ((iB p.of p.sh s a b).map Qe)|_=>.junk)else .junk) (by simp) ?_
 unfold lW at hF;generalize hS:Qcj p.cls x.id region=S at hF ar9;generalize hW:uD p.cls x.ra=W at hF asa hwl;simp only[zzaz,FQ]at hF;simp[UN,Qb,Qm,hS,hW];refine⟨ar9,?_⟩;refine hF _ (fF.refl _) _ (fun m2 qs=>?_) (fun m2 hK=>?_)
 ·rw[zzcy]at qs;simp[hW];refine⟨asa,?_⟩;refine Qi JG (fun f mm=>∃i:Nat,f 23=I i/\i<=W.length/\wL (Y l) K ((W.drop i).map (FQ ∘ fun w=>iB p.of p.sh s w.1 w.2)) mm) (fun f _=>W.length-(numOf (f 23)).toNat) ?_ ?_
  ·exact⟨0,by simp,by omega,by simpa using qs⟩
  rintro f mm ⟨i,h23,hi,hF3⟩;rcases zzaa i W.length with ai|bu
  ·obtain⟨w,hw⟩:=aS ai;have sF:=Zc hw;have aa:(i:Int)<(W.length:Int):=by omega
   have pG:=bJ i (by omega);have hd:W.drop i=w::W.drop (i+1):=by rw[zzaf ai,(zza.1 hw).2]
   rw[hd,zzaz]at hF3;simp only[Function.comp_apply,FQ]at hF3;have awL:=zG p.of p.sh s w.1 w.2 gK h1 h2
   have fB:∀x,Qh (mm.boxes++[x]) mm.boxes.length=x:=fun x=>by
    simp
   simp[h23,JG,ai,aa,sF,fB];refine⟨awL,?_⟩;refine hF3 _ (fF.box mm [[I w.1,I w.2]]) _ (fun m3 hF4=>?_) (fun m3 hK=>?_)
   ·simp[pG];refine⟨aO,⟨i+1,by omega,by omega,by rw[<- zzgk];exact hF4⟩,by omega⟩
   simp[Nl];exact hK _ (fF.refl _)
  obtain rfl:i=W.length:=by omega
  rw[zzbo,zzcf]at hF3;simp[h23,JG,Nl];exact hF3 _ (fF.refl _)
 simp[Nl];exact hK _ (fF.refl _)
open Go Go.Abs
def amK:SC:=(⟨_,by cbv⟩:tM [1,1,1,1,1,1,1,1,1,1,1,1,0,1] TK).1
def C4:SC->SC:=(⟨_,fun _=>by cbv⟩:uw [1,1,1,1,1,1,1,1,1,1,1,1,0,1] TK).1
theorem pH:TK=C4 amK:=rfl
def uE(p:Pl)(w:Sp):Sp:=(xu p.nu p.de (w.1-p.ep),xu p.nu p.de (w.2-p.ep))
def A4(Y:YT)(p:Pl)(orc:Nat->FuncId->List AV->AV)(ho:∀d l,orc d 74 l=.gd false .junk)(ho9:∀d l,orc d 999999 l=.junk)(E:List (Nat×AV))(m:AM)(U:List Sp)(rt:Rt)(Q:Exit->AS->Prop)
  (h85:Abs.look E 85=.sl rt (U.map Qe))(h86:Abs.look E 86=I U.length)(h87:Abs.look E 87=I 0)(tU:Abs.look E 14=.fn 118 [] [.ptr 0 0])(sI:Abs.look E 15=.sl .nil [])
  (h0:0<m.boxes.length)(hr:Qh m.boxes 0=Qb p)(hU:U.length<=10000000)(hUb:∀w∈U,(-1000000000000<=w.1-p.ep/\w.1-p.ep<=1000000000000)/\(-1000000000000<=w.2-p.ep/\w.2-p.ep<=1000000000000))
  (hQ:∀E' bx Lm eY,fc Eh E' E->Abs.look E' 15=.sl eY ((U.map (uE p)).map Qe)->(eY=.nil/\U=[]\/U≠[]/\∃k,eY=.own k 2)->Q .normal ⟨Zf 108 E',⟨m.boxes++bx,Lm,m.st,m.ln⟩⟩):
  vc Tryz.prog az orc Y amK ⟨Zf 108 E,m⟩ Q:=by
 simp[amK];refine Qi Eh (fun f mm=>∃(i:Nat)(bx:List (List AV))(Lm:List Nat)(eY:Rt),f 87=I i/\i<=U.length/\mm=⟨m.boxes++bx,Lm,m.st,m.ln⟩/\f 15=.sl eY ((U.map (Qe ∘ uE p)).take i)/\(i=0/\eY=.nil\/i≠0/\∃k,eY=.own k 2/\Lm[k]?=some i)) (fun f _=>U.length-(numOf (f 87)).toNat) ?_ ?_
 ·exact⟨0,[],m.lens,.nil,by simp[h87],by omega,by simp,by simp[sI],.inl ⟨rfl,rfl⟩⟩
 rintro f mm ⟨i,bx,Lm,eY,h87',hi,rfl,h15',aR⟩;rcases zzaa i U.length with ai|bu
 ·obtain⟨w,hw⟩:=aS ai;have sF:=Zc hw;obtain⟨c1,c2⟩:=hUb w (zzad hw);have aa:(i:Int)<(U.length:Int):=by omega
  have pG:=bJ i (by omega);have fC:IntKind.i64.wrap 1=1:=by rw[Qk]<;>omega
  have bB:U.take (i+1)=U.take i++[w]:=by rw[zzas,hw];rfl
  have mD:(U.take i).length=i:=by rw[zzaq];omega
  have uy:∀x,Qh (m.boxes++(bx++[x])) (m.boxes.length+bx.length)=x:=fun x=>by
   simp
  have tI:∀x,Qh (m.boxes++x) 0=Qb p:=fun x=>by rw[Ql h0];exact hr
  have e1:=fun m' h1 h2 K hK=>xq p w.1 c1 Y m' 0 h1 h2 K hK;have e2:=fun m' h1 h2 K hK=>xq p w.2 c2 Y m' 0 h1 h2 K hK;have hG:(U.map (Qe ∘ uE p)).take (i+1)=(U.map (Qe ∘ uE p)).take i++[[I (xu p.nu p.de (w.1-p.ep)),I (xu p.nu p.de (w.2-p.ep))]]:=by rw[zzas,zzbl,hw];rfl
  have hGl:((U.map (Qe ∘ uE p)).take i).length=i:=by rw[zzaq,zzbg];omega
  have hG2:∀row∈(U.map (Qe ∘ uE p)).take i,row.length=2:=by
   intro row h;obtain⟨a,_,rfl⟩:=zzax.1 (zzca h);rfl
  generalize hGG:(U.map (Qe ∘ uE p)).take i=G at*
  obtain⟨rfl,rfl⟩|⟨aK,k,rfl,hk⟩:=aR
  ·simp[h87',h85,h86,tU,h15',Eh,ai,aa,sF,uy,ho,ho9];refine Qbg [(I (xu p.nu p.de (w.1-p.ep)),⟨m.boxes++(bx++[[I w.1,I w.2]]),Lm,m.st,m.ln⟩),(I (xu p.nu p.de (w.2-p.ep)),⟨m.boxes++(bx++[[I w.1,I w.2]]),Lm,m.st,m.ln⟩)] ?_;simp[h87',h85,h86,tU,h15',ai,aa,sF,uy,ho,ho9,pG,fC];refine⟨e1 _ (by simp;omega) (tI _) _ ⟨rfl,rfl⟩,e2 _ (by simp;omega) (tI _) _ ⟨rfl,rfl⟩,⟨by rintro row (h|rfl);exact hG2 row h;rfl,by omega⟩,ag ?_,?_,by omega⟩
   ·repeat(first|exact Qc _ _|refine Qa _ rfl ?_)
   exact⟨1,rfl,by omega,_,_,⟨rfl,rfl⟩,_,⟨rfl,hG.symm⟩,.inr ⟨by omega,Lm.length,rfl,by simp[hGl]⟩⟩
  simp[h87',h85,h86,tU,h15',Eh,ai,aa,sF,uy,ho,ho9];refine Qbg [(I (xu p.nu p.de (w.1-p.ep)),⟨m.boxes++(bx++[[I w.1,I w.2]]),Lm,m.st,m.ln⟩),(I (xu p.nu p.de (w.2-p.ep)),⟨m.boxes++(bx++[[I w.1,I w.2]]),Lm,m.st,m.ln⟩)] ?_;simp[h87',h85,h86,tU,h15',ai,aa,sF,uy,ho,ho9,pG,hk];refine⟨e1 _ (by simp;omega) (tI _) _ ⟨rfl,rfl⟩,e2 _ (by simp;omega) (tI _) _ ⟨rfl,rfl⟩,⟨hGl.symm,by rintro row (h|rfl);exact hG2 row h;rfl,by omega⟩,ag ?_,?_,by omega⟩
  ·repeat(first|exact Qc _ _|refine Qa _ rfl ?_)
  exact⟨i+1,by omega,by omega,_,_,⟨rfl,rfl⟩,_,⟨rfl,hG.symm⟩,.inr ⟨by omega,k,rfl,by simp[hGl,(zza.1 hk).1]⟩⟩
 obtain rfl:i=U.length:=by omega
 rw[zzap (by simp)]at h15';simp[h87',h86,Eh];refine hQ _ bx Lm eY ?_ ?_ ?_
 ·repeat(first|exact Qc _ _|refine Qa _ rfl ?_)
 ·simp[h15']
 obtain⟨h1,h2⟩|⟨h1,k,h2,h3⟩:=aR
 ·exact .inl ⟨h2,zzcb.1 h1⟩
 exact .inr ⟨fun h=>h1 (by rw[h];rfl),k,h2⟩
open Go Go.Abs
def KU:∀(l:List Sp)(lo hi:Int),VS l->(∀w∈l,lo<=w.1/\w.2<=hi)->(l.length:Int)<=max 0 (hi-lo)
 |[],lo,hi,_,_=>by simp only[zzch];omega
 |s::l,lo,hi,h,hb=>by
  obtain⟨h1,h2,h3⟩:=cN.1 h;have:=KU l (s.2+1) hi h3 (fun w hw=>⟨by have:=h2 w hw;omega,(hb w (by simp[hw])).2⟩);have b:=hb s (by simp);simp only[zzbb];omega
def Tq(lo hi:Int)(l:List Sp):Prop:=∀w∈l,lo<=w.1/\w.1<=hi/\lo<=w.2/\w.2<=hi
def uF{lo hi:Int}{a b:List Sp}(h:Tq lo hi a):Tq lo hi (zH a b):=by
 obtain⟨⟨h1,_⟩,h2⟩:=kZ a b;intro w hw;have ai:=h1 w hw;obtain⟨s,hs,s1,s2⟩:=((h2 w.1).1 ⟨w,hw,by omega,ai⟩).1;obtain⟨t,ht,t1,t2⟩:=((h2 (w.2-1)).1 ⟨w,hw,by omega,by omega⟩).1;have:=h s hs;have:=h t ht;omega
def YM{lo hi:Int}{a b:List Sp}(h:Tq lo hi a):((zH a b).length:Int)<=max 0 (hi-lo):=
 KU _ _ _ (kZ a b).1 (fun w hw=>⟨(uF h w hw).1,(uF h w hw).2.2.2⟩)
def k6{nu de f g:Int}(hv:Vf nu de=true)(h0:0<=f)(hfg:f<=g)(hg:g<=100000000):Yn nu de f<=Yn nu de g/\Yn nu de g<=Yn nu de f+(g-f):=by
 obtain⟨b1,b2,b3,b4,b5⟩:=Jt hv;rw[Yn,Yn,if_pos ⟨hv,h0,by omega⟩,if_pos ⟨hv,by omega,hg⟩];have q0:0<=f*de:=zzeb h0 (by omega);have q1:0<=g*de:=zzeb (by omega) (by omega);rw[zzco q0,zzco q1];have m1:f*de<=g*de:=Int.mul_le_mul_of_nonneg_right hfg (by omega);have m2:(g-f)*de<=(g-f)*nu:=zzfz (by omega) (by omega)
 have m3:g*de<=f*de+(g-f)*nu:=by
  have:g*de=f*de+(g-f)*de:=by rw[<- Int.add_mul];congr 1;omega
  omega
 constructor
 ·exact Int.ediv_le_ediv (by omega) m1
 have:=Int.ediv_le_ediv (c:=nu) (by omega) m3;rw[Int.add_mul_ediv_right _ _ (by omega)]at this;exact this
def Rb(s:Sp):Sp:=(max s.1 0,min s.2 100000001)
def uS(p:Pl)(c:Sp):Sp:=(p.ep+Yn p.nu p.de c.1,p.ep+Yn p.nu p.de (c.2-1)+1)
def iC(p:Pl)(x:It)(region:Int)(u:Sp)(i:Nat):List Sp:=((lW p x region u).take i).foldl zH [u]
def Vo(p:Pl)(id region:Int)(s:Sp):List Sp:=
 let c:=Rb s
 match Xh id p.aL with
 |none=>[]
 |some x=>if region<0\/8<=region\/c.2<=c.1\/1000000<c.2-c.1 then[]else if x.ki=5 then[c]else if Kg p=false then[]else
  zH ((iC p x region (uS p c) (lW p x region (uS p c)).length).map (uE p)) [c]
def ry:List AV->Sp
 |[.int _ a,.int _ b]=>(a,b)
 |_=>(0,0)
@[simp] def afa(l:List Sp):(l.map Qe).map ry=l:=by
 induction l with
 |nil=>rfl
 |cons a l ih=>simp only[zzaz,ih];rfl
@[simp] def asb(l:List Sp):l.map (ry ∘ Qe)=l:=by rw[<- zzcy];exact afa l
@[simp] theorem asd(a b:Int):ry [I a,I b]=(a,b):=rfl
def zI(p:Pl)(id region:Int)(s:Sp):Nat->FuncId->List AV->AV:=fun d f l=>
 if f=999999 then .junk else
 if f=113 then Zh (Xh id p.aL)else
 if f=114 then .bool (Kg p)else
 if f=115 then(match l with|[_,.int _ n]=>I (p.ep+Yn p.nu p.de n)|_=>.junk)else
 if f=116 then(match l with|[_,.agg x,_,.agg u]=>.fn 186 [] [.ep (Qb p) 0,.ep x 0,.ep [I region] 0,.ep u 0]|_=>.junk)else
 if f=117 then(match l with|[.sl _ A,.sl _ B]=>.sl .ro ((zH (A.map ry) (B.map ry)).map Qe)|_=>.junk)else .gd false .junk
def KV(cs:List Cl)(item region:Int)(h:cs.length<=1000000):(Qcj cs item region).length<=2000000:=by
 have h1:=Yy (nI (dB (We cs item region)) (wQ (We cs item region)) (dB (We cs item region)).length);have h2:=wU (dB (We cs item region)) (wQ (We cs item region)) (dB (We cs item region)).length;have h3:=Ob (We cs item region);have h4:(We cs item region).length<=cs.length:=zzbr _ _;unfold Qcj;omega
def YN(p:Pl)(x:It)(region:Int)(u:Sp)(h:p.cls.length<=1000000):∀l∈lW p x region u,l.length<=2000000:=by
 intro l hl;rw[lW,zzat,zzax]at hl;obtain rfl|⟨w,_,rfl⟩:=hl
 ·exact KV _ _ _ h
 have:=YL p.of p.sh u w.1 w.2;omega
def C5{lo hi:Int}:∀(ls:List (List Sp))(a:List Sp),Tq lo hi a->Tq lo hi (ls.foldl zH a)
 |[],a,h=>h
 |l::r,a,h=>C5 r _ (uF h)
def A5{lo hi:Int}:∀(ls:List (List Sp))(a:List Sp),Tq lo hi a->(a.length:Int)<=max 1 (hi-lo)->((ls.foldl zH a).length:Int)<=max 1 (hi-lo)
 |[],a,_,h=>h
 |l::r,a,h,hl=>A5 r _ (uF h) (by have:=YM (b:=l) h;omega)
def FU(p:Pl)(id region:Int)(s:Sp)(hc:p.cls.length<=1000000)(gK:p.sh.length<=1000000000)(cm:p.aL.length<=1000000000)(h1: -9223372036854775808<=s.1/\s.1<=9223372036854775807)(h2: -9223372036854775808<=s.2/\s.2<=9223372036854775807):
  ∃rt,Pure Tryz.prog az 59 [.agg (Qb p),I id,I region,.agg [I s.1,I s.2]] (.sl rt ((Vo p id region s).map Qe)):=by
 have C6:=k8 p id cm;have k70:=KW p gK;obtain⟨c,hcS⟩:∃c,Rb s=c:=⟨_,rfl⟩;have hcb:0<=c.1/\c.2<=100000001/\c.1<=9223372036854775807/\ -9223372036854775808<=c.2:=by rw[<- hcS,Rb];simp only;omega
 have Tp:max s.1 0=c.1:=by rw[<- hcS];rfl
 have Q8:min s.2 100000001=c.2:=by rw[<- hcS];rfl
 have FV:(if s.1<0 then 0 else s.1)=c.1:=by omega
 have FX:(if 100000001<s.2 then 100000001 else s.2)=c.2:=by omega
 cases hfx:Xh id p.aL with
 |none=>
  have hP:Vo p id region s=[]:=by simp[Vo,hfx]
  rw[hP];refine⟨.nil,Qn u6 (zI p id region s) (by simp) ?_⟩;rw[pH];simp[C4,Qb,zI,hfx,Zh,tC,FV,FX];simpa[hfx,Zh,Qb]using C6
 |some x=>
  rw[hfx]at C6;by_cases hb:region<0\/8<=region\/c.2<=c.1\/1000000<c.2-c.1
  ·have hP:Vo p id region s=[]:=by simp only[Vo,hfx,hcS,if_pos hb]
   rw[hP];refine⟨.nil,Qn u6 (zI p id region s) (by simp) ?_⟩;have KX:Abs.Pure Tryz.prog az 113 [.agg (Qb p),I id] (.aW [.agg (Qm x),.bool true]):=C6;rw[pH];by_cases b1:region<0
   ·simp[C4,Qb,zI,hfx,Zh,Qm,tC,FV,FX,b1,Qe];exact KX
   by_cases b2:8<=region
   ·simp[C4,Qb,zI,hfx,Zh,Qm,tC,FV,FX,b1,b2,Qe];exact KX
   by_cases b3:c.2<=c.1
   ·simp[C4,Qb,zI,hfx,Zh,Qm,tC,FV,FX,b1,b2,b3,Qe];exact KX
   have b4:1000000<c.2-c.1:=by omega
   have hw:IntKind.i64.wrap (c.2-c.1)=c.2-c.1:=by rw[Qk]<;>omega
   simp[C4,Qb,zI,hfx,Zh,Qm,tC,FV,FX,b1,b2,b3,b4,hw,Qe];exact KX
  simp only[not_or]at hb;obtain⟨b1,b2,b3,b4⟩:=hb;have hw:IntKind.i64.wrap (c.2-c.1)=c.2-c.1:=by rw[Qk]<;>omega
  by_cases hk:x.ki=5
  ·have hP:Vo p id region s=[c]:=by simp only[Vo,hfx,hcS,if_neg (show¬(region<0\/8<=region\/c.2<=c.1\/1000000<c.2-c.1) by omega),if_pos hk]
   rw[hP];refine⟨.full,Qn u6 (zI p id region s) (by simp) ?_⟩;rw[pH];simp[C4,Qb,zI,hfx,Zh,Qm,tC,FV,FX,b1,b2,b3,b4,hw,hk,Qe];rw[Zh,Qm,hk]at C6;exact C6
  have awM:=pF p.nu p.de c.1;have avK:=pF p.nu p.de (c.2-1);have fC:IntKind.i64.wrap (c.2-1)=c.2-1:=by rw[Qk]<;>omega
  have KX:Abs.Pure Tryz.prog az 113 [.agg (Qb p),I id] (.aW [.agg (Qm x),.bool true]):=C6;by_cases ht:Kg p=true
  ·have hte:Vf p.nu p.de=true/\0<=p.ep/\p.ep<=9000000000:=by
    simp only[Kg,zzak,decide_eq_true_eq]at ht;exact⟨ht.1.1,ht.2⟩
   have ee:IntKind.i64.wrap (p.ep+Yn p.nu p.de (c.2-1)+1)=p.ep+Yn p.nu p.de (c.2-1)+1:=by rw[Qk]<;>omega
   have KY:IntKind.i64.wrap (p.ep+Yn p.nu p.de c.1)=p.ep+Yn p.nu p.de c.1:=by rw[Qk]<;>omega
   have ase:=k70;rw[ht]at ase;have k71:=sH p c.1 hte.2;have awN:=sH p (c.2-1) hte.2;obtain⟨u,hu⟩:∃u,uS p c=u:=⟨_,rfl⟩;have hu1:p.ep+Yn p.nu p.de c.1=u.1:=by rw[<- hu];rfl
   have JZ:p.ep+Yn p.nu p.de (c.2-1)+1=u.2:=by rw[<- hu];rfl
   have hu3:IntKind.i64.wrap u.2=u.2:=by rw[<- JZ];exact ee
   have hdf:=k6 (f:=c.1) (g:=c.2-1) hte.1 (by omega) (by omega) (by omega);have k72:=FR p x region u
   have hP:Vo p id region s=zH ((iC p x region u (lW p x region u).length).map (uE p)) [c]:=by
    simp only[Vo,hfx,hcS,hu,if_neg (show¬(region<0\/8<=region\/c.2<=c.1\/1000000<c.2-c.1) by omega),if_neg hk,ht];simp
   rw[hP];refine⟨.ro,Qn u6 (zI p id region s) (by simp) ?_⟩;rw[pH];simp[C4,Qb,zI,hfx,Zh,Qm,FV,FX,b1,b2,b3,b4,hw,hk,Qe,ht,fC,ee,hu1,JZ,hu3];rw[hu1]at k71;refine⟨KX,ase,k71,awN,k72,?_⟩;have hub: -9223372036854775808<=u.1/\u.1<=9223372036854775807/\ -9223372036854775808<=u.2/\u.2<=9223372036854775807:=by omega
   have hLi:=FT p x region u hc gK ⟨hub.1,hub.2.1⟩ hub.2.2;have hLl:=YN p x region u hc;have asf:Tq u.1 u.2 [u]:=by intro w hw;simp at hw;subst hw;omega
   have awO:∀i,Tq u.1 u.2 (iC p x region u i):=fun i=>C5 _ _ asf
   have qo:∀i,(iC p x region u i).length<=2000000:=fun i=>by
    have:=A5 ((lW p x region u).take i) [u] asf (by simp;omega);unfold iC;omega
   have qN:∀i l,(lW p x region u)[i]?=some l->iC p x region u (i+1)=zH (iC p x region u i) l:=fun i l h=>by
    unfold iC;rw[zzas,h,zzgo];rfl
   have hc0:iC p x region u 0=[u]:=by simp[iC]
   have hps:∀y,uE p y=uE p y:=fun _=>rfl;generalize hXs:lW p x region u=Xs at*
   refine jm (xs:=Xs.map FQ) (by simp;exact⟨rfl,rfl⟩) hLi (by intro y hy;simp[FQ]at hy;obtain⟨a,_,rfl⟩:=hy;rfl)
    (fun i m=>∃(bx:List (List AV))(rt:Rt),m.boxes=Qb p::[I c.1,I c.2]::Qm x::[I u.1,I u.2]::[.sl rt ((iC p x region u i).map Qe)]::bx/\(rt=.full\/rt=.ro)) (fun _ _=>False) ?_ ?_ (fun _ _ _ h=>h.elim) ?_ ?_ (fun _ _ h=>h.elim)
   ·refine⟨[],.full,?_,.inl rfl⟩;rw[hc0];rfl
   ·rintro i m m' ⟨bx,rt,hb,aR⟩ ⟨⟨b2,e1⟩,_,_⟩;exact⟨bx++b2,rt,by rw[e1,hb];rfl,aR⟩
   ·rintro l i m y hg hr ⟨bx,rt,hb,aR⟩ hy K' q1 _ _;rw[zzbl,zzce]at hy;obtain⟨y,hy,rfl⟩:=hy;rw[Ue]at hb;have hyl:=hLl y (zzad hy);have k73:=jH (iC p x region u i) y (by have:=qo i;omega) (by omega);have hn:=qN i y hy;generalize iC p x region u i=C at*
    obtain rfl|rfl:=aR
    ·have awP:=Zt (l:=[.sl .full (C.map Qe),.sl .ro (y.map Qe)]) k73 ⟨Wk.sl _ _,Wk.refl _,trivial⟩;simp[hr,Zj,FQ,hb,zI];refine⟨awP,q1 _ ⟨bx,.ro,?_,.inr rfl⟩⟩;simp[hb,hn]
    simp[hr,Zj,FQ,hb,zI];refine⟨k73,q1 _ ⟨bx,.ro,?_,.inr rfl⟩⟩;simp[hb,hn]
   rintro m ⟨bx,rt,hb,aR⟩;have hcU:=qo Xs.length;have hcI:=awO Xs.length;rw[zzbg]at hb;generalize iC p x region u Xs.length=C at*
   have k73:=jH (C.map (uE p)) [c] (by simp;omega) (by simp);have sE:∀w∈C,(-1000000000000<=w.1-p.ep/\w.1-p.ep<=1000000000000)/\(-1000000000000<=w.2-p.ep/\w.2-p.ep<=1000000000000):=fun w hw=>by have:=hcI w hw;omega
   have leaf:∀rt,Abs.Pure Tryz.prog az 117 [.sl rt (C.map (Qe ∘ uE p)),.sl .full [[I c.1,I c.2]]] (.sl .ro ((zH (C.map (ry ∘ Qe ∘ uE p)) [(c.1,c.2)]).map Qe))/\(zH (C.map (ry ∘ Qe ∘ uE p)) [(c.1,c.2)]).map Qe=(zH (C.map (uE p)) [c]).map Qe:=by
    have e1:C.map (ry ∘ Qe ∘ uE p)=C.map (uE p):=zzd fun _ _=>rfl;intro rt;rw[e1];refine⟨?_,rfl⟩;have:=Zt (l:=[.sl rt ((C.map (uE p)).map Qe),.sl .full ([c].map Qe)]) k73 ⟨Wk.sl _ _,Wk.sl _ _,trivial⟩;rw[zzcy]at this;exact this
   obtain rfl|rfl:=aR
   ·simp[hb];refine A4 Y0 p (zI p id region s) (fun _ _=>rfl) (fun _ _=>rfl) _ _ C .full _ (by simp) (by simp) (by simp) (by simp) (by simp) (by simp[hb]) (by simp[hb]) (by omega) sE ?_;intro E' bx' Lm eY hA sI FY;have h7:Abs.look E' 7=.ptr 1 0:=by rw[hA 7 (by decide)];simp
    obtain⟨rfl,hC⟩|⟨hC,k,rfl⟩:=FY
    ·simp[h7,sI,hb,zI,tC];exact leaf _
    simp[h7,sI,hb,zI,tC];exact leaf _
   simp[hb];refine A4 Y0 p (zI p id region s) (fun _ _=>rfl) (fun _ _=>rfl) _ _ C .ro _ (by simp) (by simp) (by simp) (by simp) (by simp) (by simp[hb]) (by simp[hb]) (by omega) sE ?_;intro E' bx' Lm eY hA sI FY;have h7:Abs.look E' 7=.ptr 1 0:=by rw[hA 7 (by decide)];simp
   obtain⟨rfl,hC⟩|⟨hC,k,rfl⟩:=FY
   ·simp[h7,sI,hb,zI,tC];exact leaf _
   simp[h7,sI,hb,zI,tC];exact leaf _
  have YO:Kg p=false:=by simpa using ht
  rw[YO]at k70;have hP:Vo p id region s=[]:=by simp only[Vo,hfx,hcS,if_neg (show¬(region<0\/8<=region\/c.2<=c.1\/1000000<c.2-c.1) by omega),if_neg hk,if_pos YO]
  rw[hP];refine⟨.nil,Qn u6 (zI p id region s) (by simp) ?_⟩;rw[pH];simp[C4,Qb,zI,hfx,Zh,Qm,tC,FV,FX,b1,b2,b3,b4,hw,hk,Qe,YO];exact⟨KX,k70⟩
def nO(p:Pl)(id region:Int)(s:Sp)(hc:p.cls.length<=1000000)(gK:p.sh.length<=1000000000)(cm:p.aL.length<=1000000000)(h1: -9223372036854775808<=s.1/\s.1<=9223372036854775807)(h2: -9223372036854775808<=s.2/\s.2<=9223372036854775807):
  Pure Tryz.prog az 59 [.agg (Qb p),I id,I region,.agg [I s.1,I s.2]] (.sl .ro ((Vo p id region s).map Qe)):=by
 obtain⟨rt,h⟩:=FU p id region s hc gK cm h1 h2;exact Qz h (Wk.sl _ _)
end
end Go.Proofs.YtnopaopphmjnmaaGreatDoor
