import Derived.Test.YtfliagpjbbkijaaGreatDoorVBMJ
set_option linter.all false
set_option maxRecDepth 100000
set_option maxHeartbeats 64000000
namespace Go.Proofs.YtfliagpjbbkijaaGreatDoor
noncomputable section
open Go Go.Abs
def pM(nu de f:Int): -1<=Yf nu de f/\Yf nu de f<=100000000:=by
 unfold Yf;split
 ·rename_i h;obtain⟨h1,h2,h3⟩:=h;obtain⟨b1,b2,b3,b4,b5⟩:=Jk h1;have q0:0<=f*de:=zzee h2 zE;have q1:f*de<=f*nu:=zzfx zE h2;have q2:0<=(f*de).tdiv nu:=Int.tdiv_nonneg q0 zE
  have q3:(f*de).tdiv nu<=f:=by
   rw[zzca q0];exact Int.ediv_le_of_le_mul zE q1
  omega
 omega
def sM(p:Pl)(f:Int)(ht:0<=p.ep/\p.ep<=9000000000):Pure Tryz.prog aD 228 [.agg (Qc p),I f] (I (p.ep+Yf p.nu p.de f)):=by
 have h:=QU p.nu p.de f;have hb:=pM p.nu p.de f;have hw:IntKind.i64.wrap (p.ep+Yf p.nu p.de f)=p.ep+Yf p.nu p.de f:=by rw[Qh]<;>omega
 refine Qm adB (fun _ f' l=>if f'=248 then I (Yf p.nu p.de f)else .junk) zd ?_;simp[aii,Qc,aij,hw];exact h
def wX(p:Pl)(n:Int)(hn: -1000000000000<=n-p.ep/\n-p.ep<=1000000000000)(Y:YT)(m:AM)(b:Nat)(hb:b<m.boxes.length)(hr:Qf m.boxes b=Qc p)(K:UV)(hK:K (I (wM p.nu p.de (n-p.ep))) m):
  aF Tryz.prog aD Y 231 [I n,.ptr b 0] m K:=by
 have h:=A4 p.nu p.de (n-p.ep);have hw:IntKind.i64.wrap (n-p.ep)=n-p.ep:=by rw[Qh]<;>omega
 refine Xn adG (fun _ f' l=>if f'=220 then I (wM p.nu p.de (n-p.ep))else .junk) zd ?_;simp[ain,hr,Qc,aio,hw,hb];exact⟨h,hK⟩
def lF(p:Pl)(x:It)(region:Int)(s:Sp):List (List Sp):=Qci p.cls x.id region::(ux p.cls x.ra).map fun w=>iC p.of p.sh s w.1 w.2
def Gj(l:List Sp):P1:=[.sl .ro (l.map Qe)]
def Gk(p:Pl)(x:It)(region:Int)(s:Sp):Pure Tryz.prog aD 229 [.agg (Qc p),.agg (Ql x),I region,.agg [I s.1,I s.2]] (.fn 249 [] [.ep (Qc p) 0,.ep (Ql x) 0,.ep [I region] 0,.ep [I s.1,I s.2] 0]):=by
 refine Qm adC (fun _ _ _=>.junk) zd ?_;simp[aik,ail,Qc,Ql]
def Gl(p:Pl)(x:It)(region:Int)(s:Sp)(hc:p.cls.length<=1000000)(fS:p.sh.length<=1000000000)(h1: -9223372036854775808<=s.1/\s.1<=9223372036854775807)(h2: -9223372036854775808<=s.2/\s.2<=9223372036854775807):
  Iter Tryz.prog aD 249 [] [.ep (Qc p) 0,.ep (Ql x) 0,.ep [I region] 0,.ep [I s.1,I s.2] 0] ((lF p x region s).map Gj):=by
 intro Y l m K hF;have atD:=KJ p.cls x.id region hc;have atE:=tQ p.cls x.ra zE
 have hwl:(ux p.cls x.ra).length<=1000000:=by
  unfold ux;rw[zzbv];exact zzaz (zzci _ _) hc
 refine Xn adP (fun d f' l=>if f'=250 then .sl .ro ((Qci p.cls x.id region).map Qe)else if f'=251 then .sl .ro ((ux p.cls x.ra).map Qe)else
  if f'=252 then(match l with|[_,_,.int _ a,.int _ b]=>.sl .ro ((iC p.of p.sh s a b).map Qe)|_=>.junk)else .junk) zd ?_
 unfold lF at hF;generalize hS:Qci p.cls x.id region=S at hF atD;generalize hW:ux p.cls x.ra=W at hF atE hwl;simp only[zzax,Gj]at hF;simp[T9,Qc,Ql,hS,hW];refine⟨atD,?_⟩;refine hF _ (fR.refl _) _ (fun m2 gL=>?_) (fun m2 hK=>?_)
 ·rw[zzcz]at gL;simp[hW];refine⟨atE,?_⟩;refine Qk JD (fun f mm=>∃i:Nat,f 23=I i/\i<=W.length/\wk (Y l) K ((W.drop i).map (Gj ∘ fun w=>iC p.of p.sh s w.1 w.2)) mm) (fun f _=>W.length-(numOf (f 23)).toNat) ?_ ?_
  ·exact⟨0,zd,zE,Nm gL⟩
  rintro f mm ⟨i,h23,hi,hF3⟩;rcases zzab i W.length with ah|bu
  ·obtain⟨w,hw⟩:=aX ah;have uu:=Ze hw;have aa:(i:Int)<(W.length:Int):=zE
   have ry:=bO i zE;have hd:W.drop i=w::W.drop (i+1):=by rw[zzae ah,(zza.1 hw).2]
   rw[hd,zzax]at hF3;simp only[Function.comp_apply,Gj]at hF3;have ayD:=zA p.of p.sh s w.1 w.2 fS h1 h2
   have eX:∀x,Qf (mm.boxes++[x]) mm.boxes.length=x:=fun x=>by
    simp
   simp[h23,JD,ah,aa,uu,eX];refine⟨ayD,?_⟩;refine hF3 _ (fR.box mm [[I w.1,I w.2]]) _ (fun m3 XQ=>?_) (fun m3 hK=>?_)
   ·simp[ry];refine⟨aP,⟨i+1,zE,zE,by rw[<- zzfp];exact XQ⟩,zE⟩
   simp[Ns];exact hK _ (fR.refl _)
  obtain rfl:i=W.length:=zE
  rw[zzbz,zzce]at hF3;simp[h23,JD,Ns];exact hF3 _ (fR.refl _)
 simp[Ns];exact hK _ (fR.refl _)
def XR:SC:=(⟨_,by cbv⟩:we [1,1,1,1,1,1,1,1,1,1,1,1,0,1] EI).1
def pN:SC->SC:=(⟨_,fun _=>by cbv⟩:jh [1,1,1,1,1,1,1,1,1,1,1,1,0,1] EI).1
theorem jv:EI=pN XR:=rfl
def uA(p:Pl)(w:Sp):Sp:=(wM p.nu p.de (w.1-p.ep),wM p.nu p.de (w.2-p.ep))
def A7(Y:YT)(p:Pl)(orc:X1)(ho:∀d l,orc d 74 l=.gd false .junk)(ho9:∀d l,orc d 999999 l=.junk)(E:QP)(m:AM)(U:List Sp)(rt:Rt)(Q:So)
  (h85:Abs.look E 85=.sl rt (U.map Qe))(h86:Abs.look E 86=I U.length)(h87:Abs.look E 87=I 0)(tS:Abs.look E 14=.fn 231 [] [.ptr 0 0])(sJ:Abs.look E 15=.sl .nil [])
  (h0:0<m.boxes.length)(hr:Qf m.boxes 0=Qc p)(hU:U.length<=10000000)(hUb:∀w∈U,(-1000000000000<=w.1-p.ep/\w.1-p.ep<=1000000000000)/\(-1000000000000<=w.2-p.ep/\w.2-p.ep<=1000000000000))
  (hQ:∀E' bx Lm dA,gj vj E' E->Abs.look E' 15=.sl dA ((U.map (uA p)).map Qe)->(dA=.nil/\U=[]\/U≠[]/\∃k,dA=.own k 2)->Q .normal ⟨Za 108 E',⟨m.boxes++bx,Lm,m.st,m.ln⟩⟩):
  vc Tryz.prog aD orc Y XR ⟨Za 108 E,m⟩ Q:=by
 simp[XR];refine Qk vj (fun f mm=>∃(i:Nat)(bx:X2)(Lm:P2)(dA:Rt),f 87=I i/\i<=U.length/\mm=⟨m.boxes++bx,Lm,m.st,m.ln⟩/\f 15=.sl dA ((U.map (Qe ∘ uA p)).take i)/\(i=0/\dA=.nil\/i≠0/\∃k,dA=.own k 2/\Lm[k]?=some i)) (fun f _=>U.length-(numOf (f 87)).toNat) ?_ ?_
 ·exact⟨0,[],m.lens,.nil,by simp[h87],zE,zd,by simp[sJ],.inl ⟨rfl,rfl⟩⟩
 rintro f mm ⟨i,bx,Lm,dA,h87',hi,rfl,h15',bn⟩;rcases zzab i U.length with ah|bu
 ·obtain⟨w,hw⟩:=aX ah;have uu:=Ze hw;obtain⟨c1,c2⟩:=hUb w (zzad hw);have aa:(i:Int)<(U.length:Int):=zE
  have ry:=bO i zE;have gm:IntKind.i64.wrap 1=1:=by rw[Qh]<;>omega
  have bD:U.take (i+1)=U.take i++[w]:=by rw[zzap,hw];rfl
  have iG:(U.take i).length=i:=by rw[zzav];omega
  have A1:∀x,Qf (m.boxes++(bx++[x])) (m.boxes.length+bx.length)=x:=fun x=>by
   simp
  have Cz:∀x,Qf (m.boxes++x) 0=Qc p:=fun x=>by rw[Qi h0];exact hr
  have e1:=fun m' h1 h2 K hK=>wX p w.1 c1 Y m' 0 h1 h2 K hK;have e2:=fun m' h1 h2 K hK=>wX p w.2 c2 Y m' 0 h1 h2 K hK;have hG:(U.map (Qe ∘ uA p)).take (i+1)=(U.map (Qe ∘ uA p)).take i++[[I (wM p.nu p.de (w.1-p.ep)),I (wM p.nu p.de (w.2-p.ep))]]:=by rw[zzap,zzbc,hw];rfl
  have hGl:((U.map (Qe ∘ uA p)).take i).length=i:=by rw[zzav,zzbv];omega
  have hG2:∀row∈(U.map (Qe ∘ uA p)).take i,row.length=2:=by
   intro row h;obtain⟨a,_,rfl⟩:=zzbk.1 (zzdq h);rfl
  generalize hGG:(U.map (Qe ∘ uA p)).take i=G at*
  obtain⟨rfl,rfl⟩|⟨aK,k,rfl,hk⟩:=bn
  ·simp[h87',h85,h86,tS,h15',vj,ah,aa,uu,A1,ho,ho9];refine Jc [(I (wM p.nu p.de (w.1-p.ep)),⟨m.boxes++(bx++[[I w.1,I w.2]]),Lm,m.st,m.ln⟩),(I (wM p.nu p.de (w.2-p.ep)),⟨m.boxes++(bx++[[I w.1,I w.2]]),Lm,m.st,m.ln⟩)] ?_;simp[h87',h85,h86,tS,h15',ah,aa,uu,A1,ho,ho9,ry,gm];refine⟨e1 _ (by simp;omega) (Cz _) _ ⟨rfl,rfl⟩,e2 _ (by simp;omega) (Cz _) _ ⟨rfl,rfl⟩,⟨by rintro row (h|rfl);exact hG2 row h;rfl,zE⟩,ag ?_,?_,zE⟩
   ·repeat(first|exact Qa _ _|refine Qb _ rfl ?_)
   exact⟨1,rfl,zE,_,_,⟨rfl,rfl⟩,_,⟨rfl,hG.symm⟩,.inr ⟨zE,Lm.length,rfl,by simp[hGl]⟩⟩
  simp[h87',h85,h86,tS,h15',vj,ah,aa,uu,A1,ho,ho9];refine Jc [(I (wM p.nu p.de (w.1-p.ep)),⟨m.boxes++(bx++[[I w.1,I w.2]]),Lm,m.st,m.ln⟩),(I (wM p.nu p.de (w.2-p.ep)),⟨m.boxes++(bx++[[I w.1,I w.2]]),Lm,m.st,m.ln⟩)] ?_;simp[h87',h85,h86,tS,h15',ah,aa,uu,A1,ho,ho9,ry,hk];refine⟨e1 _ (by simp;omega) (Cz _) _ ⟨rfl,rfl⟩,e2 _ (by simp;omega) (Cz _) _ ⟨rfl,rfl⟩,⟨hGl.symm,by rintro row (h|rfl);exact hG2 row h;rfl,zE⟩,ag ?_,?_,zE⟩
  ·repeat(first|exact Qa _ _|refine Qb _ rfl ?_)
  exact⟨i+1,zE,zE,_,_,⟨rfl,rfl⟩,_,⟨rfl,hG.symm⟩,.inr ⟨zE,k,rfl,by simp[hGl,(zza.1 hk).1]⟩⟩
 obtain rfl:i=U.length:=zE
 rw[zzai zd]at h15';simp[h87',h86,vj];refine hQ _ bx Lm dA ?_ ?_ ?_
 ·repeat(first|exact Qa _ _|refine Qb _ rfl ?_)
 ·simp[h15']
 obtain⟨h1,h2⟩|⟨h1,k,h2,h3⟩:=bn
 ·exact .inl ⟨h2,zzbl.1 h1⟩
 exact .inr ⟨fun h=>h1 (by rw[h];rfl),k,h2⟩
def KW:∀(l:List Sp)(lo hi:Int),VS l->(∀w∈l,lo<=w.1/\w.2<=hi)->(l.length:Int)<=max 0 (hi-lo)
 |[],lo,hi,_,_=>by simp only[zzcp];omega
 |s::l,lo,hi,h,hb=>by
  obtain⟨h1,h2,h3⟩:=dS.1 h;have:=KW l (s.2+1) hi h3 (fun w hw=>⟨by have:=h2 w hw;omega,(hb w (by simp[hw])).2⟩);have b:=hb s zd;simp only[zzba];omega
def SU(lo hi:Int)(l:List Sp):Prop:=∀w∈l,lo<=w.1/\w.1<=hi/\lo<=w.2/\w.2<=hi
def uB{lo hi:Int}{a b:List Sp}(h:SU lo hi a):SU lo hi (zq a b):=by
 obtain⟨⟨h1,_⟩,h2⟩:=kR a b;intro w hw;have ah:=h1 w hw;obtain⟨s,hs,s1,s2⟩:=((h2 w.1).1 ⟨w,hw,zE,ah⟩).1;obtain⟨t,ht,t1,t2⟩:=((h2 (w.2-1)).1 ⟨w,hw,zE,zE⟩).1;have:=h s hs;have:=h t ht;omega
def XS{lo hi:Int}{a b:List Sp}(h:SU lo hi a):((zq a b).length:Int)<=max 0 (hi-lo):=
 KW _ _ _ (kR a b).1 (fun w hw=>⟨(uB h w hw).1,(uB h w hw).2.2.2⟩)
def kS{nu de f g:Int}(hv:Vf nu de=true)(h0:0<=f)(hfg:f<=g)(hg:g<=100000000):Yf nu de f<=Yf nu de g/\Yf nu de g<=Yf nu de f+(g-f):=by
 obtain⟨b1,b2,b3,b4,b5⟩:=Jk hv;rw[Yf,Yf,if_pos ⟨hv,h0,zE⟩,if_pos ⟨hv,zE,hg⟩];have q0:0<=f*de:=zzee h0 zE;have q1:0<=g*de:=zzee zE zE;rw[zzca q0,zzca q1];have m1:f*de<=g*de:=Int.mul_le_mul_of_nonneg_right hfg zE;have m2:(g-f)*de<=(g-f)*nu:=zzfx zE zE
 have m3:g*de<=f*de+(g-f)*nu:=by
  have:g*de=f*de+(g-f)*de:=by rw[<- Int.add_mul];congr 1;omega
  omega
 constructor
 ·exact Int.ediv_le_ediv zE m1
 have:=Int.ediv_le_ediv (c:=nu) zE m3;rw[Int.add_mul_ediv_right _ _ zE]at this;exact this
def QY(s:Sp):Sp:=(max s.1 0,min s.2 100000001)
def uS(p:Pl)(c:Sp):Sp:=(p.ep+Yf p.nu p.de c.1,p.ep+Yf p.nu p.de (c.2-1)+1)
def iD(p:Pl)(x:It)(region:Int)(u:Sp)(i:Nat):List Sp:=((lF p x region u).take i).foldl zq [u]
def Vp(p:Pl)(id region:Int)(s:Sp):List Sp:=
 let c:=QY s
 match Xk id p.aT with
 |none=>[]
 |some x=>if region<0\/8<=region\/c.2<=c.1\/1000000<c.2-c.1 then[]else if x.ki=5 then[c]else if Jt p=false then[]else
  zq ((iD p x region (uS p c) (lF p x region (uS p c)).length).map (uA p)) [c]
def rz:P1->Sp
 |[.int _ a,.int _ b]=>(a,b)
 |_=>(0,0)
@[simp] def aeS(l:List Sp):(l.map Qe).map rz=l:=by
 induction l with
 |nil=>rfl
 |cons a l ih=>simp only[zzax,ih];rfl
@[simp] def atF(l:List Sp):l.map (rz ∘ Qe)=l:=by rw[<- zzcz];exact aeS l
@[simp] theorem atG(a b:Int):rz [I a,I b]=(a,b):=rfl
def zB(p:Pl)(id region:Int)(s:Sp):X1:=fun d f l=>
 if f=999999 then .junk else
 if f=218 then Zu (Xk id p.aT)else
 if f=227 then .bool (Jt p)else
 if f=228 then(match l with|[_,.int _ n]=>I (p.ep+Yf p.nu p.de n)|_=>.junk)else
 if f=229 then(match l with|[_,.agg x,_,.agg u]=>.fn 249 [] [.ep (Qc p) 0,.ep x 0,.ep [I region] 0,.ep u 0]|_=>.junk)else
 if f=230 then(match l with|[.sl _ A,.sl _ B]=>.sl .ro ((zq (A.map rz) (B.map rz)).map Qe)|_=>.junk)else .gd false .junk
def KX(cs:List Cl)(item region:Int)(h:cs.length<=1000000):(Qci cs item region).length<=2000000:=by
 have h1:=Yu (nk (dN (Ku cs item region)) (wA (Ku cs item region)) (dN (Ku cs item region)).length);have h2:=wC (dN (Ku cs item region)) (wA (Ku cs item region)) (dN (Ku cs item region)).length;have h3:=N1 (Ku cs item region);have h4:(Ku cs item region).length<=cs.length:=zzci _ _;unfold Qci;omega
def XT(p:Pl)(x:It)(region:Int)(u:Sp)(h:p.cls.length<=1000000):∀l∈lF p x region u,l.length<=2000000:=by
 intro l hl;rw[lF,zzao,zzbk]at hl;obtain rfl|⟨w,_,rfl⟩:=hl
 ·exact KX _ _ _ h
 have:=XP p.of p.sh u w.1 w.2;omega
def Dh{lo hi:Int}:∀(ls:List (List Sp))(a:List Sp),SU lo hi a->SU lo hi (ls.foldl zq a)
 |[],a,h=>h
 |l::r,a,h=>Dh r _ (uB h)
def A8{lo hi:Int}:∀(ls:List (List Sp))(a:List Sp),SU lo hi a->(a.length:Int)<=max 1 (hi-lo)->((ls.foldl zq a).length:Int)<=max 1 (hi-lo)
 |[],a,_,h=>h
 |l::r,a,h,hl=>A8 r _ (uB h) (by have:=XS (b:=l) h;omega)
def Gm(p:Pl)(id region:Int)(s:Sp)(hc:p.cls.length<=1000000)(fS:p.sh.length<=1000000000)(cV:p.aT.length<=1000000000)(h1: -9223372036854775808<=s.1/\s.1<=9223372036854775807)(h2: -9223372036854775808<=s.2/\s.2<=9223372036854775807):
  ∃rt,Pure Tryz.prog aD 194 [.agg (Qc p),I id,I region,.agg [I s.1,I s.2]] (.sl rt ((Vp p id region s).map Qe)):=by
 have SV:=kP p id cV;have k70:=KQ p fS;obtain⟨c,hcS⟩:∃c,QY s=c:=⟨_,rfl⟩;have hcb:0<=c.1/\c.2<=100000001/\c.1<=9223372036854775807/\ -9223372036854775808<=c.2:=by rw[<- hcS,QY];simp only;omega
 have hmx:max s.1 0=c.1:=by rw[<- hcS];rfl
 have hmn:min s.2 100000001=c.2:=by rw[<- hcS];rfl
 have Gn:(if s.1<0 then 0 else s.1)=c.1:=zE
 have Gp:(if 100000001<s.2 then 100000001 else s.2)=c.2:=zE
 cases hfx:Xk id p.aT with
 |none=>
  have hP:Vp p id region s=[]:=by simp[Vp,hfx]
  rw[hP];refine⟨.nil,Qm ov (zB p id region s) zd ?_⟩;rw[jv];simp[pN,Qc,zB,hfx,Zu,gQ,Gn,Gp];simpa[hfx,Zu,Qc]using SV
 |some x=>
  rw[hfx]at SV;by_cases hb:region<0\/8<=region\/c.2<=c.1\/1000000<c.2-c.1
  ·have hP:Vp p id region s=[]:=by simp only[Vp,hfx,hcS,if_pos hb]
   rw[hP];refine⟨.nil,Qm ov (zB p id region s) zd ?_⟩;have KY:Abs.Pure Tryz.prog aD 218 [.agg (Qc p),I id] (.aS [.agg (Ql x),.bool true]):=SV;rw[jv];by_cases b1:region<0
   ·simp[pN,Qc,zB,hfx,Zu,Ql,gQ,Gn,Gp,b1,Qe];exact KY
   by_cases b2:8<=region
   ·simp[pN,Qc,zB,hfx,Zu,Ql,gQ,Gn,Gp,b1,b2,Qe];exact KY
   by_cases b3:c.2<=c.1
   ·simp[pN,Qc,zB,hfx,Zu,Ql,gQ,Gn,Gp,b1,b2,b3,Qe];exact KY
   have b4:1000000<c.2-c.1:=zE
   have hw:IntKind.i64.wrap (c.2-c.1)=c.2-c.1:=by rw[Qh]<;>omega
   simp[pN,Qc,zB,hfx,Zu,Ql,gQ,Gn,Gp,b1,b2,b3,b4,hw,Qe];exact KY
  simp only[not_or]at hb;obtain⟨b1,b2,b3,b4⟩:=hb;have hw:IntKind.i64.wrap (c.2-c.1)=c.2-c.1:=by rw[Qh]<;>omega
  by_cases hk:x.ki=5
  ·have hP:Vp p id region s=[c]:=by simp only[Vp,hfx,hcS,if_neg (show¬(region<0\/8<=region\/c.2<=c.1\/1000000<c.2-c.1) by omega),if_pos hk]
   rw[hP];refine⟨.full,Qm ov (zB p id region s) zd ?_⟩;rw[jv];simp[pN,Qc,zB,hfx,Zu,Ql,gQ,Gn,Gp,b1,b2,b3,b4,hw,hk,Qe];rw[Zu,Ql,hk]at SV;exact SV
  have ayE:=pM p.nu p.de c.1;have aw1:=pM p.nu p.de (c.2-1);have gm:IntKind.i64.wrap (c.2-1)=c.2-1:=by rw[Qh]<;>omega
  have KY:Abs.Pure Tryz.prog aD 218 [.agg (Qc p),I id] (.aS [.agg (Ql x),.bool true]):=SV;by_cases ht:Jt p=true
  ·have hte:Vf p.nu p.de=true/\0<=p.ep/\p.ep<=9000000000:=by
    simp only[Jt,zzak,decide_eq_true_eq]at ht;exact⟨ht.1.1,ht.2⟩
   have eY:IntKind.i64.wrap (p.ep+Yf p.nu p.de (c.2-1)+1)=p.ep+Yf p.nu p.de (c.2-1)+1:=by rw[Qh]<;>omega
   have XU:IntKind.i64.wrap (p.ep+Yf p.nu p.de c.1)=p.ep+Yf p.nu p.de c.1:=by rw[Qh]<;>omega
   have atH:=k70;rw[ht]at atH;have k71:=sM p c.1 hte.2;have ayF:=sM p (c.2-1) hte.2;obtain⟨u,hu⟩:∃u,uS p c=u:=⟨_,rfl⟩;have hu1:p.ep+Yf p.nu p.de c.1=u.1:=by rw[<- hu];rfl
   have JU:p.ep+Yf p.nu p.de (c.2-1)+1=u.2:=by rw[<- hu];rfl
   have hu3:IntKind.i64.wrap u.2=u.2:=by rw[<- JU];exact eY
   have hdf:=kS (f:=c.1) (g:=c.2-1) hte.1 zE zE zE;have k72:=Gk p x region u
   have hP:Vp p id region s=zq ((iD p x region u (lF p x region u).length).map (uA p)) [c]:=by
    simp only[Vp,hfx,hcS,hu,if_neg (show¬(region<0\/8<=region\/c.2<=c.1\/1000000<c.2-c.1) by omega),if_neg hk,ht];simp
   rw[hP];refine⟨.ro,Qm ov (zB p id region s) zd ?_⟩;rw[jv];simp[pN,Qc,zB,hfx,Zu,Ql,Gn,Gp,b1,b2,b3,b4,hw,hk,Qe,ht,gm,eY,hu1,JU,hu3];rw[hu1]at k71;refine⟨KY,atH,k71,ayF,k72,?_⟩;have hub: -9223372036854775808<=u.1/\u.1<=9223372036854775807/\ -9223372036854775808<=u.2/\u.2<=9223372036854775807:=zE
   have hLi:=Gl p x region u hc fS ⟨hub.1,hub.2.1⟩ hub.2.2;have hLl:=XT p x region u hc;have atI:SU u.1 u.2 [u]:=by intro w hw;simp at hw;subst hw;omega
   have ayG:∀i,SU u.1 u.2 (iD p x region u i):=fun i=>Dh _ _ atI
   have oJ:∀i,(iD p x region u i).length<=2000000:=fun i=>by
    have:=A8 ((lF p x region u).take i) [u] atI (by simp;omega);unfold iD;omega
   have qq:∀i l,(lF p x region u)[i]?=some l->iD p x region u (i+1)=zq (iD p x region u i) l:=fun i l h=>by
    unfold iD;rw[zzap,h,zzgm];rfl
   have hc0:iD p x region u 0=[u]:=by simp[iD]
   have hps:∀y,uA p y=uA p y:=fun _=>rfl;generalize hXs:lF p x region u=Xs at*
   refine ji (xs:=Xs.map Gj) (by simp;exact⟨rfl,rfl⟩) hLi (by intro y hy;simp[Gj]at hy;obtain⟨a,_,rfl⟩:=hy;rfl)
    (fun i m=>∃(bx:X2)(rt:Rt),m.boxes=Qc p::[I c.1,I c.2]::Ql x::[I u.1,I u.2]::[.sl rt ((iD p x region u i).map Qe)]::bx/\(rt=.full\/rt=.ro)) (fun _ _=>False) ?_ ?_ (fun _ _ _ h=>h.elim) ?_ ?_ (fun _ _ h=>h.elim)
   ·refine⟨[],.full,?_,.inl rfl⟩;rw[hc0];rfl
   ·rintro i m m' ⟨bx,rt,hb,bn⟩ ⟨⟨b2,e1⟩,_,_⟩;exact⟨bx++b2,rt,by rw[e1,hb];rfl,bn⟩
   ·rintro l i m y hg hr ⟨bx,rt,hb,bn⟩ hy K' q1 _ _;rw[zzbc,zzb]at hy;obtain⟨y,hy,rfl⟩:=hy;rw[Ut]at hb;have hyl:=hLl y (zzad hy);have k73:=jq (iD p x region u i) y (by have:=oJ i;omega) zE;have hn:=qq i y hy;generalize iD p x region u i=C at*
    obtain rfl|rfl:=bn
    ·have ayH:=Xl (l:=[.sl .full (C.map Qe),.sl .ro (y.map Qe)]) k73 ⟨Wk.sl _ _,Ps,trivial⟩;simp[hr,Zk,Gj,hb,zB];refine⟨ayH,q1 _ ⟨bx,.ro,?_,.inr rfl⟩⟩;simp[hb,hn]
    simp[hr,Zk,Gj,hb,zB];refine⟨k73,q1 _ ⟨bx,.ro,?_,.inr rfl⟩⟩;simp[hb,hn]
   rintro m ⟨bx,rt,hb,bn⟩;have hcU:=oJ Xs.length;have hcI:=ayG Xs.length;rw[zzbv]at hb;generalize iD p x region u Xs.length=C at*
   have k73:=jq (C.map (uA p)) [c] (by simp;omega) zd;have yP:∀w∈C,(-1000000000000<=w.1-p.ep/\w.1-p.ep<=1000000000000)/\(-1000000000000<=w.2-p.ep/\w.2-p.ep<=1000000000000):=fun w hw=>by have:=hcI w hw;omega
   have leaf:∀rt,Abs.Pure Tryz.prog aD 230 [.sl rt (C.map (Qe ∘ uA p)),.sl .full [[I c.1,I c.2]]] (.sl .ro ((zq (C.map (rz ∘ Qe ∘ uA p)) [(c.1,c.2)]).map Qe))/\(zq (C.map (rz ∘ Qe ∘ uA p)) [(c.1,c.2)]).map Qe=(zq (C.map (uA p)) [c]).map Qe:=by
    have e1:C.map (rz ∘ Qe ∘ uA p)=C.map (uA p):=zzdb fun _ _=>rfl;intro rt;rw[e1];refine⟨?_,rfl⟩;have:=Xl (l:=[.sl rt ((C.map (uA p)).map Qe),.sl .full ([c].map Qe)]) k73 ⟨Wk.sl _ _,Wk.sl _ _,trivial⟩;rw[zzcz]at this;exact this
   obtain rfl|rfl:=bn
   ·simp[hb];refine A7 Y0 p (zB p id region s) (fun _ _=>rfl) (fun _ _=>rfl) _ _ C .full _ zd zd zd zd zd (by simp[hb]) (by simp[hb]) zE yP ?_;intro E' bx' Lm dA hA sJ XV;have h7:Abs.look E' 7=.ptr 1 0:=by rw[hA 7 (by decide)];simp
    obtain⟨rfl,hC⟩|⟨hC,k,rfl⟩:=XV
    ·simp[h7,sJ,hb,zB,gQ];exact leaf _
    simp[h7,sJ,hb,zB,gQ];exact leaf _
   simp[hb];refine A7 Y0 p (zB p id region s) (fun _ _=>rfl) (fun _ _=>rfl) _ _ C .ro _ zd zd zd zd zd (by simp[hb]) (by simp[hb]) zE yP ?_;intro E' bx' Lm dA hA sJ XV;have h7:Abs.look E' 7=.ptr 1 0:=by rw[hA 7 (by decide)];simp
   obtain⟨rfl,hC⟩|⟨hC,k,rfl⟩:=XV
   ·simp[h7,sJ,hb,zB,gQ];exact leaf _
   simp[h7,sJ,hb,zB,gQ];exact leaf _
  have XW:Jt p=false:=by simpa using ht
  rw[XW]at k70;have hP:Vp p id region s=[]:=by simp only[Vp,hfx,hcS,if_neg (show¬(region<0\/8<=region\/c.2<=c.1\/1000000<c.2-c.1) by omega),if_neg hk,if_pos XW]
  rw[hP];refine⟨.nil,Qm ov (zB p id region s) zd ?_⟩;rw[jv];simp[pN,Qc,zB,hfx,Zu,Ql,gQ,Gn,Gp,b1,b2,b3,b4,hw,hk,Qe,XW];exact⟨KY,k70⟩
def nD(p:Pl)(id region:Int)(s:Sp)(hc:p.cls.length<=1000000)(fS:p.sh.length<=1000000000)(cV:p.aT.length<=1000000000)(h1: -9223372036854775808<=s.1/\s.1<=9223372036854775807)(h2: -9223372036854775808<=s.2/\s.2<=9223372036854775807):
  Pure Tryz.prog aD 194 [.agg (Qc p),I id,I region,.agg [I s.1,I s.2]] (.sl .ro ((Vp p id region s).map Qe)):=by
 obtain⟨rt,h⟩:=Gm p id region s hc fS cV h1 h2;exact Zc h (Wk.sl _ _)
def XX{lo hi:Int}{a b:List Sp}(h:SU lo hi b):SU lo hi (zq a b):=by
 obtain⟨⟨h1,_⟩,h2⟩:=kR a b;intro w hw;have ah:=h1 w hw;obtain⟨s,hs,s1,s2⟩:=((h2 w.1).1 ⟨w,hw,zE,ah⟩).2;obtain⟨t,ht,t1,t2⟩:=((h2 (w.2-1)).1 ⟨w,hw,zE,zE⟩).2;have:=h s hs;have:=h t ht;omega
def Qcw(p:Pl)(id region:Int)(s:Sp):(Vp p id region s).length<=1000000:=by
 unfold Vp;simp only;generalize QY s=c;cases Xk id p.aT with
 |none=>simp
 |some x=>
  simp only;split
  ·simp
  rename_i hb;simp only[not_or]at hb;split
  ·simp
  split
  ·simp
  have bT:SU c.1 c.2 [c]:=by intro w hw;simp at hw;subst hw;omega
  have:=KW _ c.1 c.2 (kR ((iD p x region (uS p c) (lF p x region (uS p c)).length).map (uA p)) [c]).1 (fun w hw=>by have:=XX bT w hw;omega);omega
def frB(f:Int):Bool:=decide (0<=f/\f<=100000000)
def Zv(p:Pl)(id region f n:Int):Bool:=
 if n<1\/1000000<n\/frB f=false\/frB (f+n-1)=false then false else(KP [(f,f+n)] (Vp p id region (f,f+n))).isEmpty
def A9(p:Pl)(id region f n:Int):X1:=fun d g l=>
 if g=192 then(match l with|[.int _ n]=>.bool (frB n)|_=>.junk)else
 if g=194 then .sl .ro ((Vp p id region (f,f+n)).map Qe)else
 if g=193 then .bool (KP [(f,f+n)] (Vp p id region (f,f+n))).isEmpty else .junk
def Qen(p:Pl)(id region f n:Int)(hc:p.cls.length<=1000000)(fS:p.sh.length<=1000000000)(cV:p.aT.length<=1000000000):
  Pure Tryz.prog aD 151 [.agg (Qc p),I id,I region,I f,I n] (.bool (Zv p id region f n)):=by
 have k34:=sK f;have aeT:=sK (f+n-1);refine Qm acH (A9 p id region f n) zd ?_;by_cases b1:n<1
 ·simp[Ag,Qc,A9,Ah,b1,Zv]
 by_cases b2:1000000<n
 ·simp[Ag,Qc,A9,Ah,b1,b2,Zv]
 by_cases b3:frB f=true
 ·have b3':0<=f/\f<=100000000:=by simpa[frB]using b3
  have gm:IntKind.i64.wrap (f+n)=f+n:=by rw[Qh]<;>omega
  have eY:IntKind.i64.wrap (f+n-1)=f+n-1:=by rw[Qh]<;>omega
  rw[show decide (0<=f/\f<=100000000)=true from b3]at k34;by_cases b4:frB (f+n-1)=true
  ·rw[show decide (0<=f+n-1/\f+n-1<=100000000)=true from b4]at aeT;have k36:=nD p id region (f,f+n) hc fS cV (by simp only;omega) (by simp only;omega);have k35:=F7 (Vp p id region (f,f+n)) (f,f+n) (by have:=Qcw p id region (f,f+n);omega);simp[Ag,Qc,A9,Ah,b1,b2,b3,b4,gm,eY,Zv];exact⟨k34,aeT,k36,k35⟩
  have b4':frB (f+n-1)=false:=by simpa using b4
  rw[show decide (0<=f+n-1/\f+n-1<=100000000)=false from b4']at aeT;simp[Ag,Qc,A9,Ah,b1,b2,b3,b4',gm,eY,Zv];exact⟨k34,aeT⟩
 have b3':frB f=false:=by simpa using b3
 rw[show decide (0<=f/\f<=100000000)=false from b3']at k34;simp[Ag,Qc,A9,Ah,b1,b2,b3',Zv];exact k34
def Zo(id:Int):List En->Option En
 |[]=>none
 |x::r=>if x.id=id then some x else Zo id r
def Wn:Option En->AV
 |some x=>.aS [.agg (Qd x),.bool true]
 |none=>.aS [.agg [I 0,I 0,I 0,I 0,I 0,I 0,.sl .nil []],.bool false]
def nF(e:En):Pure Tryz.prog aD 145 [.agg (Qd e)] (I e.id):=by
 refine Qm acC (fun _ _ _=>.junk) zd ?_;simp[ahf,Qd,ahg]
def KZ(L:List En)(id:Int)(hl:L.length<=1000000000):Pure Tryz.prog aD 144 [.sl .ro (L.map Qd),I id,.fn 145 [] []] (Wn (Zo id L)):=by
 refine Qm Cc (fun _ f l=>if f=145 then(match l with|[.agg (c::_)]=>c|_=>.junk)else .junk) zd ?_;simp[M0];refine Qk ef (fun f m=>∃(i:Nat)(bx:X2),f 13=I i/\i<=L.length/\Zo id (L.drop i)=Zo id L/\m=⟨[I 0,I 0,I 0,I 0,I 0,I 0,.sl .nil []]::bx,[],fun _=>.gone,0⟩) (fun f _=>L.length-(numOf (f 13)).toNat) ?_ ?_
 ·exact⟨0,[],zd,zE,rfl,rfl⟩
 rintro f m ⟨i,bx,fH,hi,hf,rfl⟩;rcases zzab i L.length with ah|bu
 ·obtain⟨x,hx⟩:=aX ah;have ai:Qf (L.map Qd) i=Qd x:=Qv (by simp[hx]);have aa:(i:Int)<(L.length:Int):=zE
  have hw:=bO i zE;have hd:L.drop i=x::L.drop (i+1):=by rw[zzae ah,(zza.1 hx).2]
  have hk:=nF x;rw[hd,Zo]at hf;by_cases aL:x.id=id
  ·rw[if_pos aL]at hf;simp[fH,ah,aa,ai,Qd,aL,ef,u7,<- hf,Wn];simpa[Qd,aL]using hk
  rw[if_neg aL]at hf;simp[fH,ah,aa,ai,Qd,aL,ef,hw];refine⟨hk,aP,⟨i+1,zd,zE,hf⟩,zE⟩
 rw[zzaj bu]at hf;have bT:¬(i:Int)<(L.length:Int):=zE
 simp[fH,zzbj.2 bu,bT,ef,u7,<- hf,Wn,Zo]
def K3{w:World}{γ:G}{rows:X2}{v:Value}(h:au w γ (.sl .ro rows) v):au w γ (.sl .nil rows) v\/au w γ (.sl .nn rows) v:=by
 cases h with
 |sl b off sz cv hcap hnil ha hsz hc hr bn=>
  rename_i a cap;by_cases e:a=none
  ·exact .inl (.sl b off sz cv hcap hnil ha hsz hc hr e)
  exact .inr (.sl b off sz cv hcap hnil ha hsz hc hr e)
def sN{P:Program}{gl:Nat->AV}{f:FuncId}{rows:X2}{r:AV}(h:Pure P gl f [.sl .nil rows] r)(k:Pure P gl f [.sl .nn rows] r):Pure P gl f [.sl .ro rows] r:=
 ⟨h.1,fun ro w vs fh hr=>by
  match vs,hr with
  |[v],hr=>
   rcases K3 (hr.2 0 _ v rfl rfl)with h1|h1
   ·exact h.2 ro w [v] fh ⟨rfl,fun i x y hx hy=>by
     cases i with
     |zero=>cases hx;cases hy;exact h1
     |succ i=>cases hx⟩
   exact k.2 ro w [v] fh ⟨rfl,fun i x y hx hy=>by
    cases i with
    |zero=>cases hx;cases hy;exact h1
    |succ i=>cases hx⟩
  |[],hr=>exact absurd hr.1 zd
  |_::_::_,hr=>exact absurd hr.1 zd⟩
def Di:Pure Tryz.prog aD 60 [.sl .nn []] (.sl .ro []):=by
 have:∃rt,Pure Tryz.prog aD 60 [.sl .nn []] (.sl rt []):=by
  refine⟨.ro,Qm IZ (fun _ _ _=>.junk) zd ?_⟩;simp[abX,abY]
 obtain⟨rt,h⟩:=this;exact Zc h (Wk.sl _ _)
def Qcd(l:List Sp)(hl:l.length<=8796093022208):Pure Tryz.prog aD 60 [.sl .ro (l.map Qe)] (.sl .ro (l.map Qe)):=by
 cases l with
 |nil=>exact sN (Zc jx (Wk.sl _ _)) Di
 |cons x r=>
  refine Qm IZ (fun _ _ _=>.junk) zd ?_;simp[abX,abY];simp at hl;refine⟨⟨rfl,?_⟩,zE⟩;rintro row a b _ rfl;rfl
def K4(p:Pl)(id:Int)(hl:p.ens.length<=1000000000)(ha:∀e∈p.ens,e.al.length<=8796093022208):Pure Tryz.prog aD 93 [.agg (Qc p),I id] (Wn (Zo id p.ens)):=by
 have h59:=KZ p.ens id hl;refine Qm Tp (fun _ f l=>if f=144 then Wn (Zo id p.ens)else l.headD .junk) zd ?_;cases hf:Zo id p.ens with
 |none=>
  rw[hf]at h59;simp[ab0,ab1,Qc,Wn,hf];exact⟨h59,jx⟩
 |some x=>
  rw[hf]at h59
  have hx:x∈p.ens:=by
   have:∀l:List En,Zo id l=some x->x∈l:=by
    intro l;induction l with
    |nil=>intro h;cases h
    |cons y r ih=>
     intro h;simp only[Zo]at h;split at h
     ·cases h;simp
     simp[ih h]
   exact this _ hf
  have hc:=Qcd x.al (ha x hx);simp[ab0,ab1,Qc,Wn,Qd,hf];exact⟨h59,hc⟩
def K5(e:It):Pure Tryz.prog aD 179 [.agg (Ql e)] (I e.id):=by
 refine Qm M6 (fun _ _ _=>.junk) zd ?_;simp[TR,Ql,TS]
def wY(L:List It)(id:Int)(hl:L.length<=1000000000):Pure Tryz.prog aD 191 [.sl .ro (L.map Ql),I id,.fn 179 [] []] (Zu (Xk id L)):=by
 refine Qm ada (fun _ f l=>if f=179 then(match l with|[.agg (c::_)]=>c|_=>.junk)else .junk) zd ?_;simp[ahN];refine Qk Ci (fun f m=>∃(i:Nat)(bx:X2),f 13=I i/\i<=L.length/\Xk id (L.drop i)=Xk id L/\m=⟨[I 0,I 0,I 0,I 0,I 0]::bx,[],fun _=>.gone,0⟩) (fun f _=>L.length-(numOf (f 13)).toNat) ?_ ?_
 ·exact⟨0,[],zd,zE,rfl,rfl⟩
 rintro f m ⟨i,bx,fH,hi,hf,rfl⟩;rcases zzab i L.length with ah|bu
 ·obtain⟨x,hx⟩:=aX ah;have ai:Qf (L.map Ql) i=Ql x:=Qv (by simp[hx]);have aa:(i:Int)<(L.length:Int):=zE
  have hw:=bO i zE;have hd:L.drop i=x::L.drop (i+1):=by rw[zzae ah,(zza.1 hx).2]
  have hk:=K5 x;rw[hd,Xk]at hf;by_cases aL:x.id=id
  ·rw[if_pos aL]at hf;simp[fH,ah,aa,ai,Ql,aL,Ci,TY,<- hf,Zu];simpa[Ql,aL]using hk
  rw[if_neg aL]at hf;simp[fH,ah,aa,ai,Ql,aL,Ci,hw];refine⟨hk,aP,⟨i+1,zd,zE,hf⟩,zE⟩
 rw[zzaj bu]at hf;have bT:¬(i:Int)<(L.length:Int):=zE
 simp[fH,zzbj.2 bu,bT,Ci,TY,<- hf,Zu,Xk]
def QZ(p:Pl)(id:Int)(hl:p.aT.length<=1000000000):Pure Tryz.prog aD 147 [.agg (Qc p),I id] (Zu (Xk id p.aT)):=by
 have h:=wY p.aT id hl;refine Qm M3 (fun _ f l=>if f=191 then Zu (Xk id p.aT)else .junk) zd ?_;cases hf:Xk id p.aT with
 |none=>
  rw[hf]at h;simp[EF,EG,Qc,Zu,hf];exact h
 |some x=>
  rw[hf]at h;simp[EF,EG,Qc,Zu,Ql,hf];exact h
def wZ(p:Pl)(f t:Int):Pure Tryz.prog aD 94 [.agg (Qc p),I f,I t] (.fn 146 [] [.ep (Qc p) 0,.ep [I f] 0,.ep [I t] 0]):=by
 refine Qm alu (fun _ _ _=>.junk) zd ?_;simp[apX,apY,Qc]
def uC(b:Nat->Bool):Nat->Int
 |0=>0
 |n+1=>uC b n+if b n then 2 ^ n else 0
def Dj(b:Nat->Bool):∀n,0<=uC b n/\uC b n<2 ^ n
 |0=>by simp[uC]
 |n+1=>by
  have:=Dj b n;have h2:(2:Int) ^ (n+1)=2*2 ^ n:=by rw[Int.pow_succ];omega
  rw[uC,h2];split<;>omega
def XY:∀i:Nat,i<8->∀x:Nat,x<2 ^ i->IntKind.i64.wrap (((((x:Int)%2 ^ IntKind.i64.bits).toNat|||(IntKind.i64.wrap (2 ^ min i IntKind.i64.bits)%2 ^ IntKind.i64.bits).toNat:Nat)):Int)=(x:Int)+2 ^ i:=by
 decide+kernel
def sO(Y:YT)(p:Pl)(h:FuncId)(cap:P1)(b:Nat->Bool)(m:AM)(K:UV)
  (hg:∀(i:Nat)(mm:AM),i<8->(i:Int)<p.rg->(∃bx,mm=⟨m.boxes++bx,m.lens,m.st,m.ln⟩)->∀K':UV,K' (.bool (b i)) mm->aF Tryz.prog aD Y h ([I i]++cap) mm K')
  (hK:∀bx,K (I (uC b (min p.rg 8).toNat)) ⟨m.boxes++bx,m.lens,m.st,m.ln⟩):aF Tryz.prog aD Y 148 [.agg (Qc p),.fn h [] cap] m K:=by
 refine Xn acE (fun _ _ _=>.gd false .junk) zd ?_;obtain⟨n,hn⟩:∃n,(min p.rg 8).toNat=n:=⟨_,rfl⟩
 have Cz:Qf (m.boxes++[Qc p]) m.boxes.length=Qc p:=by
  simp
 rw[hn]at hK;have hmn:(if 8<p.rg then 8 else p.rg)=min p.rg 8:=zE
 simp only[Qc]at Cz;simp[ahh,Qc,Cz];refine Qk JB (fun f mm=>∃(i:Nat)(bx:X2),f 10=I i/\(i=0\/i<=n)/\mm=⟨m.boxes++bx,m.lens,m.st,m.ln⟩/\f 5=I (uC b i)) (fun f _=>n-(numOf (f 10)).toNat) ?_ ?_
 ·exact⟨0,_,zd,.inl rfl,rfl,by simp[uC]⟩
 rintro f mm ⟨i,bx,lE,hi,rfl,h5⟩;by_cases ah:(i:Int)<min p.rg 8
 ·have bT:i<n:=zE
  have hw:=bO i zE;have gT:=Dj b i;have hg':=hg i ⟨m.boxes++bx,m.lens,m.st,m.ln⟩ zE zE ⟨_,rfl⟩
  have hor:IntKind.i64.wrap ((((uC b i%2 ^ IntKind.i64.bits).toNat|||(IntKind.i64.wrap (2 ^ min i IntKind.i64.bits)%2 ^ IntKind.i64.bits).toNat:Nat)):Int)=uC b i+2 ^ i:=by
   obtain⟨x,hx⟩:∃x:Nat,uC b i=(x:Int):=⟨(uC b i).toNat,zE⟩
   have Q0:x<2 ^ i:=by
    have h2:=gT.2;rw[hx]at h2
    exact_mod_cast h2
   rw[hx];exact XY i zE x Q0
  have hms:uC b (i+1)=uC b i+if b i then 2 ^ i else 0:=rfl;simp[lE,h5,JB,hmn,ah];refine hg' _ ?_;cases hb:b i with
  |true=>
   rw[hb]at hms;simp[hor,hw];refine⟨aP,⟨i+1,zE,zE,by rw[hms];rfl⟩,zE⟩
  |false=>
   rw[hb]at hms;simp[hw];refine⟨aP,⟨i+1,zE,zE,by rw[hms];simp⟩,zE⟩
 have bT:i=n:=zE
 subst bT;simp[lE,h5,JB,hmn,ah,ahi];exact hK _
def Ki(fr t a:Int):Int:=if 1<=fr then min (t-a) fr else t-a
def Yo(fr t a:Int):List (Int×Int):=if a<t then(a,Ki fr t a)::Yo fr t (a+Ki fr t a)else[]
termination_by(t-a).toNat
decreasing_by simp only[Ki];split<;>omega
def Yp(p:Pl):Int:=match Xk p.fi p.aT with|some x=>x.fr|none=>0
def amV(p:Pl):Int:=uC (fun _=>true) (min p.rg 8).toNat
def Qap(p:Pl)(x:Int×Int):P1:=[.agg [I 0,I p.fi,I x.1,I x.2,I 0,I (amV p),.sl .nil []]]
def atJ(p:Pl):X1:=fun _ f _=>if f=147 then Zu (Xk p.fi p.aT)else .gd false .junk
def w8(p:Pl)(f t:Int)(hl:p.aT.length<=1000000000)(hb: -1000000000<=f/\t<=1000000000)(hf:f<=1000000000/\ -1000000000<=t):
  Ge Tryz.prog aD 146 [] [.ep (Qc p) 0,.ep [I f] 0,.ep [I t] 0] ((Yo (Yp p) t f).map (Qap p)):=by
 intro Y l m K hF;have XZ:=QZ p p.fi hl;refine Xn acD (atJ p) zd ?_
 obtain⟨b,row,atK,ai⟩:∃(b:Bool)(y:It),Zu (Xk p.fi p.aT)=.aS [.agg (Ql y),.bool b]/\y.fr=Yp p:=by
  unfold Yp;cases Xk p.fi p.aT with
  |none=>exact⟨false,⟨0,0,0,0,0⟩,rfl,rfl⟩
  |some x=>exact⟨true,x,rfl,rfl⟩
 rw[atK]at XZ;simp[TI,Qc,atJ,atK,Ql]
 refine⟨XZ,sO Y p 149 [] (fun _=>true) _ _ (fun i mm _ _ _ K' h=>by
  show aF _ _ _ _ [I (i:Int)] _ _;refine Xn acF (fun _ _ _=>.junk) zd ?_;simp[ahj,ahk];exact h) fun bx=>?_⟩
 obtain⟨B0,dZ⟩:∃B0,m.boxes.length=B0:=⟨_,rfl⟩;have mj:=hF.ext (m':=⟨m.boxes++[[I row.id,I row.ki,I row.fr,I row.sp,I row.ra]]++bx,m.lens,m.st,m.ln⟩) ⟨zd,fun j hj _=>by rw[zzbd];exact Qi hj,⟨[],zd⟩,fun _ _=>rfl⟩;simp only[dZ];refine Qk Cd (fun g mm=>∃(a:Int)(O:Nat->Prop),g 8=I a/\ -1000000000<=a/\a<=1000000000/\B0<mm.boxes.length/\Qf mm.boxes B0=[I row.id,I row.ki,I row.fr,I row.sp,I row.ra]/\O B0/\mh (Y l) K ((Yo (Yp p) t a).map (Qap p)) O mm) (fun g _=>(t-numOf (g 8)).toNat) ?_ ?_
 ·refine⟨f,_,zd,zE,zE,by simp[dZ],?_,.inr ⟨zE,by simp;omega⟩,mj⟩;show Qf (m.boxes++[_]++bx) B0=_;rw[Qi (by simp;omega)];subst dZ;simp
 rintro g mm ⟨a,O,h8,a1,a2,KR,XN,zy,hFo⟩;by_cases ah:a<t
 ·rw[Yo,if_pos ah]at hFo;simp only[zzax,Qap]at hFo;have gm:IntKind.i64.wrap (t-a)=t-a:=by rw[Qh]<;>omega
  have hfn:Ki (Yp p) t a=if 1<=row.fr then min (t-a) row.fr else t-a:=by rw[Ki,ai]
  have Iz:1<=Ki (Yp p) t a/\Ki (Yp p) t a<=t-a:=by rw[hfn];split<;>omega
  have eY:IntKind.i64.wrap (a+Ki (Yp p) t a)=a+Ki (Yp p) t a:=by rw[Qh]<;>omega
  have hmn:(if row.fr<t-a then row.fr else t-a)=min (t-a) row.fr:=zE
  have hM:uC (fun _=>true) (min p.rg 8).toNat=amV p:=rfl;generalize hN:Ki (Yp p) t a=N at*
  have key:∀g1,(1<=row.fr->g1=min (t-a) row.fr)->True:=fun _ _=>trivial;have hwN:IntKind.i64.wrap N=N:=by rw[Qh]<;>omega
  by_cases Fx:1<=row.fr
  ·rw[if_pos Fx]at hfn;simp[h8,Cd,ah,XN,Fx,gm,hmn,<- hfn,hwN,hM,KR];refine hFo _ (bS.refl _ _) _ (fun m2 yQ gL=>?_) (fun m2 hK=>?_)
   ·have q1:Qf m2.boxes B0=[I row.id,I row.ki,I row.fr,I row.sp,I row.ra]:=by rw[yQ.2 B0 (.inl zy)];exact XN
    have uq:=yQ.1;simp[eY];refine⟨aP,⟨zE,zE,zE,q1,_,.inl zy,gL⟩,zE⟩
   simp[M1];exact hK _ (bS.refl _ _)
  rw[if_neg Fx]at hfn;simp[h8,Cd,ah,XN,Fx,gm,<- hfn,hwN,hM,KR];refine hFo _ (bS.refl _ _) _ (fun m2 yQ gL=>?_) (fun m2 hK=>?_)
  ·have q1:Qf m2.boxes B0=[I row.id,I row.ki,I row.fr,I row.sp,I row.ra]:=by rw[yQ.2 B0 (.inl zy)];exact XN
   have uq:=yQ.1;simp[eY];refine⟨aP,⟨zE,zE,zE,q1,_,.inl zy,gL⟩,zE⟩
  simp[M1];exact hK _ (bS.refl _ _)
 rw[Yo,if_neg ah]at hFo;simp only[zzce]at hFo;simp[h8,Cd,ah,M1];exact hFo _ (bS.refl _ _)
def Gq(Y:YT)(p:Pl)(e:En)(a r fr:Int)(m:AM)(bp bf be:Nat)(hc:p.cls.length<=1000000)(fS:p.sh.length<=1000000000)(cV:p.aT.length<=1000000000)
  (h1:Qf m.boxes bp=Qc p)(h2:Qf m.boxes bf=[I fr])(h3:Qf m.boxes be=Qd e)(K:UV)(hK:K (.bool (Zv p a r fr e.fr)) m):
  aF Tryz.prog aD Y 150 [I a,I r,.ptr bp 0,.ptr bf 0,.ptr be 0] m K:=by
 have k:=Qen p a r fr e.fr hc fS cV;refine Xn acG (fun _ f _=>if f=151 then .bool (Zv p a r fr e.fr)else .junk) zd ?_;simp only[Qc]at h1;simp only[Qd]at h3;simp[ahl,ahm,h1,h2,h3];exact⟨k,hK⟩
def X0(Y:YT)(p:Pl)(e:En)(r fr:Int)(m:AM)(bp bf be bg:Nat)(hc:p.cls.length<=1000000)(fS:p.sh.length<=1000000000)(cV:p.aT.length<=1000000000)
  (h1:Qf m.boxes bp=Qc p)(h2:Qf m.boxes bf=[I fr])(h3:Qf m.boxes be=Qd e)(h4:Qf m.boxes bg=[.fn 150 [] [.ptr bp 0,.ptr bf 0,.ptr be 0]])(K:UV)(hK:K (.bool (Zv p e.it r fr e.fr)) m):
  aF Tryz.prog aD Y 152 [I r,.ptr bg 0,.ptr be 0] m K:=by
 have k:=Gq Y p e e.it r fr m bp bf be hc fS cV h1 h2 h3;refine Xn acI (fun _ _ _=>.gd false .junk) zd ?_;simp only[Qd]at h3;simp[ahn,h4,h3];refine k _ ?_;simp[aho];exact hK
def pO(p:Pl)(e:En)(fr:Int)(s:Sp):Bool:=decide (1<=s.1)&&decide (s.1<p.rg)&&Zv p s.2 s.1 fr e.fr
def evM(p:Pl)(e:En)(fr:Int):Int:=uC (fun i=>Zv p e.it i fr e.fr) (min p.rg 8).toNat
def IA(p:Pl)(e:En)(fr:Int)(rt:Rt)(l:List Sp):P1:=[I e.id,I e.it,I fr,I e.fr,I 0,I (evM p e fr),.sl rt (l.map Qe)]
def Q1(p:Pl)(e:En)(fr:Int)(i:Nat):List Sp:=(e.al.take i).filter (pO p e fr)
def Gr(p:Pl)(e:En)(fr:Int)(hc:p.cls.length<=1000000)(fS:p.sh.length<=1000000000)(cV:p.aT.length<=1000000000)(fc:e.al.length<=8796093022208):
  ∃rt,Pure Tryz.prog aD 95 [.agg (Qc p),.agg (Qd e),I fr] (.agg (IA p e fr rt (e.al.filter (pO p e fr)))):=by
 refine⟨if e.al.filter (pO p e fr)=[]then .nil else .ro,Qm alx (fun _ _ _=>.gd false .junk) zd ?_⟩;simp[alv,Qc,Qd];refine sO Y0 p 152 [.ptr 4 0,.ptr 1 0] (fun i=>Zv p e.it i fr e.fr) _ _ ?_ fun bx=>?_
 ·rintro i mm _ _ ⟨bx,rfl⟩ K' h;exact X0 Y0 p e i fr _ 0 2 1 4 hc fS cV (by simp[Qc]) zd (by simp[Qd]) zd K' h
 have hM:uC (fun i=>Zv p e.it i fr e.fr) (min p.rg 8).toNat=evM p e fr:=rfl;simp[hM]
 refine Qk zZ (fun f mm=>∃(i:Nat)(bx:X2)(Lm:P2)(rt:Rt),f 27=I i/\i<=e.al.length/\mm=⟨Qc p::Qd e::[I fr]::[I 0,I 0,I 0,I 0,I 0,I 0,.sl .nil []]::[.fn 150 [] [.ptr 0 0,.ptr 2 0,.ptr 1 0]]::IA p e fr rt (Q1 p e fr i)::bx,Lm,fun _=>.gone,0⟩/\
  (Q1 p e fr i=[]/\rt=.nil\/Q1 p e fr i≠[]/\∃k,rt=.own k 2/\Lm[k]?=some (Q1 p e fr i).length)) (fun f _=>e.al.length-(numOf (f 27)).toNat) ?_ ?_
 ·refine⟨0,bx,[],.nil,zd,zE,?_,.inl ⟨by simp[Q1],rfl⟩⟩;simp[Qc,Qd,IA,Q1]
 rintro f mm ⟨i,bx,Lm,rt,h27,hi,rfl,bn⟩;rcases zzab i e.al.length with ah|bu
 ·obtain⟨x,hx⟩:=aX ah;have ai:=Ze hx;have aa:(i:Int)<(e.al.length:Int):=zE
  have hw:=bO i zE
  have bD:Q1 p e fr (i+1)=Q1 p e fr i++if pO p e fr x then[x]else[]:=by
   unfold Q1;rw[zzap,hx,zzdd];simp only[Option.toList,zzeg,List.filter_nil]
  generalize hG:Q1 p e fr i=G at*
  by_cases c1:1<=x.1
  ·by_cases c2:x.1<p.rg
   ·have hpm:=fun mm h1 h2 h3=>Gq Y0 p e x.2 x.1 fr mm 0 2 1 hc fS cV h1 h2 h3;simp[h27,Qc,Qd,IA,ai,aa,ah,zZ,c1,c2,hw];have hGl:G.length<=i:=by rw[<- hG];unfold Q1;exact zzaz (zzci _ _) (by rw[zzav];omega)
    refine hpm _ rfl rfl rfl _ ?_;have hA:pO p e fr x=Zv p x.2 x.1 fr e.fr:=by simp[pO,c1,c2]
    rw[hA]at bD;cases hb:Zv p x.2 x.1 fr e.fr with
    |false=>
     rw[hb]at bD;simp only[zzbo,if_false,zzau]at bD;simp[hw];refine⟨aP,⟨i+1,zE,zE,bx++[[I x.1,I x.2]],Lm,rt,by rw[bD];simp[Qc,Qd,IA],by rw[bD];exact bn⟩,zE⟩
    |true=>
     rw[hb]at bD;simp only[if_true]at bD;obtain⟨h1,rfl⟩|⟨h1,k,rfl,hk⟩:=bn
     ·subst h1;simp only[zzah]at bD;simp[hw];refine⟨aP,⟨i+1,zE,zE,bx++[[I x.1,I x.2]],Lm++[1],.own Lm.length 2,by rw[bD];simp[Qc,Qd,IA,Qe],by rw[bD];exact .inr ⟨zd,_,rfl,zd⟩⟩,zE⟩
     simp[hw,hk];refine⟨⟨by rintro row (⟨a,b,_,rfl⟩|rfl)<;>rfl,zE⟩,ag ?_,⟨i+1,zE,zE,bx++[[I x.1,I x.2]],Lm.set k (G.length+1),.own k 2,by rw[bD];simp[Qc,Qd,IA,Qe],by rw[bD];exact .inr ⟨zd,_,rfl,by rw[zzbg ((zza.1 hk).1)];simp⟩⟩,zE⟩;repeat(first|exact Qa _ _|refine Qb _ rfl ?_)
   have hA:pO p e fr x=false:=by simp[pO,c2]
   simp[h27,Qc,Qd,IA,ai,aa,ah,zZ,c1,c2,hw];rw[hA]at bD;simp only[zzbo,if_false,zzau]at bD;refine⟨aP,⟨i+1,zE,zE,bx++[[I x.1,I x.2]],Lm,rt,by rw[bD];simp[Qc,Qd,IA],by rw[bD];exact bn⟩,zE⟩
  have hA:pO p e fr x=false:=by simp[pO,c1]
  simp[h27,Qc,Qd,IA,ai,aa,ah,zZ,c1,hw];rw[hA]at bD;simp only[zzbo,if_false,zzau]at bD;refine⟨aP,⟨i+1,zE,zE,bx++[[I x.1,I x.2]],Lm,rt,by rw[bD];simp[Qc,Qd,IA],by rw[bD];exact bn⟩,zE⟩
 obtain rfl:i=e.al.length:=zE
 have hE:Q1 p e fr e.al.length=e.al.filter (pO p e fr):=by simp[Q1]
 rw[hE]at bn;generalize e.al.filter (pO p e fr)=G at*
 obtain⟨h1,rfl⟩|⟨h1,k,rfl,hk⟩:=bn
 ·simp[h27,Qc,Qd,IA,zZ,alw,h1,hE]
 simp[h27,Qc,Qd,IA,zZ,alw,h1,hE]
def aeU(p:Pl)(e:En)(fr:Int):AV:=.agg (IA p e fr .ro (e.al.filter (pO p e fr)))
def K6(p:Pl)(e:En)(fr:Int)(hc:p.cls.length<=1000000)(fS:p.sh.length<=1000000000)(cV:p.aT.length<=1000000000)(fc:e.al.length<=8796093022208):
  Pure Tryz.prog aD 95 [.agg (Qc p),.agg (Qd e),I fr] (aeU p e fr):=by
 obtain⟨rt,h⟩:=Gr p e fr hc fS cV fc;exact Zc h (Wq ⟨Ps,Ps,Ps,Ps,Ps,Ps,Wk.sl _ _,trivial⟩)
structure ck where
 id:Int
 it:Int
 st:Int
 fr:Int
 i:Int
 re:Int
 al:List Sp
 nl:Bool
def Zy(e:ck):P1:=[I e.id,I e.it,I e.st,I e.fr,I e.i,I e.re,.sl (if e.nl then .nil else .ro) (e.al.map Qe)]
def Us(p:Pl)(x:Int×Int):ck:=⟨0,p.fi,x.1,x.2,0,amV p,[],true⟩
def K7(p:Pl)(e:En)(fr:Int):ck:=⟨e.id,e.it,fr,e.fr,0,evM p e fr,e.al.filter (pO p e fr),false⟩
def nG(p:Pl)(m:AM)(L:List ck):Prop:=1<m.boxes.length/\Qf m.boxes 0=Qc p/\∃rt,Qf m.boxes 1=[.sl rt (L.map Zy)]/\(L=[]/\rt=.nil\/L≠[]/\∃k,rt=.own k 7/\m.lens[k]?=some L.length)
def nG.XO{p:Pl}{m m':AM}{L:List ck}{O:Nat->Prop}(h:nG p m L)(e:bS O m m')(h0:¬O 0)(h1:¬O 1):nG p m' L:=by
 obtain⟨a1,a2,rt,a3,a4⟩:=h;obtain⟨e1,e2,⟨lx,e3⟩,_⟩:=e;refine⟨zE,by rw[e2 0 zE h0];exact a2,rt,by rw[e2 1 a1 h1];exact a3,?_⟩;obtain h|⟨hn,k,hk,hl⟩:=a4
 ·exact .inl h
 exact .inr ⟨hn,k,hk,by rw[e3,zzam (zza.1 hl).1];exact hl⟩
def atM:SC:=(⟨_,by cbv⟩:we [1,1,1,0,1,0,0,1,1,0,0,1,1,1,0,1,0] IX).1
def amW(Y:YT)(p:Pl)(a t:Int)(hl:p.aT.length<=1000000000)(hb: -1000000000<=a/\t<=1000000000)(hf:a<=1000000000/\ -1000000000<=t)(orc:X1)(ho:∀d l,orc d 999999 l=.junk)(E:QP)(m:AM)(L:List ck)
  (hO:nG p m L)(hL:L.length+(Yo (Yp p) t a).length<=1000000000)(hg:Abs.look E 67=.fn 146 [] [.ep (Qc p) 0,.ep [I a] 0,.ep [I t] 0])(h7:Abs.look E 7=.ptr 1 0)(Q:So)
  (hQ:∀m',nG p m' (L++(Yo (Yp p) t a).map (Us p))->m.boxes.length<=m'.boxes.length->(∀j,2<=j->j<m.boxes.length->Qf m'.boxes j=Qf m.boxes j)->Q .normal ⟨Za 98 E,m'⟩):vc Tryz.prog aD orc Y atM ⟨Za 98 E,m⟩ Q:=by
 have cV:=w8 p a t hl hb hf;generalize hX:Yo (Yp p) t a=xs at*
 unfold atM
 refine kQ (xs:=xs.map (Qap p)) (by simp[hg];try exact⟨rfl,rfl⟩) cV (by intro x hx;simp at hx;obtain⟨u,v,_,rfl⟩:=hx;rfl)
  (fun O i mm=>(∀j,O j->m.boxes.length<=j)/\nG p mm (L++(xs.take i).map (Us p))/\m.boxes.length<=mm.boxes.length/\(∀j,2<=j->j<m.boxes.length->Qf mm.boxes j=Qf m.boxes j)) (fun _ _ _=>False) ?_ ?_ (fun _ _ _ _ h=>h.elim) ?_ ?_ (fun _ _ _ h=>h.elim)
 ·exact⟨fun _ h=>h.elim,by rw[zzgc,zzce,zzau];exact hO,zzaa _,fun _ _ _=>rfl⟩
 ·rintro O i m1 m2 ⟨h1,h2,h3,h4⟩ e;have od:=hO.1;refine⟨?_,h2.XO e (fun h=>by have:=h1 _ h;omega) (fun h=>by have:=h1 _ h;omega),zzaz h3 e.1,fun j j1 j2=>by rw[e.2.1 j zE (fun h=>by have:=h1 _ h;omega)];exact h4 j j1 j2⟩;rintro j (h|h)
  ·exact h1 j h
  omega
 ·rintro O l i mm x zy cw QW eX ⟨h1,h2,h3,h4⟩ hx K' q1 _ _;rw[zzbc,zzb]at hx;obtain⟨x,hx,rfl⟩:=hx;have lu:=(zza.1 hx).1;have bD:L++(xs.take (i+1)).map (Us p)=(L++(xs.take i).map (Us p))++[Us p x]:=by rw[zzap,hx];simp
  have hml:=hO.1;have aH:(L++(xs.take i).map (Us p)).length<=1000000000:=by simp;omega
  obtain⟨o1,o2,rt,o3,o4⟩:=h2;simp only[Ut,CU]at o1 o2 o3 o4 h3 h4;have fk:∀y,Qf (mm.boxes++y) 1=[.sl rt ((L++(xs.take i).map (Us p)).map Zy)]:=fun y=>by rw[Qi zE];exact o3
  have A1:∀y,Qf (mm.boxes++[y]) mm.boxes.length=y:=fun y=>by
   simp
  have fin:∀(T:P1)(v:P1)(row:P1)(ls:P2)(st:Nat->LS)(ln:Nat),nG p ⟨(mm.boxes++[row]).set 1 v,ls,st,ln⟩ (L++(xs.take (i+1)).map (Us p))->K' .normal ⟨T,⟨(mm.boxes++[row]).set 1 v,ls,st,ln⟩⟩:=by
   intro T v row ls st ln hv;refine q1 _ ⟨zd,fun j hj=>?_⟩ ⟨h1,hv,by simp;omega,fun j j1 j2=>?_⟩
   ·have:=(zy j hj).2;have:=h1 j hj;show Qf ((mm.boxes++[row]).set 1 v) j=_;rw[Qx _ zE,Qi zE]
   show Qf ((mm.boxes++[row]).set 1 v) j=_;rw[Qx _ zE,Qi zE];exact h4 j j1 j2
  have Dk:∀(v row:P1),Qf ((mm.boxes++[row]).set 1 v) 0=Qc p/\Qf ((mm.boxes++[row]).set 1 v) 1=v:=fun v row=>⟨by rw[Qx _ zE,Qi zE];exact o2,Xj _ (by simp;omega)⟩;rw[bD]at fin;generalize L++(xs.take i).map (Us p)=G at*
  have hG7:∀row∈G.map Zy,row.length=7:=by
   intro row h;obtain⟨e,_,rfl⟩:=zzbk.1 h;rfl
  obtain⟨rfl,rfl⟩|⟨aK,k,rfl,hk⟩:=o4
  ·simp[eX,Zk,Qap,h7,fk,A1,ho];subst_vars;exact⟨zE,fin _ _ _ _ _ _ ⟨by simp;omega,(Dk _ _).1,_,(Dk _ _).2,.inr ⟨zd,_,rfl,zd⟩⟩⟩
  simp[eX,Zk,Qap,h7,fk,A1,ho];refine⟨⟨hk,?_,zE⟩,zE,fin _ _ _ _ _ _ ⟨by simp;omega,(Dk _ _).1,_,by rw[(Dk _ _).2];simp;rfl,.inr ⟨zd,k,rfl,by simp[(zza.1 hk).1]⟩⟩⟩;rintro row (⟨e,_,rfl⟩|rfl)<;>rfl
 rintro mm' mm ⟨h1,h2,h3,h4⟩;rw[zzbv,zzbp]at h2;exact hQ _ h2 h3 h4
def atN:SC:=(⟨_,by cbv⟩:we [1,1,1,1,0,1,0] IX).1
def amX(Y:YT)(p:Pl)(a t:Int)(hl:p.aT.length<=1000000000)(hb: -1000000000<=a/\t<=1000000000)(hf:a<=1000000000/\ -1000000000<=t)(orc:X1)(ho:∀d l,orc d 999999 l=.junk)(E:QP)(m:AM)(L:List ck)
  (hO:nG p m L)(hL:L.length+(Yo (Yp p) t a).length<=1000000000)(hg:Abs.look E 91=.fn 146 [] [.ep (Qc p) 0,.ep [I a] 0,.ep [I t] 0])(h7:Abs.look E 7=.ptr 1 0)(Q:So)
  (hQ:∀m',nG p m' (L++(Yo (Yp p) t a).map (Us p))->m.boxes.length<=m'.boxes.length->(∀j,2<=j->j<m.boxes.length->Qf m'.boxes j=Qf m.boxes j)->Q .normal ⟨Za 98 E,m'⟩):vc Tryz.prog aD orc Y atN ⟨Za 98 E,m⟩ Q:=by
 have cV:=w8 p a t hl hb hf;generalize hX:Yo (Yp p) t a=xs at*
 unfold atN
 refine kQ (xs:=xs.map (Qap p)) (by simp[hg];try exact⟨rfl,rfl⟩) cV (by intro x hx;simp at hx;obtain⟨u,v,_,rfl⟩:=hx;rfl)
  (fun O i mm=>(∀j,O j->m.boxes.length<=j)/\nG p mm (L++(xs.take i).map (Us p))/\m.boxes.length<=mm.boxes.length/\(∀j,2<=j->j<m.boxes.length->Qf mm.boxes j=Qf m.boxes j)) (fun _ _ _=>False) ?_ ?_ (fun _ _ _ _ h=>h.elim) ?_ ?_ (fun _ _ _ h=>h.elim)
 ·exact⟨fun _ h=>h.elim,by rw[zzgc,zzce,zzau];exact hO,zzaa _,fun _ _ _=>rfl⟩
 ·rintro O i m1 m2 ⟨h1,h2,h3,h4⟩ e;have od:=hO.1;refine⟨?_,h2.XO e (fun h=>by have:=h1 _ h;omega) (fun h=>by have:=h1 _ h;omega),zzaz h3 e.1,fun j j1 j2=>by rw[e.2.1 j zE (fun h=>by have:=h1 _ h;omega)];exact h4 j j1 j2⟩;rintro j (h|h)
  ·exact h1 j h
  omega
 ·rintro O l i mm x zy cw QW eX ⟨h1,h2,h3,h4⟩ hx K' q1 _ _;rw[zzbc,zzb]at hx;obtain⟨x,hx,rfl⟩:=hx;have lu:=(zza.1 hx).1;have bD:L++(xs.take (i+1)).map (Us p)=(L++(xs.take i).map (Us p))++[Us p x]:=by rw[zzap,hx];simp
  have hml:=hO.1;have aH:(L++(xs.take i).map (Us p)).length<=1000000000:=by simp;omega
  obtain⟨o1,o2,rt,o3,o4⟩:=h2;simp only[Ut,CU]at o1 o2 o3 o4 h3 h4;have fk:∀y,Qf (mm.boxes++y) 1=[.sl rt ((L++(xs.take i).map (Us p)).map Zy)]:=fun y=>by rw[Qi zE];exact o3
  have A1:∀y,Qf (mm.boxes++[y]) mm.boxes.length=y:=fun y=>by
   simp
  have fin:∀(T:P1)(v:P1)(row:P1)(ls:P2)(st:Nat->LS)(ln:Nat),nG p ⟨(mm.boxes++[row]).set 1 v,ls,st,ln⟩ (L++(xs.take (i+1)).map (Us p))->K' .normal ⟨T,⟨(mm.boxes++[row]).set 1 v,ls,st,ln⟩⟩:=by
   intro T v row ls st ln hv;refine q1 _ ⟨zd,fun j hj=>?_⟩ ⟨h1,hv,by simp;omega,fun j j1 j2=>?_⟩
   ·have:=(zy j hj).2;have:=h1 j hj;show Qf ((mm.boxes++[row]).set 1 v) j=_;rw[Qx _ zE,Qi zE]
   show Qf ((mm.boxes++[row]).set 1 v) j=_;rw[Qx _ zE,Qi zE];exact h4 j j1 j2
  have Dk:∀(v row:P1),Qf ((mm.boxes++[row]).set 1 v) 0=Qc p/\Qf ((mm.boxes++[row]).set 1 v) 1=v:=fun v row=>⟨by rw[Qx _ zE,Qi zE];exact o2,Xj _ (by simp;omega)⟩;rw[bD]at fin;generalize L++(xs.take i).map (Us p)=G at*
  have hG7:∀row∈G.map Zy,row.length=7:=by
   intro row h;obtain⟨e,_,rfl⟩:=zzbk.1 h;rfl
  obtain⟨rfl,rfl⟩|⟨aK,k,rfl,hk⟩:=o4
  ·simp[eX,Zk,Qap,h7,fk,A1,ho];subst_vars;exact⟨zE,fin _ _ _ _ _ _ ⟨by simp;omega,(Dk _ _).1,_,(Dk _ _).2,.inr ⟨zd,_,rfl,zd⟩⟩⟩
  simp[eX,Zk,Qap,h7,fk,A1,ho];refine⟨⟨hk,?_,zE⟩,zE,fin _ _ _ _ _ _ ⟨by simp;omega,(Dk _ _).1,_,by rw[(Dk _ _).2];simp;rfl,.inr ⟨zd,k,rfl,by simp[(zza.1 hk).1]⟩⟩⟩;rintro row (⟨e,_,rfl⟩|rfl)<;>rfl
 rintro mm' mm ⟨h1,h2,h3,h4⟩;rw[zzbv,zzbp]at h2;exact hQ _ h2 h3 h4
def Ba(fr t:Int):∀(n:Nat)(a:Int),(t-a).toNat<=n->((Yo fr t a).length:Int)<=max 0 (t-a):=by
 intro n;induction n with
 |zero=>intro a h;rw[Yo,if_neg zE];simp only[zzcp];omega
 |succ n ih=>
  intro a h;rw[Yo];split
  ·rename_i ah;have hN:1<=Ki fr t a/\Ki fr t a<=t-a:=by unfold Ki;split<;>omega
   have:=ih (a+Ki fr t a) zE;simp only[zzba];omega
  simp only[zzcp];omega
def nG.app{p:Pl}{m:AM}{L:List ck}(h:nG p m L)(x:X2):nG p ⟨m.boxes++x,m.lens,m.st,m.ln⟩ L:=by
 obtain⟨a1,a2,rt,a3,a4⟩:=h;exact⟨by simp;omega,by show Qf (m.boxes++x) 0=_;rw[Qi zE];exact a2,rt,by show Qf (m.boxes++x) 1=_;rw[Qi zE];exact a3,a4⟩
def Gs(p:Pl)(s:Sp)(at_:Int):Option En:=match Zo s.1 p.ens with
 |some e=>if s.1=0\/e.fr<1\/s.2<at_\/p.ln-s.2<e.fr then none else some e
 |none=>none
def lG(p:Pl):List Sp->Int->List ck
 |[],at_=>(Yo (Yp p) p.ln at_).map (Us p)
 |s::r,at_=>match Gs p s at_ with
  |none=>lG p r at_
  |some e=>((Yo (Yp p) s.2 at_).map (Us p)++[K7 p e s.2])++lG p r (s.2+e.fr)
def rA(p:Pl)(l:List Sp)(at_:Int):List ck:=if at_<0\/p.ln<at_ then[]else lG p l at_
def pP(p:Pl):X1:=fun d f l=>
 if f=999999 then .junk else
 if f=93 then(match l with|[_,.int _ n]=>Wn (Zo n p.ens)|_=>.junk)else
 if f=94 then(match l with|[_,.int _ a,.int _ t]=>.fn 146 [] [.ep (Qc p) 0,.ep [I a] 0,.ep [I t] 0]|_=>.junk)else
 if f=95 then(match l with|[_,.agg [.int _ a,.int _ b,.int _ c,.int _ d,.int _ e,.int _ g,.sl _ rows],.int _ fr]=>aeU p ⟨a,b,c,d,e,g,rows.map rz⟩ fr|_=>.junk)else .gd false .junk
def w9{id:Int}{x:En}:∀{l:List En},Zo id l=some x->x∈l/\x.id=id
 |[],h=>by cases h
 |y::r,h=>by
  simp only[Zo]at h;split at h
  ·rename_i hy;cases h;exact⟨zd,hy⟩
  obtain⟨h1,h2⟩:=w9 h;exact⟨by simp[h1],h2⟩
def K8(p:Pl)(l:List Sp)(Gt:Int)(hc:p.cls.length<=1000000)(fS:p.sh.length<=1000000000)(cV:p.aT.length<=1000000000)(hen:p.ens.length<=1000000000)(fc:∀e∈p.ens,e.al.length<=8796093022208)
  (eO:p.ln<=1000000)(hl:l.length<=1000000)(oc:∀s∈l,-1000000000<=s.2/\s.2<=1000000000):∃rt,Pure Tryz.prog aD 51 [.agg (Qc p),.sl .ro (l.map Qe),I Gt] (.sl rt ((rA p l Gt).map Zy)):=by
 by_cases c0:Gt<0\/p.ln<Gt
 ·refine⟨.nil,Qm S9 (pP p) zd ?_⟩;rw[rA,if_pos c0];by_cases c1:Gt<0
  ·simp[IX,S8,Qc,c1]
  have c2:p.ln<Gt:=zE
  simp[IX,S8,Qc,c1,c2]
 refine⟨if lG p l Gt=[]then .nil else .ro,Qm S9 (pP p) zd ?_⟩;rw[rA,if_neg c0];simp only[not_or]at c0;have c1:¬Gt<0:=c0.1;have c2:¬p.ln<Gt:=c0.2;simp[IX,Qc,c1,c2];refine Qk oh (fun f mm=>∃(i:Nat)(at_:Int)(L:List ck),f 24=I i/\f 2=I at_/\i<=l.length/\nG p mm L/\0<=at_/\at_<=p.ln/\(L.length:Int)<=at_/\L++lG p (l.drop i) at_=lG p l Gt) (fun f _=>l.length-(numOf (f 24)).toNat) ?_ ?_
 ·exact⟨0,Gt,[],zd,zd,zE,⟨zd,by simp[Qc],.nil,zd,.inl ⟨rfl,rfl⟩⟩,zE,zE,by simp;omega,zd⟩
 rintro f mm ⟨i,at_,L,h24,h2,hi,hO,a1,a2,a3,hI⟩;rcases zzab i l.length with ah|bu
 ·obtain⟨s,hs⟩:=aX ah;have ai:=Ze hs;have hsb:=oc s (zzad hs);have aa:(i:Int)<(l.length:Int):=zE
  have hw:=bO i zE;have eY:IntKind.i64.wrap (p.ln-s.2)=p.ln-s.2:=by rw[Qh]<;>omega
  rw[Zb hs,lG]at hI;have K9:=K4 p s.1 hen fc;have hO':=hO;obtain⟨o1,o2,rt,o3,o4⟩:=hO';have r0:∀y,Qf (mm.boxes++y) 0=Qc p:=fun y=>by rw[Qi zE];exact o2
  have r1:∀y,Qf (mm.boxes++y) 1=[.sl rt (L.map Zy)]:=fun y=>by rw[Qi o1];exact o3
  simp only[Qc]at r0;cases hf:Zo s.1 p.ens with
  |none=>
   simp only[Gs,hf]at hI;rw[hf]at K9;by_cases c3:s.1=0
   ·rw[c3]at hf K9;simp[h24,h2,oh,ah,aa,ai,r0,r1,pP,hf,Wn,hw,c3];refine⟨K9,aP,⟨i+1,zd,zE,L,hO.app _,a1,a2,a3,hI⟩,zE⟩
   simp[h24,h2,oh,ah,aa,ai,r0,r1,pP,hf,Wn,hw,c3];refine⟨K9,aP,⟨i+1,zd,zE,L,hO.app _,a1,a2,a3,hI⟩,zE⟩
  |some e=>
   rw[hf]at K9;simp only[Gs,hf]at hI;by_cases c3:s.1=0
   ·rw[if_pos (.inl c3)]at hI;rw[c3]at hf K9;simp[h24,h2,oh,ah,aa,ai,r0,r1,pP,hf,Wn,Qd,hw,c3];refine⟨K9,aP,⟨i+1,zd,zE,L,hO.app _,a1,a2,a3,hI⟩,zE⟩
   by_cases c4:e.fr<1
   ·rw[if_pos (.inr (.inl c4))]at hI;simp[h24,h2,oh,ah,aa,ai,r0,r1,pP,hf,Wn,Qd,hw,c3,c4];refine⟨K9,aP,⟨i+1,zd,zE,L,hO.app _,a1,a2,a3,hI⟩,zE⟩
   by_cases c5:s.2<at_
   ·rw[if_pos (.inr (.inr (.inl c5)))]at hI;simp[h24,h2,oh,ah,aa,ai,r0,r1,pP,hf,Wn,Qd,hw,c3,c4,c5];refine⟨K9,aP,⟨i+1,zd,zE,L,hO.app _,a1,a2,a3,hI⟩,zE⟩
   by_cases c6:p.ln-s.2<e.fr
   ·rw[if_pos (.inr (.inr (.inr c6)))]at hI;simp[h24,h2,oh,ah,aa,ai,r0,r1,pP,hf,Wn,Qd,hw,eY,c3,c4,c5,c6];refine⟨K9,aP,⟨i+1,zd,zE,L,hO.app _,a1,a2,a3,hI⟩,zE⟩
   rw[if_neg zE]at hI;simp[h24,h2,oh,ah,aa,ai,r0,r1,pP,hf,Wn,Qd,hw,eY,c3,c4,c5,c6];have k31:=wZ p at_ s.2;have gG:=Ba (Yp p) s.2 _ at_ (zzaa _);refine⟨K9,k31,?_⟩;refine amW Y0 p at_ s.2 cV zE zE (pP p) (fun _ _=>rfl) _ _ L (hO.app _) zE zd zd _ ?_;intro m' hO2 cw eE
   have Rs:Qf m'.boxes mm.boxes.length=[I s.1,I s.2]:=by
    rw[eE _ zE zd];simp
   have Re:Qf m'.boxes (mm.boxes.length+1)=Qd e:=by
    rw[eE _ zE zd];simp[Qd]
   simp only[Qd]at Re;obtain⟨p1,p2,US,p3,p4⟩:=hO2;have p2':=p2;have b1:∀v,Qf (m'.boxes.set 1 v) 1=v:=fun v=>Xj v p1;have b0:∀v,Qf (m'.boxes.set 1 v) 0=Qc p:=fun v=>by rw[Qx v zE];exact p2
   have bs:∀v,Qf (m'.boxes.set 1 v) mm.boxes.length=[I s.1,I s.2]:=fun v=>by rw[Qx v zE];exact Rs
   have be:∀v,Qf (m'.boxes.set 1 v) (mm.boxes.length+1)=[I e.id,I e.it,I e.fr,I e.ea,I e.la,I e.bo,.sl .ro (e.al.map Qe)]:=fun v=>by rw[Qx v zE];exact Re
   simp only[Qc]at p2';have hG:((L++(Yo (Yp p) s.2 at_).map (Us p)).length:Int)<=s.2:=by simp;omega
   have hI2:(L++(Yo (Yp p) s.2 at_).map (Us p)++[K7 p e s.2])++lG p (l.drop (i+1)) (s.2+e.fr)=lG p l Gt:=by rw[<- hI];simp
   generalize L++(Yo (Yp p) s.2 at_).map (Us p)=G at*
   have k32:=K6 p e s.2 hc fS cV (fc e (w9 hf).1);have XU:IntKind.i64.wrap (s.2+e.fr)=s.2+e.fr:=by rw[Qh]<;>omega
   obtain⟨g1,rfl⟩|⟨g1,k,rfl,hk⟩:=p4
   ·subst g1;simp[h24,p2',p3,Rs,Re,b1,bs,be,p1,pP,aeU,IA,hw,XU];rw[zzah]at hI2;refine⟨k32,aP,⟨i+1,zd,zE,[K7 p e s.2],⟨by simp;omega,b0 _,_,b1 _,.inr ⟨zd,_,rfl,zd⟩⟩,zE,zE,by simp;omega,hI2⟩,zE⟩
   simp[h24,p2',p3,Rs,Re,b1,bs,be,p1,pP,aeU,IA,hw,XU];refine⟨k32,⟨hk,by rintro row (⟨a,_,rfl⟩|rfl)<;>rfl,zE⟩,ag ?_,⟨i+1,zd,zE,G++[K7 p e s.2],⟨by simp;omega,b0 _,_,by rw[b1];simp[Zy,K7],.inr ⟨zd,k,rfl,by simp[(zza.1 hk).1]⟩⟩,zE,zE,by simp;omega,hI2⟩,zE⟩;repeat(first|exact Qa _ _|refine Qb _ rfl ?_)
 obtain rfl:i=l.length:=zE
 have k31:=wZ p at_ p.ln;have gG:=Ba (Yp p) p.ln _ at_ (zzaa _);rw[zzbz,lG]at hI;obtain⟨o1,o2,rt,o3,o4⟩:=id hO;simp only[Qc]at o2;simp[h24,h2,oh,o2,pP];refine⟨k31,?_⟩;refine amX Y0 p at_ p.ln cV zE zE (pP p) (fun _ _=>rfl) _ _ L hO zE zd zd _ ?_;intro m' hO2 cw eE;rw[hI]at hO2;obtain⟨p1,p2,US,p3,p4⟩:=hO2;generalize lG p l Gt=G at*
 obtain⟨g1,rfl⟩|⟨g1,k,rfl,hk⟩:=p4
 ·subst g1;simp[p3,p1,S8]
 simp[p3,p1,S8,g1]
def Qg(e:ck):P1:=[I e.id,I e.it,I e.st,I e.fr,I e.i,I e.re,.sl .ro (e.al.map Qe)]
def La(L:List ck):Wk (.sl .ro (L.map Zy)) (.sl .ro (L.map Qg)):=by
 refine Wk.rows L Zy Qg (fun _=>rfl) fun a j c' h=>?_
 match j,h with
 |0,h=>exact⟨_,rfl,by cases h;exact Ps⟩
 |1,h=>exact⟨_,rfl,by cases h;exact Ps⟩
 |2,h=>exact⟨_,rfl,by cases h;exact Ps⟩
 |3,h=>exact⟨_,rfl,by cases h;exact Ps⟩
 |4,h=>exact⟨_,rfl,by cases h;exact Ps⟩
 |5,h=>exact⟨_,rfl,by cases h;exact Ps⟩
 |6,h=>exact⟨_,rfl,by cases h;exact Wk.sl _ _⟩
 |j+7,h=>simp[Qg]at h
def Wk.trans{a b c:AV}(h:Wk a b)(k:Wk b c):Wk a c:=fun w γ v hr=>k w γ v (h w γ v hr)
def sP(p:Pl)(l:List Sp)(Gt:Int)(hc:p.cls.length<=1000000)(fS:p.sh.length<=1000000000)(cV:p.aT.length<=1000000000)(hen:p.ens.length<=1000000000)(fc:∀e∈p.ens,e.al.length<=8796093022208)
  (eO:p.ln<=1000000)(hl:l.length<=1000000)(oc:∀s∈l,-1000000000<=s.2/\s.2<=1000000000):Pure Tryz.prog aD 51 [.agg (Qc p),.sl .ro (l.map Qe),I Gt] (.sl .ro ((rA p l Gt).map Qg)):=by
 obtain⟨rt,h⟩:=K8 p l Gt hc fS cV hen fc eO hl oc;exact Zc h (Wk.trans (Wk.sl _ _) (La _))
end
