import Derived.Test.YtnopaopphmjnmaaGreatDoorMDMK
import Derived.Test.YtnopaopphmjnmaaGreatDoorMDMJ
set_option linter.all false
set_option maxRecDepth 100000
set_option maxHeartbeats 64000000
namespace Go.Proofs.YtnopaopphmjnmaaGreatDoor
noncomputable section
open Go Go.Abs
def o7(nu de f:Int): -1<=Yk nu de f/\Yk nu de f<=100000000:=by
 unfold Yk;split
 ·rename_i h;obtain⟨h1,h2,h3⟩:=h;obtain⟨b1,b2,b3,b4,b5⟩:=Jo h1;have q0:0<=f*de:=zzeb h2 (by omega);have q1:f*de<=f*nu:=zzfs (by omega) h2;have q2:0<=(f*de).tdiv nu:=Int.tdiv_nonneg q0 (by omega)
  have q3:(f*de).tdiv nu<=f:=by
   rw[zzcl q0];exact Int.ediv_le_of_le_mul (by omega) q1
  omega
 omega
def sF(p:Pl)(f:Int)(ht:0<=p.ep/\p.ep<=9000000000):Pure Tryz.prog aq 115 [.agg (Qc p),I f] (I (p.ep+Yk p.nu p.de f)):=by
 have h:=Rf p.nu p.de f;have hb:=o7 p.nu p.de f;have hw:IntKind.i64.wrap (p.ep+Yk p.nu p.de f)=p.ep+Yk p.nu p.de f:=by rw[Qk]<;>omega
 refine Qn acB (fun _ f' l=>if f'=185 then I (Yk p.nu p.de f)else .junk) (by simp) ?_;simp[ahE,Qc,ahF,hw];exact h
def wV(p:Pl)(n:Int)(hn: -1000000000000<=n-p.ep/\n-p.ep<=1000000000000)(Y:YT)(m:AM)(b:Nat)(hb:b<m.boxes.length)(hr:Qh m.boxes b=Qc p)(K:AV->AM->Prop)(hK:K (I (wW p.nu p.de (n-p.ep))) m):
  an Tryz.prog aq Y 118 [I n,.ptr b 0] m K:=by
 have h:=AY p.nu p.de (n-p.ep);have hw:IntKind.i64.wrap (n-p.ep)=n-p.ep:=by rw[Qk]<;>omega
 refine Xe acE (fun _ f' l=>if f'=119 then I (wW p.nu p.de (n-p.ep))else .junk) (by simp) ?_;simp[ahJ,hr,Qc,ahK,hw];exact⟨h,hK⟩
def lQ(p:Pl)(x:It)(region:Int)(s:Sp):List (List Sp):=Qcb p.cls x.id region::(uw p.cls x.ra).map fun w=>iC p.of p.sh s w.1 w.2
def FT(l:List Sp):List AV:=[.sl .ro (l.map Qe)]
def FU(p:Pl)(x:It)(region:Int)(s:Sp):Pure Tryz.prog aq 116 [.agg (Qc p),.agg (Qm x),I region,.agg [I s.1,I s.2]] (.fn 186 [] [.ep (Qc p) 0,.ep (Qm x) 0,.ep [I region] 0,.ep [I s.1,I s.2] 0]):=by
 refine Qn acC (fun _ _ _=>.junk) (by simp) ?_;simp[ahG,ahH,Qc,Qm]
def FV(p:Pl)(x:It)(region:Int)(s:Sp)(hc:p.cls.length<=1000000)(gH:p.sh.length<=1000000000)(h1: -9223372036854775808<=s.1/\s.1<=9223372036854775807)(h2: -9223372036854775808<=s.2/\s.2<=9223372036854775807):
  Iter Tryz.prog aq 186 [] [.ep (Qc p) 0,.ep (Qm x) 0,.ep [I region] 0,.ep [I s.1,I s.2] 0] ((lQ p x region s).map FT):=by
 intro Y l m K hF;have as8:=KV p.cls x.id region hc;have as9:=tO p.cls x.ra (by omega)
 have hwl:(uw p.cls x.ra).length<=1000000:=by
  unfold uw;rw[zzbg];exact zzbm (zzbs _ _) hc
 refine Xe ado (fun d f' l=>if f'=187 then .sl .ro ((Qcb p.cls x.id region).map Qe)else if f'=188 then .sl .ro ((uw p.cls x.ra).map Qe)else
  if f'=189 then(match l with|[_,_,.int _ a,.int _ b]=>.sl .ro ((iC p.of p.sh s a b).map Qe)|_=>.junk)else .junk) (by simp) ?_
 unfold lQ at hF;generalize hS:Qcb p.cls x.id region=S at hF as8;generalize hW:uw p.cls x.ra=W at hF as9 hwl;simp only[zzay,FT]at hF;simp[UW,Qc,Qm];refine⟨as8,?_⟩;refine hF _ (fF.refl _) _ (fun m2 qm=>?_) (fun m2 hK=>?_)
 ·rw[zzct]at qm;simp;refine⟨as9,?_⟩;refine Qi JI (fun f mm=>∃i:Nat,f 23=I i/\i<=W.length/\wj (Y l) K ((W.drop i).map (FT ∘ fun w=>iC p.of p.sh s w.1 w.2)) mm) (fun f _=>W.length-(numOf (f 23)).toNat) ?_ ?_
  ·exact⟨0,by simp,by omega,by simpa using qm⟩
  rintro f mm ⟨i,h23,hi,hF3⟩;rcases zzaa i W.length with ai|bw
  ·obtain⟨w,hw⟩:=aP ai;have yW:=Zd hw;have ah:(i:Int)<(W.length:Int):=by omega
   have qo:=bH i (by omega);have hd:W.drop i=w::W.drop (i+1):=by rw[zzaf ai,(zza.1 hw).2]
   rw[hd,zzay]at hF3;simp only[Function.comp_apply,FT]at hF3;have axM:=zx p.of p.sh s w.1 w.2 gH h1 h2
   have gG:∀x,Qh (mm.boxes++[x]) mm.boxes.length=x:=fun x=>by
    simp
   simp[h23,JI,ah,yW,gG];refine⟨axM,?_⟩;refine hF3 _ (fF.box mm [[I w.1,I w.2]]) _ (fun m3 hF4=>?_) (fun m3 hK=>?_)
   ·simp[qo];refine⟨aN,⟨i+1,by omega,by omega,by rw[<- zzgb];exact hF4⟩,by omega⟩
   simp[Ns];exact hK _ (fF.refl _)
  obtain rfl:i=W.length:=by omega
  rw[zzbo,zzce]at hF3;simp[h23,JI,Ns];exact hF3 _ (fF.refl _)
 simp[Ns];exact hK _ (fF.refl _)
open Go Go.Abs
def anu:SC:=(⟨_,by cbv⟩:tJ [1,1,1,1,1,1,1,1,1,1,1,1,0,1] TO).1
def CU:SC->SC:=(⟨_,fun _=>by cbv⟩:Kt [1,1,1,1,1,1,1,1,1,1,1,1,0,1] TO).1
theorem o8:TO=CU anu:=rfl
def ux(p:Pl)(w:Sp):Sp:=(wW p.nu p.de (w.1-p.ep),wW p.nu p.de (w.2-p.ep))
def AZ(Y:YT)(p:Pl)(orc:Nat->FuncId->List AV->AV)(ho:∀d l,orc d 74 l=.gd false .junk)(ho9:∀d l,orc d 999999 l=.junk)(E:List (Nat×AV))(m:AM)(U:List Sp)(rt:Rt)(Q:Exit->AS->Prop)
  (h85:Abs.look E 85=.sl rt (U.map Qe))(h86:Abs.look E 86=I U.length)(h87:Abs.look E 87=I 0)(wX:Abs.look E 14=.fn 118 [] [.ptr 0 0])(oh:Abs.look E 15=.sl .nil [])
  (h0:0<m.boxes.length)(hr:Qh m.boxes 0=Qc p)(hU:U.length<=10000000)(hUb:∀w∈U,(-1000000000000<=w.1-p.ep/\w.1-p.ep<=1000000000000)/\(-1000000000000<=w.2-p.ep/\w.2-p.ep<=1000000000000))
  (hQ:∀E' bx Lm fe,fT Ei E' E->Abs.look E' 15=.sl fe ((U.map (ux p)).map Qe)->(fe=.nil/\U=[]\/U≠[]/\∃k,fe=.own k 2)->Q .normal ⟨Zb 108 E',⟨m.boxes++bx,Lm,m.st,m.ln⟩⟩):
  vc Tryz.prog aq orc Y anu ⟨Zb 108 E,m⟩ Q:=by
 simp[anu];refine Qi Ei (fun f mm=>∃(i:Nat)(bx:List (List AV))(Lm:List Nat)(fe:Rt),f 87=I i/\i<=U.length/\mm=⟨m.boxes++bx,Lm,m.st,m.ln⟩/\f 15=.sl fe ((U.map (Qe ∘ ux p)).take i)/\(i=0/\fe=.nil\/i≠0/\∃k,fe=.own k 2/\Lm[k]?=some i)) (fun f _=>U.length-(numOf (f 87)).toNat) ?_ ?_
 ·exact⟨0,[],m.lens,.nil,by simp[h87],by omega,by simp,by simp[oh],.inl ⟨rfl,rfl⟩⟩
 rintro f mm ⟨i,bx,Lm,fe,h87',hi,rfl,h15',aT⟩;rcases zzaa i U.length with ai|bw
 ·obtain⟨w,hw⟩:=aP ai;have yW:=Zd hw;obtain⟨c1,c2⟩:=hUb w (zzac hw);have ah:(i:Int)<(U.length:Int):=by omega
  have qo:=bH i (by omega);have eO:IntKind.i64.wrap 1=1:=by rw[Qk]<;>omega
  have bA:U.take (i+1)=U.take i++[w]:=by rw[zzar,hw];rfl
  have qQ:(U.take i).length=i:=by rw[zzaq];omega
  have uq:∀x,Qh (m.boxes++(bx++[x])) (m.boxes.length+bx.length)=x:=fun x=>by
   simp
  have tH:∀x,Qh (m.boxes++x) 0=Qc p:=fun x=>by rw[Ql h0];exact hr
  have e1:=fun m' h1 h2 K hK=>wV p w.1 c1 Y m' 0 h1 h2 K hK;have e2:=fun m' h1 h2 K hK=>wV p w.2 c2 Y m' 0 h1 h2 K hK;have hG:(U.map (Qe ∘ ux p)).take (i+1)=(U.map (Qe ∘ ux p)).take i++[[I (wW p.nu p.de (w.1-p.ep)),I (wW p.nu p.de (w.2-p.ep))]]:=by rw[zzar,zzbl,hw];rfl
  have hGl:((U.map (Qe ∘ ux p)).take i).length=i:=by rw[zzaq,zzbg];omega
  have hG2:∀row∈(U.map (Qe ∘ ux p)).take i,row.length=2:=by
   intro row h;obtain⟨a,_,rfl⟩:=zzaw.1 (zzbv h);rfl
  generalize hGG:(U.map (Qe ∘ ux p)).take i=G at*
  obtain⟨rfl,rfl⟩|⟨aJ,k,rfl,hk⟩:=aT
  ·simp[h87',h85,h86,h15',Ei,ai,yW,uq];refine Qay [(I (wW p.nu p.de (w.1-p.ep)),⟨m.boxes++(bx++[[I w.1,I w.2]]),Lm,m.st,m.ln⟩),(I (wW p.nu p.de (w.2-p.ep)),⟨m.boxes++(bx++[[I w.1,I w.2]]),Lm,m.st,m.ln⟩)] ?_;simp[h87',wX,uq,ho9,eO];refine⟨e1 _ (by simp;omega) (tH _) _ ⟨rfl,rfl⟩,e2 _ (by simp;omega) (tH _) _ ⟨rfl,rfl⟩,⟨by rintro row (h|rfl);exact hG2 row h;rfl,by omega⟩,ag ?_,?_,by omega⟩
   ·repeat(first|exact Qa _ _|refine Qb _ rfl ?_)
   exact⟨1,rfl,by omega,_,_,⟨rfl,rfl⟩,_,⟨rfl,hG.symm⟩,.inr ⟨by omega,Lm.length,rfl,by simp[hGl]⟩⟩
  simp[h87',h85,h86,h15',Ei,ah,yW,uq];refine Qay [(I (wW p.nu p.de (w.1-p.ep)),⟨m.boxes++(bx++[[I w.1,I w.2]]),Lm,m.st,m.ln⟩),(I (wW p.nu p.de (w.2-p.ep)),⟨m.boxes++(bx++[[I w.1,I w.2]]),Lm,m.st,m.ln⟩)] ?_;simp[h87',wX,uq,qo,hk];refine⟨e1 _ (by simp;omega) (tH _) _ ⟨rfl,rfl⟩,e2 _ (by simp;omega) (tH _) _ ⟨rfl,rfl⟩,⟨hGl.symm,by rintro row (h|rfl);exact hG2 row h;rfl,by omega⟩,ag ?_,?_,by omega⟩
  ·repeat(first|exact Qa _ _|refine Qb _ rfl ?_)
  exact⟨i+1,by omega,by omega,_,_,⟨rfl,rfl⟩,_,⟨rfl,hG.symm⟩,.inr ⟨by omega,k,rfl,by simp[hGl,(zza.1 hk).1]⟩⟩
 obtain rfl:i=U.length:=by omega
 rw[zzam (by simp)]at h15';simp[h87',h86,Ei];refine hQ _ bx Lm fe ?_ ?_ ?_
 ·repeat(first|exact Qa _ _|refine Qb _ rfl ?_)
 ·simp[h15']
 obtain⟨h1,h2⟩|⟨h1,k,h2,h3⟩:=aT
 ·exact .inl ⟨h2,zzc.1 h1⟩
 exact .inr ⟨fun h=>h1 (by rw[h];rfl),k,h2⟩
open Go Go.Abs
def KZ:∀(l:List Sp)(lo hi:Int),VS l->(∀w∈l,lo<=w.1/\w.2<=hi)->(l.length:Int)<=max 0 (hi-lo)
 |[],lo,hi,_,_=>by simp only[zzcf];omega
 |s::l,lo,hi,h,hb=>by
  obtain⟨h1,h2,h3⟩:=cO.1 h;have:=KZ l (s.2+1) hi h3 (fun w hw=>⟨by have:=h2 w hw;omega,(hb w (by simp[hw])).2⟩);have b:=hb s (by simp);simp only[zzbd];omega
def Tk(lo hi:Int)(l:List Sp):Prop:=∀w∈l,lo<=w.1/\w.1<=hi/\lo<=w.2/\w.2<=hi
def uy{lo hi:Int}{a b:List Sp}(h:Tk lo hi a):Tk lo hi (zy a b):=by
 obtain⟨⟨h1,_⟩,h2⟩:=kT a b;intro w hw;have ai:=h1 w hw;obtain⟨s,hs,s1,s2⟩:=((h2 w.1).1 ⟨w,hw,by omega,ai⟩).1;obtain⟨t,ht,t1,t2⟩:=((h2 (w.2-1)).1 ⟨w,hw,by omega,by omega⟩).1;have:=h s hs;have:=h t ht;omega
def YX{lo hi:Int}{a b:List Sp}(h:Tk lo hi a):((zy a b).length:Int)<=max 0 (hi-lo):=
 KZ _ _ _ (kT a b).1 (fun w hw=>⟨(uy h w hw).1,(uy h w hw).2.2.2⟩)
def kU{nu de f g:Int}(hv:Vb nu de=true)(h0:0<=f)(hfg:f<=g)(hg:g<=100000000):Yk nu de f<=Yk nu de g/\Yk nu de g<=Yk nu de f+(g-f):=by
 obtain⟨b1,b2,b3,b4,b5⟩:=Jo hv;rw[Yk,Yk,if_pos ⟨hv,h0,by omega⟩,if_pos ⟨hv,by omega,hg⟩];have q0:0<=f*de:=zzeb h0 (by omega);have q1:0<=g*de:=zzeb (by omega) (by omega);rw[zzcl q0,zzcl q1];have m1:f*de<=g*de:=Int.mul_le_mul_of_nonneg_right hfg (by omega);have m2:(g-f)*de<=(g-f)*nu:=zzfs (by omega) (by omega)
 have m3:g*de<=f*de+(g-f)*nu:=by
  have:g*de=f*de+(g-f)*de:=by rw[<- Int.add_mul];congr 1;omega
  omega
 constructor
 ·exact Int.ediv_le_ediv (by omega) m1
 have:=Int.ediv_le_ediv (c:=nu) (by omega) m3;rw[Int.add_mul_ediv_right _ _ (by omega)]at this;exact this
def Rg(s:Sp):Sp:=(max s.1 0,min s.2 100000001)
def uS(p:Pl)(c:Sp):Sp:=(p.ep+Yk p.nu p.de c.1,p.ep+Yk p.nu p.de (c.2-1)+1)
def iD(p:Pl)(x:It)(region:Int)(u:Sp)(i:Nat):List Sp:=((lQ p x region u).take i).foldl zy [u]
def Vm(p:Pl)(id region:Int)(s:Sp):List Sp:=
 let c:=Rg s
 match Xg id p.aL with
 |none=>[]
 |some x=>if region<0\/8<=region\/c.2<=c.1\/1000000<c.2-c.1 then[]else if x.ki=5 then[c]else if Ka p=false then[]else
  zy ((iD p x region (uS p c) (lQ p x region (uS p c)).length).map (ux p)) [c]
def tP:List AV->Sp
 |[.int _ a,.int _ b]=>(a,b)
 |_=>(0,0)
@[simp] def afv(l:List Sp):(l.map Qe).map tP=l:=by
 induction l with
 |nil=>rfl
 |cons a l ih=>simp only[zzay,ih];rfl
@[simp] def ata(l:List Sp):l.map (tP ∘ Qe)=l:=by rw[<- zzct];exact afv l
@[simp] theorem atb(a b:Int):tP [I a,I b]=(a,b):=rfl
def zz(p:Pl)(id region:Int)(s:Sp):Nat->FuncId->List AV->AV:=fun d f l=>
 if f=999999 then .junk else
 if f=113 then Zo (Xg id p.aL)else
 if f=114 then .bool (Ka p)else
 if f=115 then(match l with|[_,.int _ n]=>I (p.ep+Yk p.nu p.de n)|_=>.junk)else
 if f=116 then(match l with|[_,.agg x,_,.agg u]=>.fn 186 [] [.ep (Qc p) 0,.ep x 0,.ep [I region] 0,.ep u 0]|_=>.junk)else
 if f=117 then(match l with|[.sl _ A,.sl _ B]=>.sl .ro ((zy (A.map tP) (B.map tP)).map Qe)|_=>.junk)else .gd false .junk
def K0(cs:List Cl)(item region:Int)(h:cs.length<=1000000):(Qcb cs item region).length<=2000000:=by
 have h1:=Yv (nC (dB (Kz cs item region)) (wB (Kz cs item region)) (dB (Kz cs item region)).length);have h2:=wD (dB (Kz cs item region)) (wB (Kz cs item region)) (dB (Kz cs item region)).length;have h3:=Oh (Kz cs item region);have h4:(Kz cs item region).length<=cs.length:=zzbs _ _;unfold Qcb;omega
def YY(p:Pl)(x:It)(region:Int)(u:Sp)(h:p.cls.length<=1000000):∀l∈lQ p x region u,l.length<=2000000:=by
 intro l hl;rw[lQ,zzau,zzaw]at hl;obtain rfl|⟨w,_,rfl⟩:=hl
 ·exact K0 _ _ _ h
 have:=YW p.of p.sh u w.1 w.2;omega
def CV{lo hi:Int}:∀(ls:List (List Sp))(a:List Sp),Tk lo hi a->Tk lo hi (ls.foldl zy a)
 |[],a,h=>h
 |l::r,a,h=>CV r _ (uy h)
def A0{lo hi:Int}:∀(ls:List (List Sp))(a:List Sp),Tk lo hi a->(a.length:Int)<=max 1 (hi-lo)->((ls.foldl zy a).length:Int)<=max 1 (hi-lo)
 |[],a,_,h=>h
 |l::r,a,h,hl=>A0 r _ (uy h) (by have:=YX (b:=l) h;omega)
def FX(p:Pl)(id region:Int)(s:Sp)(hc:p.cls.length<=1000000)(gH:p.sh.length<=1000000000)(cH:p.aL.length<=1000000000)(h1: -9223372036854775808<=s.1/\s.1<=9223372036854775807)(h2: -9223372036854775808<=s.2/\s.2<=9223372036854775807):
  ∃rt,Pure Tryz.prog aq 59 [.agg (Qc p),I id,I region,.agg [I s.1,I s.2]] (.sl rt ((Vm p id region s).map Qe)):=by
 have CW:=kV p id cH;have k70:=K1 p gH;obtain⟨c,hcS⟩:∃c,Rg s=c:=⟨_,rfl⟩;have hcb:0<=c.1/\c.2<=100000001/\c.1<=9223372036854775807/\ -9223372036854775808<=c.2:=by rw[<- hcS,Rg];simp only;omega
 have Tj:max s.1 0=c.1:=by rw[<- hcS];rfl
 have Ra:min s.2 100000001=c.2:=by rw[<- hcS];rfl
 have FY:(if s.1<0 then 0 else s.1)=c.1:=by omega
 have FZ:(if 100000001<s.2 then 100000001 else s.2)=c.2:=by omega
 cases hfx:Xg id p.aL with
 |none=>
  have hP:Vm p id region s=[]:=by simp[Vm,hfx]
  rw[hP];refine⟨.nil,Qn uP (zz p id region s) (by simp) ?_⟩;rw[o8];simp[CU,Qc,zz,hfx,Zo,tw,FY,FZ];simpa[hfx,Zo,Qc]using CW
 |some x=>
  rw[hfx]at CW;by_cases hb:region<0\/8<=region\/c.2<=c.1\/1000000<c.2-c.1
  ·have hP:Vm p id region s=[]:=by simp only[Vm,hfx,hcS,if_pos hb]
   rw[hP];refine⟨.nil,Qn uP (zz p id region s) (by simp) ?_⟩;have K2:Abs.Pure Tryz.prog aq 113 [.agg (Qc p),I id] (.aU [.agg (Qm x),.bool true]):=CW;rw[o8];by_cases b1:region<0
   ·simp[CU,Qc,zz,hfx,Zo,Qm,tw,FY,FZ,b1];exact K2
   by_cases b2:8<=region
   ·simp[CU,Qc,zz,hfx,Zo,Qm,tw,FY,FZ,b1,b2];exact K2
   by_cases b3:c.2<=c.1
   ·simp[CU,Qc,zz,hfx,Zo,Qm,tw,FY,FZ,b1,b2,b3];exact K2
   have b4:1000000<c.2-c.1:=by omega
   have hw:IntKind.i64.wrap (c.2-c.1)=c.2-c.1:=by rw[Qk]<;>omega
   simp[CU,Qc,zz,hfx,Zo,Qm,tw,FY,FZ,b1,b2,b3,b4,hw];exact K2
  simp only[not_or]at hb;obtain⟨b1,b2,b3,b4⟩:=hb;have hw:IntKind.i64.wrap (c.2-c.1)=c.2-c.1:=by rw[Qk]<;>omega
  by_cases hk:x.ki=5
  ·have hP:Vm p id region s=[c]:=by simp only[Vm,hfx,hcS,if_neg (show¬(region<0\/8<=region\/c.2<=c.1\/1000000<c.2-c.1) by omega),if_pos hk]
   rw[hP];refine⟨.full,Qn uP (zz p id region s) (by simp) ?_⟩;rw[o8];simp[CU,Qc,zz,hfx,Zo,Qm,tw,FY,FZ,b1,b2,b3,b4,hw,hk,Qe];rw[Zo,Qm,hk]at CW;exact CW
  have axN:=o7 p.nu p.de c.1;have awK:=o7 p.nu p.de (c.2-1);have eO:IntKind.i64.wrap (c.2-1)=c.2-1:=by rw[Qk]<;>omega
  have K2:Abs.Pure Tryz.prog aq 113 [.agg (Qc p),I id] (.aU [.agg (Qm x),.bool true]):=CW;by_cases ht:Ka p=true
  ·have hte:Vb p.nu p.de=true/\0<=p.ep/\p.ep<=9000000000:=by
    simp only[Ka,zzak,decide_eq_true_eq]at ht;exact⟨ht.1.1,ht.2⟩
   have eC:IntKind.i64.wrap (p.ep+Yk p.nu p.de (c.2-1)+1)=p.ep+Yk p.nu p.de (c.2-1)+1:=by rw[Qk]<;>omega
   have K3:IntKind.i64.wrap (p.ep+Yk p.nu p.de c.1)=p.ep+Yk p.nu p.de c.1:=by rw[Qk]<;>omega
   have atc:=k70;rw[ht]at atc;have k71:=sF p c.1 hte.2;have axO:=sF p (c.2-1) hte.2;obtain⟨u,hu⟩:∃u,uS p c=u:=⟨_,rfl⟩;have hu1:p.ep+Yk p.nu p.de c.1=u.1:=by rw[<- hu];rfl
   have J6:p.ep+Yk p.nu p.de (c.2-1)+1=u.2:=by rw[<- hu];rfl
   have hu3:IntKind.i64.wrap u.2=u.2:=by rw[<- J6];exact eC
   have hdf:=kU (f:=c.1) (g:=c.2-1) hte.1 (by omega) (by omega) (by omega);have k72:=FU p x region u
   have hP:Vm p id region s=zy ((iD p x region u (lQ p x region u).length).map (ux p)) [c]:=by
    simp only[Vm,hfx,hcS,hu,if_neg (show¬(region<0\/8<=region\/c.2<=c.1\/1000000<c.2-c.1) by omega),if_neg hk,ht];simp
   rw[hP];refine⟨.ro,Qn uP (zz p id region s) (by simp) ?_⟩;rw[o8];simp[CU,Qc,zz,hfx,Zo,Qm,FY,FZ,b1,b2,b3,b4,hw,hk,ht,eO,hu1,J6,hu3];rw[hu1]at k71;refine⟨K2,atc,k71,axO,k72,?_⟩;have hub: -9223372036854775808<=u.1/\u.1<=9223372036854775807/\ -9223372036854775808<=u.2/\u.2<=9223372036854775807:=by omega
   have hLi:=FV p x region u hc gH ⟨hub.1,hub.2.1⟩ hub.2.2;have hLl:=YY p x region u hc;have atd:Tk u.1 u.2 [u]:=by intro w hw;simp at hw;subst hw;omega
   have axP:∀i,Tk u.1 u.2 (iD p x region u i):=fun i=>CV _ _ atd
   have qj:∀i,(iD p x region u i).length<=2000000:=fun i=>by
    have:=A0 ((lQ p x region u).take i) [u] atd (by simp;omega);unfold iD;omega
   have qI:∀i l,(lQ p x region u)[i]?=some l->iD p x region u (i+1)=zy (iD p x region u i) l:=fun i l h=>by
    unfold iD;rw[zzar,h,zzge];rfl
   have hc0:iD p x region u 0=[u]:=by simp[iD]
   have hps:∀y,ux p y=ux p y:=fun _=>rfl;generalize hXs:lQ p x region u=Xs at*
   refine jh (xs:=Xs.map FT) (by simp;exact⟨rfl,rfl⟩) hLi (by intro y hy;simp[FT]at hy;obtain⟨a,_,rfl⟩:=hy;rfl)
    (fun i m=>∃(bx:List (List AV))(rt:Rt),m.boxes=Qc p::[I c.1,I c.2]::Qm x::[I u.1,I u.2]::[.sl rt ((iD p x region u i).map Qe)]::bx/\(rt=.full\/rt=.ro)) (fun _ _=>False) ?_ ?_ (fun _ _ _ h=>h.elim) ?_ ?_ (fun _ _ h=>h.elim)
   ·refine⟨[],.full,?_,.inl rfl⟩;rw[hc0];rfl
   ·rintro i m m' ⟨bx,rt,hb,aT⟩ ⟨⟨b2,e1⟩,_,_⟩;exact⟨bx++b2,rt,by rw[e1,hb];rfl,aT⟩
   ·rintro l i m y hg hr ⟨bx,rt,hb,aT⟩ hy K' q1 _ _;rw[zzbl,zzcd]at hy;obtain⟨y,hy,rfl⟩:=hy;rw[Uc]at hb;have hyl:=hLl y (zzac hy);have k73:=jv (iD p x region u i) y (by have:=qj i;omega) (by omega);have hn:=qI i y hy;generalize iD p x region u i=C at*
    obtain rfl|rfl:=aT
    ·have axQ:=Zj (l:=[.sl .full (C.map Qe),.sl .ro (y.map Qe)]) k73 ⟨Wk.sl _ _,Wk.refl _,trivial⟩;simp[hr,Zi,FT,hb,zz];refine⟨axQ,q1 _ ⟨bx,.ro,?_,.inr rfl⟩⟩;simp[hn]
    simp[hr,Zi,FT,hb,zz];refine⟨k73,q1 _ ⟨bx,.ro,?_,.inr rfl⟩⟩;simp[hn]
   rintro m ⟨bx,rt,hb,aT⟩;have hcU:=qj Xs.length;have hcI:=axP Xs.length;rw[zzbg]at hb;generalize iD p x region u Xs.length=C at*
   have k73:=jv (C.map (ux p)) [c] (by simp;omega) (by simp);have sB:∀w∈C,(-1000000000000<=w.1-p.ep/\w.1-p.ep<=1000000000000)/\(-1000000000000<=w.2-p.ep/\w.2-p.ep<=1000000000000):=fun w hw=>by have:=hcI w hw;omega
   have leaf:∀rt,Abs.Pure Tryz.prog aq 117 [.sl rt (C.map (Qe ∘ ux p)),.sl .full [[I c.1,I c.2]]] (.sl .ro ((zy (C.map (tP ∘ Qe ∘ ux p)) [(c.1,c.2)]).map Qe))/\(zy (C.map (tP ∘ Qe ∘ ux p)) [(c.1,c.2)]).map Qe=(zy (C.map (ux p)) [c]).map Qe:=by
    have e1:C.map (tP ∘ Qe ∘ ux p)=C.map (ux p):=zzdd fun _ _=>rfl;intro rt;rw[e1];refine⟨?_,rfl⟩;have:=Zj (l:=[.sl rt ((C.map (ux p)).map Qe),.sl .full ([c].map Qe)]) k73 ⟨Wk.sl _ _,Wk.sl _ _,trivial⟩;rw[zzct]at this;exact this
   obtain rfl|rfl:=aT
   ·simp[hb];refine AZ Y0 p (zz p id region s) (fun _ _=>rfl) (fun _ _=>rfl) _ _ C .full _ (by simp) (by simp) (by simp) (by simp) (by simp) (by simp[hb]) (by simp[hb]) (by omega) sB ?_;intro E' bx' Lm fe hA oh F0;have h7:Abs.look E' 7=.ptr 1 0:=by rw[hA 7 (by decide)];simp
    obtain⟨rfl,hC⟩|⟨hC,k,rfl⟩:=F0
    ·simp[h7,oh,hb,zz,tw];exact leaf _
    simp[h7,oh,hb,zz,tw];exact leaf _
   simp[hb];refine AZ Y0 p (zz p id region s) (fun _ _=>rfl) (fun _ _=>rfl) _ _ C .ro _ (by simp) (by simp) (by simp) (by simp) (by simp) (by simp[hb]) (by simp[hb]) (by omega) sB ?_;intro E' bx' Lm fe hA oh F0;have h7:Abs.look E' 7=.ptr 1 0:=by rw[hA 7 (by decide)];simp
   obtain⟨rfl,hC⟩|⟨hC,k,rfl⟩:=F0
   ·simp[h7,oh,hb,zz,tw];exact leaf _
   simp[h7,oh,hb,zz,tw];exact leaf _
  have YZ:Ka p=false:=by simpa using ht
  rw[YZ]at k70;have hP:Vm p id region s=[]:=by simp only[Vm,hfx,hcS,if_neg (show¬(region<0\/8<=region\/c.2<=c.1\/1000000<c.2-c.1) by omega),if_neg hk,if_pos YZ]
  rw[hP];refine⟨.nil,Qn uP (zz p id region s) (by simp) ?_⟩;rw[o8];simp[CU,Qc,zz,hfx,Zo,Qm,tw,FY,FZ,b1,b2,b3,b4,hw,hk,YZ];exact⟨K2,k70⟩
def nI(p:Pl)(id region:Int)(s:Sp)(hc:p.cls.length<=1000000)(gH:p.sh.length<=1000000000)(cH:p.aL.length<=1000000000)(h1: -9223372036854775808<=s.1/\s.1<=9223372036854775807)(h2: -9223372036854775808<=s.2/\s.2<=9223372036854775807):
  Pure Tryz.prog aq 59 [.agg (Qc p),I id,I region,.agg [I s.1,I s.2]] (.sl .ro ((Vm p id region s).map Qe)):=by
 obtain⟨rt,h⟩:=FX p id region s hc gH cH h1 h2;exact Qz h (Wk.sl _ _)
end
end Go.Proofs.YtnopaopphmjnmaaGreatDoor
