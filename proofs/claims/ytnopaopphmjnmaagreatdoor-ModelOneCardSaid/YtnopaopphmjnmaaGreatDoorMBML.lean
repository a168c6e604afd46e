import Derived.Test.YtnopaopphmjnmaaGreatDoorMBMK
import Derived.Test.YtnopaopphmjnmaaGreatDoorMBMJ
set_option linter.all false
set_option maxRecDepth 100000
set_option maxHeartbeats 64000000
namespace Go.Proofs.YtnopaopphmjnmaaGreatDoor
noncomputable section
open Go Go.Abs
def oR(nu de f:Int): -1<=Yj nu de f/\Yj nu de f<=100000000:=by
 unfold Yj;split
 ·rename_i h;obtain⟨h1,h2,h3⟩:=h;obtain⟨b1,b2,b3,b4,b5⟩:=Jp h1;have q0:0<=f*de:=zzdz h2 (by omega);have q1:f*de<=f*nu:=zzfu (by omega) h2;have q2:0<=(f*de).tdiv nu:=Int.tdiv_nonneg q0 (by omega)
  have q3:(f*de).tdiv nu<=f:=by
   rw[zzck q0];exact Int.ediv_le_of_le_mul (by omega) q1
  omega
 omega
def sg(p:Pl)(f:Int)(ht:0<=p.ep/\p.ep<=9000000000):Pure Tryz.prog az 115 [.agg (Qc p),I f] (I (p.ep+Yj p.nu p.de f)):=by
 have h:=QL p.nu p.de f;have hb:=oR p.nu p.de f;have hw:IntKind.i64.wrap (p.ep+Yj p.nu p.de f)=p.ep+Yj p.nu p.de f:=by rw[Qi]<;>omega
 refine Qn abX (fun _ f' l=>if f'=185 then I (Yj p.nu p.de f)else .junk) (by simp) ?_;simp[agT,Qc,agU,hw];exact h
def wI(p:Pl)(n:Int)(hn: -1000000000000<=n-p.ep/\n-p.ep<=1000000000000)(Y:YT)(m:AM)(b:Nat)(hb:b<m.boxes.length)(hr:Qh m.boxes b=Qc p)(K:AV->AM->Prop)(hK:K (I (wJ p.nu p.de (n-p.ep))) m):
  an Tryz.prog az Y 118 [I n,.ptr b 0] m K:=by
 have h:=AJ p.nu p.de (n-p.ep);have hw:IntKind.i64.wrap (n-p.ep)=n-p.ep:=by rw[Qi]<;>omega
 refine Xd ab0 (fun _ f' l=>if f'=119 then I (wJ p.nu p.de (n-p.ep))else .junk) (by simp) ?_;simp[agY,hr,Qc,agZ,hw];exact⟨h,hK⟩
def lM(p:Pl)(x:It)(region:Int)(s:Sp):List (List Sp):=Qcc p.cls x.id region::(tZ p.cls x.ra).map fun w=>ij p.of p.sh s w.1 w.2
def FI(l:List Sp):List AV:=[.sl .ro (l.map Qe)]
def FJ(p:Pl)(x:It)(region:Int)(s:Sp):Pure Tryz.prog az 116 [.agg (Qc p),.agg (Qm x),I region,.agg [I s.1,I s.2]] (.fn 186 [] [.ep (Qc p) 0,.ep (Qm x) 0,.ep [I region] 0,.ep [I s.1,I s.2] 0]):=by
 refine Qn abY (fun _ _ _=>.junk) (by simp) ?_;simp[agV,agW,Qc,Qm]
def FK(p:Pl)(x:It)(region:Int)(s:Sp)(hc:p.cls.length<=1000000)(gD:p.sh.length<=1000000000)(h1: -9223372036854775808<=s.1/\s.1<=9223372036854775807)(h2: -9223372036854775808<=s.2/\s.2<=9223372036854775807):
  Iter Tryz.prog az 186 [] [.ep (Qc p) 0,.ep (Qm x) 0,.ep [I region] 0,.ep [I s.1,I s.2] 0] ((lM p x region s).map FI):=by
 intro Y l m K hF;have arD:=KD p.cls x.id region hc;have arE:=tw p.cls x.ra (by omega)
 have hwl:(tZ p.cls x.ra).length<=1000000:=by
  unfold tZ;rw[zzbe];exact zzbq (zzbn _ _) hc
 refine Xd acG (fun d f' l=>if f'=187 then .sl .ro ((Qcc p.cls x.id region).map Qe)else if f'=188 then .sl .ro ((tZ p.cls x.ra).map Qe)else
  if f'=189 then(match l with|[_,_,.int _ a,.int _ b]=>.sl .ro ((ij p.of p.sh s a b).map Qe)|_=>.junk)else .junk) (by simp) ?_
 unfold lM at hF;generalize hS:Qcc p.cls x.id region=S at hF arD;generalize hW:tZ p.cls x.ra=W at hF arE hwl;simp only[zzaw,FI]at hF;simp[TX,Qc,Qm];refine⟨arD,?_⟩;refine hF _ (fk.refl _) _ (fun m2 p9=>?_) (fun m2 hK=>?_)
 ·rw[zzcs]at p9;simp;refine⟨arE,?_⟩;refine Qj I4 (fun f mm=>∃i:Nat,f 23=I i/\i<=W.length/\vT (Y l) K ((W.drop i).map (FI ∘ fun w=>ij p.of p.sh s w.1 w.2)) mm) (fun f _=>W.length-(numOf (f 23)).toNat) ?_ ?_
  ·exact⟨0,by simp,by omega,by simpa using p9⟩
  rintro f mm ⟨i,h23,hi,hF3⟩;rcases zzaa i W.length with ai|bB
  ·obtain⟨w,hw⟩:=aR ai;have yN:=Zd hw;have ah:(i:Int)<(W.length:Int):=by omega
   have qc:=bJ i (by omega);have hd:W.drop i=w::W.drop (i+1):=by rw[zzaf ai,(zza.1 hw).2]
   rw[hd,zzaw]at hF3;simp only[Function.comp_apply,FI]at hF3;have av6:=zf p.of p.sh s w.1 w.2 gD h1 h2
   have gC:∀x,Qh (mm.boxes++[x]) mm.boxes.length=x:=fun x=>by
    simp
   simp[h23,I4,ah,yN,gC];refine⟨av6,?_⟩;refine hF3 _ (fk.box mm [[I w.1,I w.2]]) _ (fun m3 hF4=>?_) (fun m3 hK=>?_)
   ·simp[qc];refine⟨aN,⟨i+1,by omega,by omega,by rw[<- zzgd];exact hF4⟩,by omega⟩
   simp[M3];exact hK _ (fk.refl _)
  obtain rfl:i=W.length:=by omega
  rw[zzbr,zzce]at hF3;simp[h23,I4,M3];exact hF3 _ (fk.refl _)
 simp[M3];exact hK _ (fk.refl _)
open Go Go.Abs
def amj:SC:=(⟨_,by cbv⟩:vO [1,1,1,1,1,1,1,1,1,1,1,1,0,1] Tk).1
def CF:SC->SC:=(⟨_,fun _=>by cbv⟩:vP [1,1,1,1,1,1,1,1,1,1,1,1,0,1] Tk).1
theorem oS:Tk=CF amj:=rfl
def ua(p:Pl)(w:Sp):Sp:=(wJ p.nu p.de (w.1-p.ep),wJ p.nu p.de (w.2-p.ep))
def AK(Y:YT)(p:Pl)(orc:Nat->FuncId->List AV->AV)(ho:∀d l,orc d 74 l=.gd false .junk)(ho9:∀d l,orc d 999999 l=.junk)(E:List (Nat×AV))(m:AM)(U:List Sp)(rt:Rt)(Q:Exit->AS->Prop)
  (h85:Abs.look E 85=.sl rt (U.map Qe))(h86:Abs.look E 86=I U.length)(h87:Abs.look E 87=I 0)(nC:Abs.look E 14=.fn 118 [] [.ptr 0 0])(si:Abs.look E 15=.sl .nil [])
  (h0:0<m.boxes.length)(hr:Qh m.boxes 0=Qc p)(hU:U.length<=10000000)(hUb:∀w∈U,(-1000000000000<=w.1-p.ep/\w.1-p.ep<=1000000000000)/\(-1000000000000<=w.2-p.ep/\w.2-p.ep<=1000000000000))
  (hQ:∀E' bx Lm eT,fN D3 E' E->Abs.look E' 15=.sl eT ((U.map (ua p)).map Qe)->(eT=.nil/\U=[]\/U≠[]/\∃k,eT=.own k 2)->Q .normal ⟨Zi 108 E',⟨m.boxes++bx,Lm,m.st,m.ln⟩⟩):
  vc Tryz.prog az orc Y amj ⟨Zi 108 E,m⟩ Q:=by
 simp[amj];refine Qj D3 (fun f mm=>∃(i:Nat)(bx:List (List AV))(Lm:List Nat)(eT:Rt),f 87=I i/\i<=U.length/\mm=⟨m.boxes++bx,Lm,m.st,m.ln⟩/\f 15=.sl eT ((U.map (Qe ∘ ua p)).take i)/\(i=0/\eT=.nil\/i≠0/\∃k,eT=.own k 2/\Lm[k]?=some i)) (fun f _=>U.length-(numOf (f 87)).toNat) ?_ ?_
 ·exact⟨0,[],m.lens,.nil,by simp[h87],by omega,by simp,by simp[si],.inl ⟨rfl,rfl⟩⟩
 rintro f mm ⟨i,bx,Lm,eT,h87',hi,rfl,h15',aT⟩;rcases zzaa i U.length with ai|bB
 ·obtain⟨w,hw⟩:=aR ai;have yN:=Zd hw;obtain⟨c1,c2⟩:=hUb w (zzac hw);have ah:(i:Int)<(U.length:Int):=by omega
  have qc:=bJ i (by omega);have eU:IntKind.i64.wrap 1=1:=by rw[Qi]<;>omega
  have bz:U.take (i+1)=U.take i++[w]:=by rw[zzar,hw];rfl
  have qE:(U.take i).length=i:=by rw[zzaq];omega
  have tV:∀x,Qh (m.boxes++(bx++[x])) (m.boxes.length+bx.length)=x:=fun x=>by
   simp
  have s5:∀x,Qh (m.boxes++x) 0=Qc p:=fun x=>by rw[Ql h0];exact hr
  have e1:=fun m' h1 h2 K hK=>wI p w.1 c1 Y m' 0 h1 h2 K hK;have e2:=fun m' h1 h2 K hK=>wI p w.2 c2 Y m' 0 h1 h2 K hK;have hG:(U.map (Qe ∘ ua p)).take (i+1)=(U.map (Qe ∘ ua p)).take i++[[I (wJ p.nu p.de (w.1-p.ep)),I (wJ p.nu p.de (w.2-p.ep))]]:=by rw[zzar,zzbp,hw];rfl
  have hGl:((U.map (Qe ∘ ua p)).take i).length=i:=by rw[zzaq,zzbe];omega
  have hG2:∀row∈(U.map (Qe ∘ ua p)).take i,row.length=2:=by
   intro row h;obtain⟨a,_,rfl⟩:=zzay.1 (zzbx h);rfl
  generalize hGG:(U.map (Qe ∘ ua p)).take i=G at*
  obtain⟨rfl,rfl⟩|⟨aJ,k,rfl,hk⟩:=aT
  ·simp[h87',h85,h86,h15',D3,ai,yN,tV];refine Qax [(I (wJ p.nu p.de (w.1-p.ep)),⟨m.boxes++(bx++[[I w.1,I w.2]]),Lm,m.st,m.ln⟩),(I (wJ p.nu p.de (w.2-p.ep)),⟨m.boxes++(bx++[[I w.1,I w.2]]),Lm,m.st,m.ln⟩)] ?_;simp[h87',nC,tV,ho9,eU];refine⟨e1 _ (by simp;omega) (s5 _) _ ⟨rfl,rfl⟩,e2 _ (by simp;omega) (s5 _) _ ⟨rfl,rfl⟩,⟨by rintro row (h|rfl);exact hG2 row h;rfl,by omega⟩,ag ?_,?_,by omega⟩
   ·repeat(first|exact Qa _ _|refine Qb _ rfl ?_)
   exact⟨1,rfl,by omega,_,_,⟨rfl,rfl⟩,_,⟨rfl,hG.symm⟩,.inr ⟨by omega,Lm.length,rfl,by simp[hGl]⟩⟩
  simp[h87',h85,h86,h15',D3,ah,yN,tV];refine Qax [(I (wJ p.nu p.de (w.1-p.ep)),⟨m.boxes++(bx++[[I w.1,I w.2]]),Lm,m.st,m.ln⟩),(I (wJ p.nu p.de (w.2-p.ep)),⟨m.boxes++(bx++[[I w.1,I w.2]]),Lm,m.st,m.ln⟩)] ?_;simp[h87',nC,tV,qc,hk];refine⟨e1 _ (by simp;omega) (s5 _) _ ⟨rfl,rfl⟩,e2 _ (by simp;omega) (s5 _) _ ⟨rfl,rfl⟩,⟨hGl.symm,by rintro row (h|rfl);exact hG2 row h;rfl,by omega⟩,ag ?_,?_,by omega⟩
  ·repeat(first|exact Qa _ _|refine Qb _ rfl ?_)
  exact⟨i+1,by omega,by omega,_,_,⟨rfl,rfl⟩,_,⟨rfl,hG.symm⟩,.inr ⟨by omega,k,rfl,by simp[hGl,(zza.1 hk).1]⟩⟩
 obtain rfl:i=U.length:=by omega
 rw[zzam (by simp)]at h15';simp[h87',h86,D3];refine hQ _ bx Lm eT ?_ ?_ ?_
 ·repeat(first|exact Qa _ _|refine Qb _ rfl ?_)
 ·simp[h15']
 obtain⟨h1,h2⟩|⟨h1,k,h2,h3⟩:=aT
 ·exact .inl ⟨h2,zzca.1 h1⟩
 exact .inr ⟨fun h=>h1 (by rw[h];rfl),k,h2⟩
open Go Go.Abs
def KJ:∀(l:List Sp)(lo hi:Int),VS l->(∀w∈l,lo<=w.1/\w.2<=hi)->(l.length:Int)<=max 0 (hi-lo)
 |[],lo,hi,_,_=>by simp only[zzcf];omega
 |s::l,lo,hi,h,hb=>by
  obtain⟨h1,h2,h3⟩:=cO.1 h;have:=KJ l (s.2+1) hi h3 (fun w hw=>⟨by have:=h2 w hw;omega,(hb w (by simp[hw])).2⟩);have b:=hb s (by simp);simp only[zzba];omega
def SZ(lo hi:Int)(l:List Sp):Prop:=∀w∈l,lo<=w.1/\w.1<=hi/\lo<=w.2/\w.2<=hi
def ud{lo hi:Int}{a b:List Sp}(h:SZ lo hi a):SZ lo hi (zg a b):=by
 obtain⟨⟨h1,_⟩,h2⟩:=kM a b;intro w hw;have ai:=h1 w hw;obtain⟨s,hs,s1,s2⟩:=((h2 w.1).1 ⟨w,hw,by omega,ai⟩).1;obtain⟨t,ht,t1,t2⟩:=((h2 (w.2-1)).1 ⟨w,hw,by omega,by omega⟩).1;have:=h s hs;have:=h t ht;omega
def XY{lo hi:Int}{a b:List Sp}(h:SZ lo hi a):((zg a b).length:Int)<=max 0 (hi-lo):=
 KJ _ _ _ (kM a b).1 (fun w hw=>⟨(ud h w hw).1,(ud h w hw).2.2.2⟩)
def kN{nu de f g:Int}(hv:Ve nu de=true)(h0:0<=f)(hfg:f<=g)(hg:g<=100000000):Yj nu de f<=Yj nu de g/\Yj nu de g<=Yj nu de f+(g-f):=by
 obtain⟨b1,b2,b3,b4,b5⟩:=Jp hv;rw[Yj,Yj,if_pos ⟨hv,h0,by omega⟩,if_pos ⟨hv,by omega,hg⟩];have q0:0<=f*de:=zzdz h0 (by omega);have q1:0<=g*de:=zzdz (by omega) (by omega);rw[zzck q0,zzck q1];have m1:f*de<=g*de:=Int.mul_le_mul_of_nonneg_right hfg (by omega);have m2:(g-f)*de<=(g-f)*nu:=zzfu (by omega) (by omega)
 have m3:g*de<=f*de+(g-f)*nu:=by
  have:g*de=f*de+(g-f)*de:=by rw[<- Int.add_mul];congr 1;omega
  omega
 constructor
 ·exact Int.ediv_le_ediv (by omega) m1
 have:=Int.ediv_le_ediv (c:=nu) (by omega) m3;rw[Int.add_mul_ediv_right _ _ (by omega)]at this;exact this
def QM(s:Sp):Sp:=(max s.1 0,min s.2 100000001)
def uS(p:Pl)(c:Sp):Sp:=(p.ep+Yj p.nu p.de c.1,p.ep+Yj p.nu p.de (c.2-1)+1)
def iq(p:Pl)(x:It)(region:Int)(u:Sp)(i:Nat):List Sp:=((lM p x region u).take i).foldl zg [u]
def Vo(p:Pl)(id region:Int)(s:Sp):List Sp:=
 let c:=QM s
 match Xh id p.aM with
 |none=>[]
 |some x=>if region<0\/8<=region\/c.2<=c.1\/1000000<c.2-c.1 then[]else if x.ki=5 then[c]else if Ka p=false then[]else
  zg ((iq p x region (uS p c) (lM p x region (uS p c)).length).map (ua p)) [c]
def tC:List AV->Sp
 |[.int _ a,.int _ b]=>(a,b)
 |_=>(0,0)
@[simp] def aeO(l:List Sp):(l.map Qe).map tC=l:=by
 induction l with
 |nil=>rfl
 |cons a l ih=>simp only[zzaw,ih];rfl
@[simp] def arF(l:List Sp):l.map (tC ∘ Qe)=l:=by rw[<- zzcs];exact aeO l
@[simp] theorem arG(a b:Int):tC [I a,I b]=(a,b):=rfl
def zh(p:Pl)(id region:Int)(s:Sp):Nat->FuncId->List AV->AV:=fun d f l=>
 if f=999999 then .junk else
 if f=113 then Zp (Xh id p.aM)else
 if f=114 then .bool (Ka p)else
 if f=115 then(match l with|[_,.int _ n]=>I (p.ep+Yj p.nu p.de n)|_=>.junk)else
 if f=116 then(match l with|[_,.agg x,_,.agg u]=>.fn 186 [] [.ep (Qc p) 0,.ep x 0,.ep [I region] 0,.ep u 0]|_=>.junk)else
 if f=117 then(match l with|[.sl _ A,.sl _ B]=>.sl .ro ((zg (A.map tC) (B.map tC)).map Qe)|_=>.junk)else .gd false .junk
def KK(cs:List Cl)(item region:Int)(h:cs.length<=1000000):(Qcc cs item region).length<=2000000:=by
 have h1:=Yv (nr (dA (Ky cs item region)) (vY (Ky cs item region)) (dA (Ky cs item region)).length);have h2:=v7 (dA (Ky cs item region)) (vY (Ky cs item region)) (dA (Ky cs item region)).length;have h3:=NT (Ky cs item region);have h4:(Ky cs item region).length<=cs.length:=zzbn _ _;unfold Qcc;omega
def XZ(p:Pl)(x:It)(region:Int)(u:Sp)(h:p.cls.length<=1000000):∀l∈lM p x region u,l.length<=2000000:=by
 intro l hl;rw[lM,zzau,zzay]at hl;obtain rfl|⟨w,_,rfl⟩:=hl
 ·exact KK _ _ _ h
 have:=XX p.of p.sh u w.1 w.2;omega
def CG{lo hi:Int}:∀(ls:List (List Sp))(a:List Sp),SZ lo hi a->SZ lo hi (ls.foldl zg a)
 |[],a,h=>h
 |l::r,a,h=>CG r _ (ud h)
def AL{lo hi:Int}:∀(ls:List (List Sp))(a:List Sp),SZ lo hi a->(a.length:Int)<=max 1 (hi-lo)->((ls.foldl zg a).length:Int)<=max 1 (hi-lo)
 |[],a,_,h=>h
 |l::r,a,h,hl=>AL r _ (ud h) (by have:=XY (b:=l) h;omega)
def FL(p:Pl)(id region:Int)(s:Sp)(hc:p.cls.length<=1000000)(gD:p.sh.length<=1000000000)(cH:p.aM.length<=1000000000)(h1: -9223372036854775808<=s.1/\s.1<=9223372036854775807)(h2: -9223372036854775808<=s.2/\s.2<=9223372036854775807):
  ∃rt,Pure Tryz.prog az 59 [.agg (Qc p),I id,I region,.agg [I s.1,I s.2]] (.sl rt ((Vo p id region s).map Qe)):=by
 have CH:=kP p id cH;have k70:=KL p gD;obtain⟨c,hcS⟩:∃c,QM s=c:=⟨_,rfl⟩;have hcb:0<=c.1/\c.2<=100000001/\c.1<=9223372036854775807/\ -9223372036854775808<=c.2:=by rw[<- hcS,QM];simp only;omega
 have SY:max s.1 0=c.1:=by rw[<- hcS];rfl
 have QJ:min s.2 100000001=c.2:=by rw[<- hcS];rfl
 have FM:(if s.1<0 then 0 else s.1)=c.1:=by omega
 have FN:(if 100000001<s.2 then 100000001 else s.2)=c.2:=by omega
 cases hfx:Xh id p.aM with
 |none=>
  have hP:Vo p id region s=[]:=by simp[Vo,hfx]
  rw[hP];refine⟨.nil,Qn uB (zh p id region s) (by simp) ?_⟩;rw[oS];simp[CF,Qc,zh,hfx,Zp,sU,FM,FN];simpa[hfx,Zp,Qc]using CH
 |some x=>
  rw[hfx]at CH;by_cases hb:region<0\/8<=region\/c.2<=c.1\/1000000<c.2-c.1
  ·have hP:Vo p id region s=[]:=by simp only[Vo,hfx,hcS,if_pos hb]
   rw[hP];refine⟨.nil,Qn uB (zh p id region s) (by simp) ?_⟩;have KM:Abs.Pure Tryz.prog az 113 [.agg (Qc p),I id] (.aV [.agg (Qm x),.bool true]):=CH;rw[oS];by_cases b1:region<0
   ·simp[CF,Qc,zh,hfx,Zp,Qm,sU,FM,FN,b1];exact KM
   by_cases b2:8<=region
   ·simp[CF,Qc,zh,hfx,Zp,Qm,sU,FM,FN,b1,b2];exact KM
   by_cases b3:c.2<=c.1
   ·simp[CF,Qc,zh,hfx,Zp,Qm,sU,FM,FN,b1,b2,b3];exact KM
   have b4:1000000<c.2-c.1:=by omega
   have hw:IntKind.i64.wrap (c.2-c.1)=c.2-c.1:=by rw[Qi]<;>omega
   simp[CF,Qc,zh,hfx,Zp,Qm,sU,FM,FN,b1,b2,b3,b4,hw];exact KM
  simp only[not_or]at hb;obtain⟨b1,b2,b3,b4⟩:=hb;have hw:IntKind.i64.wrap (c.2-c.1)=c.2-c.1:=by rw[Qi]<;>omega
  by_cases hk:x.ki=5
  ·have hP:Vo p id region s=[c]:=by simp only[Vo,hfx,hcS,if_neg (show¬(region<0\/8<=region\/c.2<=c.1\/1000000<c.2-c.1) by omega),if_pos hk]
   rw[hP];refine⟨.full,Qn uB (zh p id region s) (by simp) ?_⟩;rw[oS];simp[CF,Qc,zh,hfx,Zp,Qm,sU,FM,FN,b1,b2,b3,b4,hw,hk,Qe];rw[Zp,Qm,hk]at CH;exact CH
  have av7:=oR p.nu p.de c.1;have au4:=oR p.nu p.de (c.2-1);have eU:IntKind.i64.wrap (c.2-1)=c.2-1:=by rw[Qi]<;>omega
  have KM:Abs.Pure Tryz.prog az 113 [.agg (Qc p),I id] (.aV [.agg (Qm x),.bool true]):=CH;by_cases ht:Ka p=true
  ·have hte:Ve p.nu p.de=true/\0<=p.ep/\p.ep<=9000000000:=by
    simp only[Ka,zzak,decide_eq_true_eq]at ht;exact⟨ht.1.1,ht.2⟩
   have ee:IntKind.i64.wrap (p.ep+Yj p.nu p.de (c.2-1)+1)=p.ep+Yj p.nu p.de (c.2-1)+1:=by rw[Qi]<;>omega
   have CI:IntKind.i64.wrap (p.ep+Yj p.nu p.de c.1)=p.ep+Yj p.nu p.de c.1:=by rw[Qi]<;>omega
   have arH:=k70;rw[ht]at arH;have k71:=sg p c.1 hte.2;have av8:=sg p (c.2-1) hte.2;obtain⟨u,hu⟩:∃u,uS p c=u:=⟨_,rfl⟩;have hu1:p.ep+Yj p.nu p.de c.1=u.1:=by rw[<- hu];rfl
   have JP:p.ep+Yj p.nu p.de (c.2-1)+1=u.2:=by rw[<- hu];rfl
   have hu3:IntKind.i64.wrap u.2=u.2:=by rw[<- JP];exact ee
   have hdf:=kN (f:=c.1) (g:=c.2-1) hte.1 (by omega) (by omega) (by omega);have k72:=FJ p x region u
   have hP:Vo p id region s=zg ((iq p x region u (lM p x region u).length).map (ua p)) [c]:=by
    simp only[Vo,hfx,hcS,hu,if_neg (show¬(region<0\/8<=region\/c.2<=c.1\/1000000<c.2-c.1) by omega),if_neg hk,ht];simp
   rw[hP];refine⟨.ro,Qn uB (zh p id region s) (by simp) ?_⟩;rw[oS];simp[CF,Qc,zh,hfx,Zp,Qm,FM,FN,b1,b2,b3,b4,hw,hk,ht,eU,hu1,JP,hu3];rw[hu1]at k71;refine⟨KM,arH,k71,av8,k72,?_⟩;have hub: -9223372036854775808<=u.1/\u.1<=9223372036854775807/\ -9223372036854775808<=u.2/\u.2<=9223372036854775807:=by omega
   have hLi:=FK p x region u hc gD ⟨hub.1,hub.2.1⟩ hub.2.2;have hLl:=XZ p x region u hc;have arI:SZ u.1 u.2 [u]:=by intro w hw;simp at hw;subst hw;omega
   have av9:∀i,SZ u.1 u.2 (iq p x region u i):=fun i=>CG _ _ arI
   have p6:∀i,(iq p x region u i).length<=2000000:=fun i=>by
    have:=AL ((lM p x region u).take i) [u] arI (by simp;omega);unfold iq;omega
   have qx:∀i l,(lM p x region u)[i]?=some l->iq p x region u (i+1)=zg (iq p x region u i) l:=fun i l h=>by
    unfold iq;rw[zzar,h,zzgg];rfl
   have hc0:iq p x region u 0=[u]:=by simp[iq]
   have hps:∀y,ua p y=ua p y:=fun _=>rfl;generalize hXs:lM p x region u=Xs at*
   refine jc (xs:=Xs.map FI) (by simp;exact⟨rfl,rfl⟩) hLi (by intro y hy;simp[FI]at hy;obtain⟨a,_,rfl⟩:=hy;rfl)
    (fun i m=>∃(bx:List (List AV))(rt:Rt),m.boxes=Qc p::[I c.1,I c.2]::Qm x::[I u.1,I u.2]::[.sl rt ((iq p x region u i).map Qe)]::bx/\(rt=.full\/rt=.ro)) (fun _ _=>False) ?_ ?_ (fun _ _ _ h=>h.elim) ?_ ?_ (fun _ _ h=>h.elim)
   ·refine⟨[],.full,?_,.inl rfl⟩;rw[hc0];rfl
   ·rintro i m m' ⟨bx,rt,hb,aT⟩ ⟨⟨b2,e1⟩,_,_⟩;exact⟨bx++b2,rt,by rw[e1,hb];rfl,aT⟩
   ·rintro l i m y hg hr ⟨bx,rt,hb,aT⟩ hy K' q1 _ _;rw[zzbp,zzcd]at hy;obtain⟨y,hy,rfl⟩:=hy;rw[Ub]at hb;have hyl:=hLl y (zzac hy);have k73:=jo (iq p x region u i) y (by have:=p6 i;omega) (by omega);have hn:=qx i y hy;generalize iq p x region u i=C at*
    obtain rfl|rfl:=aT
    ·have awa:=Zk (l:=[.sl .full (C.map Qe),.sl .ro (y.map Qe)]) k73 ⟨Wk.sl _ _,Wk.refl _,trivial⟩;simp[hr,Zj,FI,hb,zh];refine⟨awa,q1 _ ⟨bx,.ro,?_,.inr rfl⟩⟩;simp[hn]
    simp[hr,Zj,FI,hb,zh];refine⟨k73,q1 _ ⟨bx,.ro,?_,.inr rfl⟩⟩;simp[hn]
   rintro m ⟨bx,rt,hb,aT⟩;have hcU:=p6 Xs.length;have hcI:=av9 Xs.length;rw[zzbe]at hb;generalize iq p x region u Xs.length=C at*
   have k73:=jo (C.map (ua p)) [c] (by simp;omega) (by simp);have sd:∀w∈C,(-1000000000000<=w.1-p.ep/\w.1-p.ep<=1000000000000)/\(-1000000000000<=w.2-p.ep/\w.2-p.ep<=1000000000000):=fun w hw=>by have:=hcI w hw;omega
   have leaf:∀rt,Abs.Pure Tryz.prog az 117 [.sl rt (C.map (Qe ∘ ua p)),.sl .full [[I c.1,I c.2]]] (.sl .ro ((zg (C.map (tC ∘ Qe ∘ ua p)) [(c.1,c.2)]).map Qe))/\(zg (C.map (tC ∘ Qe ∘ ua p)) [(c.1,c.2)]).map Qe=(zg (C.map (ua p)) [c]).map Qe:=by
    have e1:C.map (tC ∘ Qe ∘ ua p)=C.map (ua p):=zzdf fun _ _=>rfl;intro rt;rw[e1];refine⟨?_,rfl⟩;have:=Zk (l:=[.sl rt ((C.map (ua p)).map Qe),.sl .full ([c].map Qe)]) k73 ⟨Wk.sl _ _,Wk.sl _ _,trivial⟩;rw[zzcs]at this;exact this
   obtain rfl|rfl:=aT
   ·simp[hb];refine AK Y0 p (zh p id region s) (fun _ _=>rfl) (fun _ _=>rfl) _ _ C .full _ (by simp) (by simp) (by simp) (by simp) (by simp) (by simp[hb]) (by simp[hb]) (by omega) sd ?_;intro E' bx' Lm eT hA si FO;have h7:Abs.look E' 7=.ptr 1 0:=by rw[hA 7 (by decide)];simp
    obtain⟨rfl,hC⟩|⟨hC,k,rfl⟩:=FO
    ·simp[h7,si,hb,zh,sU];exact leaf _
    simp[h7,si,hb,zh,sU];exact leaf _
   simp[hb];refine AK Y0 p (zh p id region s) (fun _ _=>rfl) (fun _ _=>rfl) _ _ C .ro _ (by simp) (by simp) (by simp) (by simp) (by simp) (by simp[hb]) (by simp[hb]) (by omega) sd ?_;intro E' bx' Lm eT hA si FO;have h7:Abs.look E' 7=.ptr 1 0:=by rw[hA 7 (by decide)];simp
   obtain⟨rfl,hC⟩|⟨hC,k,rfl⟩:=FO
   ·simp[h7,si,hb,zh,sU];exact leaf _
   simp[h7,si,hb,zh,sU];exact leaf _
  have X0:Ka p=false:=by simpa using ht
  rw[X0]at k70;have hP:Vo p id region s=[]:=by simp only[Vo,hfx,hcS,if_neg (show¬(region<0\/8<=region\/c.2<=c.1\/1000000<c.2-c.1) by omega),if_neg hk,if_pos X0]
  rw[hP];refine⟨.nil,Qn uB (zh p id region s) (by simp) ?_⟩;rw[oS];simp[CF,Qc,zh,hfx,Zp,Qm,sU,FM,FN,b1,b2,b3,b4,hw,hk,X0];exact⟨KM,k70⟩
def nD(p:Pl)(id region:Int)(s:Sp)(hc:p.cls.length<=1000000)(gD:p.sh.length<=1000000000)(cH:p.aM.length<=1000000000)(h1: -9223372036854775808<=s.1/\s.1<=9223372036854775807)(h2: -9223372036854775808<=s.2/\s.2<=9223372036854775807):
  Pure Tryz.prog az 59 [.agg (Qc p),I id,I region,.agg [I s.1,I s.2]] (.sl .ro ((Vo p id region s).map Qe)):=by
 obtain⟨rt,h⟩:=FL p id region s hc gD cH h1 h2;exact Qy h (Wk.sl _ _)
end
end Go.Proofs.YtnopaopphmjnmaaGreatDoor
