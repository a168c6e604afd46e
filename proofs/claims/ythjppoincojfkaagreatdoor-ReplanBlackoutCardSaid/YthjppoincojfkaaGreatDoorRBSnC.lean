import Derived.Test.YthjppoincojfkaaGreatDoorRBMfR
set_option linter.all false
set_option maxRecDepth 100000
set_option maxHeartbeats 64000000
namespace Go.Proofs.YthjppoincojfkaaGreatDoor
open Go Go.Abs
def z6(o:Od):Od:={o with nw:={o.nw with al:=o.nw.al.take 9},cu:={o.cu with tx:=o.cu.tx.extract 0 (if 300<o.cu.tx.size then 300 else o.cu.tx.size)}}
def mxJ(a b:Int):Int:=if a<b then b else a
def afT(o:Od)(last:Int):Od:={z6 o with fr:=mxJ o.fr last}
def RU(o:Od)(last:Int):Int:=if mxJ o.fr last<=100000000 then mxJ o.fr last else last
def oc:Nat->List Od->Int->List Od
 |0,_,_=>[]
 |_+1,[],_=>[]
 |n+1,o::r,last=>afT o last::oc n r (RU o last)
def Hy(l:List Od):List Od:=oc 8 l 0
def afU(o:Od)(last:Int):last<=RU o last:=by unfold RU mxJ;split<;>split<;>omega
def HV:∀(n:Nat)(l:List Od)(last:Int),(oc n l last).length<=n
 |0,_,_=>by simp[oc]
 |n+1,[],_=>by simp[oc]
 |n+1,o::r,last=>by have:=HV n r (RU o last);simp[oc];omega
def OM:∀(n:Nat)(l:List Od)(last:Int),∀o∈oc n l last,yF o/\last<=o.fr
 |0,_,_,_,h=>by simp[oc]at h
 |n+1,[],_,_,h=>by simp[oc]at h
 |n+1,a::r,last,o,h=>by
  rw[oc]at h;rcases zzaq.1 h with rfl|h
  ·refine⟨by simp[yF,afT,z6];omega,?_⟩;show last<=mxJ a.fr last;unfold mxJ;split<;>omega
  have h1:=OM n r _ o h;have h2:=afU a last;exact⟨h1.1,zE⟩
def aav(l:List Od):(Hy l).length<=8:=HV 8 l 0
def afF(l:List Od):∀o∈Hy l,yF o/\0<=o.fr:=OM 8 l 0
def LU(g:Pg)(o:Od):Pg:=j6 (Zu g o)
def ku:Pg->List Od->List Pg
 |_,[]=>[]
 |g,o::r=>LU g o::ku (LU g o) r
def DP(p:Pl)(l:List Od):List Pg:=if iB p=0 then j6 (uV p)::ku (j6 (uV p)) l else[]
def BG:∀(g:Pg)(l:List Od),(ku g l).length=l.length
 |_,[]=>rfl
 |g,o::r=>by rw[ku,zzbg,zzbg,BG]
def DV(g:Pg):j6 (j6 g)=j6 g:=by
 unfold j6;simp only[zzct];congr 1
def Qed(g:Pg)(o:Od):Qg (LU g o)=Qg (Zu g o):=lu _
structure ChP (k:Nat) (g:Pg):Prop where
 ok:dx k g
 nn:j6 g=g
def ChP.step{k:Nat}{g:Pg}{o:Od}(h:ChP k g)(hk:k<=900):ChP (k+1) (LU g o):=⟨(rN h.ok hk).j6,DV _⟩
def ON:∀{l:List Od}{g:Pg}{k:Nat},ChP k g->k+l.length<=900->∀(i:Nat)(h:Pg),(g::ku g l)[i]?=some h->ChP (k+i) h
 |[],g,k,hg,hk,0,h,e=>by simp at e;subst e;exact hg
 |[],g,k,hg,hk,i+1,h,e=>by simp[ku]at e
 |o::r,g,k,hg,hk,0,h,e=>by simp at e;subst e;exact hg
 |o::r,g,k,hg,hk,i+1,h,e=>by
  rw[ku,zzcw]at e;simp only[zzbg]at hk;have:=ON (hg.step (o:=o) zE) zE i h e;rw[show k+(i+1)=k+1+i by omega];exact this
def aax{p:Pl}(hp:RI p){l:List Od}(hl:l.length<=8)(i:Nat)(g:Pg)(h:(DP p l)[i]?=some g):ChP i g:=by
 unfold DP at h;split at h
 ·rename_i hb;have:=ON (l:=l) (g:=j6 (uV p)) (k:=0) ⟨(DK hp hb).j6,DV _⟩ zE i g h;rw[zzbs]at this;exact this
 simp at h
def afG(p:Pl)(l:List Od):(DP p l).length=if iB p=0 then l.length+1 else 0:=by
 unfold DP;split
 ·rw[zzbg,BG]
 rfl
def EvT(lo up:Int):List bF->Prop
 |[]=>lo=up
 |e::r=>e.st=lo/\1<=e.fr/\0<=e.i/\EvT (e.st+e.fr) up r
def ay4(g:Pg):Prop:=EvT 0 g.p.ln g.ev
structure PlL (p:Pl):Prop where
 sh:RI p
 al:∀e∈p.ens,e.al.length<=8796093022208
 ea:∀e∈p.ens,e.ea<=9223372036854775807
open Go Go.Abs
theorem Ma(o:Od)(last:Int):Qq (afT o last)=[I o.sq,I o.ch,I (mxJ o.fr last),I o.ki,I o.en,I o.n,I o.nw.id,I o.nw.it,I o.nw.fr,I o.nw.ea,I o.nw.la,I o.nw.bo,.sl .ro (List.map Qf (List.take 9 o.nw.al)),
  I o.cl.ki,I o.cl.it,I o.cl.fr,I o.cl.to,I o.cl.re,I o.cl.n,I o.cl.a,I o.cl.b,I o.cu.id,I o.cu.fr,I o.cu.to,I o.cu.pr,.str (o.cu.tx.extract 0 (if 300<o.cu.tx.size then 300 else o.cu.tx.size))]:=rfl
def at2(o:Od):Pure Tryz.prog aD 24 [.agg (Qq o)] (.agg (Qq (z6 o))):=by
 have t1:List.take (if(9:Int)<(o.nw.al.length:Int)then(9:Int)else(o.nw.al.length:Int)).toNat (o.nw.al.map Qf)=List.take 9 (o.nw.al.map Qf):=by
  have:=Qdx (o.nw.al.map Qf) 9;rw[zzbt]at this;exact this
 have a1:=sY (a:=o.nw.al.length) 9;have b1:=sZ (a:=o.nw.al.length) 9;have a2:=sY (a:=o.cu.tx.size) 300;have b2:=sZ (a:=o.cu.tx.size) 300
 have e2:(if(300:Int)<(o.cu.tx.size:Int)then(300:Int)else(o.cu.tx.size:Int)).toNat=if 300<o.cu.tx.size then 300 else o.cu.tx.size:=by
  by_cases h:300<o.cu.tx.size
  ·rw[if_pos h,if_pos zE];rfl
  rw[if_neg h,if_neg zE];omega
 simp at a1 b1 a2 b2;refine Qp ajq (fun _ _ _=>.junk) zd ?_;simp[aor,aos,Qq,Qd,Qi,Qm,z6,t1,a1,b1,a2,b2,e2];rintro row a b _ rfl;rfl
def ayd(o:List Od)(rt:Rt)(ls:Pa):Prop:=(o=[]/\rt=.nil/\ls=[])\/(o≠[]/\rt=.own 0 26/\ls=[o.length])
def at3(l:List Od)(f:Nat->AV)(m:AM):Prop:=
 ∃(i:Nat)(out:List Od)(last:Int)(rt:Rt)(ls:Pa)(bx:T5),f 5=I i/\i<=l.length/\i<=8/\f 3=.sl rt (out.map Qq)/\f 4=I last/\ayd out rt ls/\out.length=i/\out++oc (8-i) (l.drop i) last=Hy l/\m=⟨bx,ls,fun _=>.gone,0⟩
def qb:UV:=fun _ f l=>if f=24 then(match l with
 |[.agg cs]=>.agg (Qq (z6 (dOd cs)))
 |_=>.junk)else .junk
def RW(l:List Od)(hl:l.length<=1000000000000):∃rt,Pure Tryz.prog aD 12 [.sl .ro (l.map Qq)] (.sl rt ((Hy l).map Qq)):=by
 refine⟨if Hy l=[]then .nil else .ro,Qp ajm qb zd ?_⟩;simp[ajl];refine Qk rS (at3 l) (fun f _=>l.length-(numOf (f 5)).toNat) ?_ ?_
 ·exact⟨0,[],0,.nil,[],[],zd,zE,zE,zd,zd,.inl ⟨rfl,rfl,rfl⟩,rfl,rfl,rfl⟩
 rintro f m ⟨i,out,last,rt,ls,bx,f5,hi,h8,f3,f4,hO,FI,hr,rfl⟩;rcases zzaa i l.length with ai|bn
 ·have aa:(i:Int)<(l.length:Int):=zE
  rcases zzaa i 8 with hl8|hg8
  ·have hi8:(i:Int)<8:=zE
   obtain⟨o,ho⟩:=aV ai;have ah:Qj (l.map Qq) i=Qq o:=Qu (by simp[ho]);have hw:=bO i zE;have hd:l.drop i=o::l.drop (i+1):=by rw[zzah ai,(zza.1 ho).2]
   rw[hd,show 8-i=(8-(i+1))+1 by omega,oc]at hr;have k24:=at2 o;have VV:=Ov o;have F4:=Ma o last;have hx:mxJ o.fr last=if o.fr<last then last else o.fr:=rfl;have hN:RU o last=if mxJ o.fr last<=100000000 then mxJ o.fr last else last:=rfl;rw[hx]at F4 hN;generalize hM:(if o.fr<last then last else o.fr)=M at*
   generalize hC:afT o last=C at*
   simp only[Qq,Qd,Qi,Qm,z6,zzae,zzai,zzgh]at ah k24 VV;simp only[zzgh]at F4;have zu:(out++[C])++oc (8-(i+1)) (l.drop (i+1)) (RU o last)=Hy l:=by rw[<- hr];simp
   by_cases hm:M<=100000000
   ·rw[if_pos hm]at hN;rw[hN]at zu;obtain⟨rfl,rfl,rfl⟩|⟨h0,rfl,rfl⟩:=hO
    ·simp[f5,f3,f4,rS,aa,hi8,hw,ah,qb,VV,hM,hm,z6,Qq,Qd,Qi,Qm];refine⟨k24,ag ?_,⟨i+1,[]++[C],M,.own 0 26,[1],_,zd,zE,zE,by simp[F4],zd,.inr ⟨zd,rfl,zd⟩,by simp at FI |-;omega,zu,rfl⟩,zE⟩;repeat(first|exact Qb _ _|refine Qc _ rfl ?_)
    simp[f5,f3,f4,rS,aa,hi8,hw,ah,qb,VV,hM,hm,z6,Qq,Qd,Qi,Qm];refine⟨k24,⟨?_,zE⟩,aQ,⟨i+1,out++[C],M,.own 0 26,[out.length+1],_,zd,zE,zE,by simp[F4],zd,.inr ⟨zd,rfl,zd⟩,by simp;omega,zu,rfl⟩,zE⟩
    ·rintro row (⟨a,_,rfl⟩|rfl)<;>rfl
   rw[if_neg hm]at hN;rw[hN]at zu;obtain⟨rfl,rfl,rfl⟩|⟨h0,rfl,rfl⟩:=hO
   ·simp[f5,f3,f4,rS,aa,hi8,hw,ah,qb,VV,hM,hm,z6,Qq,Qd,Qi,Qm];refine⟨k24,ag ?_,⟨i+1,[]++[C],last,.own 0 26,[1],_,zd,zE,zE,by simp[F4],by simp[f4],.inr ⟨zd,rfl,zd⟩,by simp at FI |-;omega,zu,rfl⟩,zE⟩;repeat(first|exact Qb _ _|refine Qc _ rfl ?_)
   simp[f5,f3,f4,rS,aa,hi8,hw,ah,qb,VV,hM,hm,z6,Qq,Qd,Qi,Qm];refine⟨k24,⟨?_,zE⟩,aQ,⟨i+1,out++[C],last,.own 0 26,[out.length+1],_,zd,zE,zE,by simp[F4],by simp[f4],.inr ⟨zd,rfl,zd⟩,by simp;omega,zu,rfl⟩,zE⟩
   ·rintro row (⟨a,_,rfl⟩|rfl)<;>rfl
  obtain rfl:i=8:=zE
  rw[zzfp,oc,zzat]at hr;rw[<- hr];obtain⟨rfl,rfl,rfl⟩|⟨h0,rfl,rfl⟩:=hO
  ·simp at FI
  simp[f5,f3,rS,aa,aba,h0]
 obtain rfl:i=l.length:=zE
 have e0:oc (8-l.length) (l.drop l.length) last=[]:=by rw[zzbx];cases 8-l.length<;>rfl
 rw[e0,zzat]at hr;rw[<- hr];obtain⟨rfl,rfl,rfl⟩|⟨h0,rfl,rfl⟩:=hO
 ·simp[f5,f3,rS,aba]
 simp[f5,f3,rS,aba,h0]
def LV(l:List Od)(hl:l.length<=1000000000000):Pure Tryz.prog aD 12 [.sl .ro (l.map Qq)] (.sl .ro ((Hy l).map Qq)):=by
 obtain⟨rt,h⟩:=RW l hl;exact Zk h (Wk.sl _ _)
open Go Go.Abs
def at4(o:List Pg)(rt:Rt)(ls:Pa):Prop:=(rt=.full/\ls=[]/\o.length=1)\/(rt=.own 0 18/\ls=[o.length]/\2<=o.length)
def at5(p:Pl)(l:List Od)(f:Nat->AV)(m:AM):Prop:=
 ∃(i:Nat)(g:Pg)(out:List Pg)(rt:Rt)(ls:Pa),f 9=I i/\i<=l.length/\f 8=.sl rt (out.map Qg)/\at4 out rt ls/\out.length=i+1/\out++ku g (l.drop i)=DP p l/\ChP i g/\m=⟨[Qa p,Qg g],ls,fun _=>.gone,0⟩
def HW:UV:=fun _ f l=>if f=30 then(match l with
 |[.agg cs]=>Hg (dPl cs)
 |_=>.junk)else if f=25 then(match l with
 |[.agg cs,.agg ds]=>.agg (Qg (LU (dPg cs) (dOd ds)))
 |_=>.junk)else .junk
def afV(p:Pl)(l:List Od)(hp:PlL p)(hl:l.length<=8)(ho:∀o∈l,yF o):∃rt,Pure Tryz.prog aD 13 [.agg (Qa p),.sl .ro (l.map Qq)] (.sl rt ((DP p l).map Qg)):=by
 refine⟨if iB p=0 then(if l=[]then .full else .ro)else .nil,Qp ajn HW zd ?_⟩;have y8:=Bw p (ai3 hp.sh hp.al hp.ea);have hdp:=Ou p;unfold Hg at y8;by_cases hb:iB p=0
 ·have WT:ChP 0 (j6 (uV p)):=⟨(DK hp.sh hb).j6,DV _⟩;have ic:DP p l=j6 (uV p)::ku (j6 (uV p)) l:=by unfold DP;rw[if_pos hb]
  rw[<- lu,hb]at y8;rw[if_pos hb];have hR:Hg p=.aS [.agg (Qg (j6 (uV p))),.sl .ro ((yC p).map Xb),I 0]:=by unfold Hg;rw[lu,hb]
  have hc:=(aax (l:=l) hp.sh hl 0 (j6 (uV p)) (by rw[ic];rfl));generalize j6 (uV p)=g0 at*
  simp only[Qa,Qg,zzae,zzai]at y8 hdp hR;simp[abb,Qa,Qg,HW,hdp,hR];refine⟨y8,?_⟩;refine Qk D9 (at5 p l) (fun f _=>l.length-(numOf (f 9)).toNat) ?_ ?_
  ·exact⟨0,g0,[g0],.full,[],zd,zE,by simp[Qg,Qa],.inl ⟨rfl,rfl,rfl⟩,rfl,by rw[ic];simp,hc,by simp[Qg,Qa]⟩
  rintro f m ⟨i,g,out,rt,ls,f9,hi,f8,hO,FI,hr,hg,rfl⟩;rcases zzaa i l.length with ai|bn
  ·obtain⟨o,cO⟩:∃o,l[i]?=some o:=⟨_,zzaf ai⟩;have aa:(i:Int)<(l.length:Int):=zE
   have ah:Qj (l.map Qq) i=Qq o:=Qu (by simp[cO]);have hw:=bO i zE;have hd:l.drop i=o::l.drop (i+1):=by rw[zzah ai,(zza.1 cO).2]
   rw[hd,ku]at hr;have iJ:=Qep g o (yG hg.ok zE (ho o (zzad cO)));rw[<- Qed]at iJ;have hg':=hg.step (o:=o) zE;have hdg:dPg (Qg g)=g:=by rw[afq,hg.nn]
   have VV:=Ov o;generalize hG:LU g o=h at*
   simp only[Qa,Qg,Qq,Qd,Qi,Qm,zzae,zzai]at iJ hdg VV ah;obtain⟨rfl,rfl,h1⟩|⟨rfl,rfl,h1⟩:=hO
   ·simp[f9,f8,D9,aa,hw,ah,HW,hdg,VV,hG,Qa,Qg];refine⟨iJ,⟨?_,zE⟩,aQ,⟨i+1,h,out++[h],.own 0 18,[out.length+1],zd,zE,by simp[Qg,Qa],.inr ⟨rfl,zd,by simp;omega⟩,by simp;omega,by rw[<- hr];simp,hg',by simp[Qg,Qa]⟩,zE⟩
    ·rintro row (⟨a,_,rfl⟩|rfl)<;>rfl
   simp[f9,f8,D9,aa,hw,ah,HW,hdg,VV,hG,Qa,Qg];refine⟨iJ,⟨?_,zE⟩,aQ,⟨i+1,h,out++[h],.own 0 18,[out.length+1],zd,zE,by simp[Qg,Qa],.inr ⟨rfl,zd,by simp;omega⟩,by simp;omega,by rw[<- hr];simp,hg',by simp[Qg,Qa]⟩,zE⟩
   ·rintro row (⟨a,_,rfl⟩|rfl)<;>rfl
  obtain rfl:i=l.length:=zE
  rw[zzbx,ku,zzat]at hr;rw[<- hr];obtain⟨rfl,rfl,h1⟩|⟨rfl,rfl,h1⟩:=hO
  ·have h0:l=[]:=zzc.1 zE;simp[f9,f8,D9,abc,h0]
  have h0:l≠[]:=fun h=>by rw[h]at FI;simp at FI;omega
  simp[f9,f8,D9,abc,h0]
 have ic:DP p l=[]:=by unfold DP;rw[if_neg hb]
 rw[if_neg hb,ic];have hR:Hg p=.aS [.agg (Qg (uV p)),.sl .ro ((yC p).map Xb),I (iB p)]:=rfl;generalize uV p=g0 at*
 simp only[Qa,Qg,zzae,zzai]at y8 hdp hR;simp[abb,abc,Qa,Qg,HW,hdp,hR,hb];exact y8
def aaw(p:Pl)(l:List Od)(hp:PlL p)(hl:l.length<=8)(ho:∀o∈l,yF o):Pure Tryz.prog aD 13 [.agg (Qa p),.sl .ro (l.map Qq)] (.sl .ro ((DP p l).map Qg)):=by
 obtain⟨rt,h⟩:=afV p l hp hl ho;exact Zk h (Wk.sl _ _)
open Go Go.Abs
def uh:Pl:=⟨0,25,1,0,[],0,1,200,1,[⟨1,5,50,0,0⟩,⟨2,2,20,0,0⟩,⟨3,4,100,0,0⟩],[⟨1,2,20,0,0,0,[]⟩,⟨2,3,40,20,50,0,[]⟩],[],[⟨1,2,0,1000,255,0,0,0⟩,⟨1,3,0,1000,255,0,0,0⟩]⟩
def zf:Pl:={uh with ens:=[⟨1,2,20,0,0,0,[]⟩,⟨2,3,50,20,50,0,[]⟩]}
def zg:Pl:={uh with ens:=[⟨1,2,20,0,0,0,[]⟩]}
def fiE(a n:Int):bF:=⟨0,1,a,n,0,1,[],false⟩
def bJ:Pg:=⟨uh,[⟨1,2,0,20,0,1,[],false⟩,⟨2,3,20,40,0,1,[],false⟩,fiE 60 50,fiE 110 50,fiE 160 40],[],0,[],0⟩
def SD:Pg:=⟨zf,[⟨1,2,0,20,0,1,[],false⟩,⟨2,3,20,10,0,1,[],false⟩,⟨2,3,30,40,10,1,[],false⟩,fiE 70 50,fiE 120 50,fiE 170 30],[],0,[],1⟩
def exK:Pg:=⟨zg,[⟨1,2,0,20,0,1,[],false⟩,fiE 20 50,fiE 70 50,fiE 120 50,fiE 170 30],[],0,[],1⟩
def oL:Od:=⟨1,-1,30,1,2,10,Iz,Sx,Q3⟩
def oD:Od:=⟨1,0,20,2,2,0,Iz,Sx,Q3⟩
def oX:Od:=⟨1,0,20,2,1,0,Iz,Sx,Q3⟩
def anq(fr a:Int):Vq fr a a=[]:=by rw[Vq,if_neg zE]
def anr{fr t a:Int}(h:a<t)(h2:t-a<=fr):Vq fr t a=[(a,t-a)]:=by
 have hN:Ub fr t a=t-a:=by unfold Ub;rw[if_pos zE];omega
 rw[Vq,if_pos h,hN,show a+(t-a)=t by omega,anq]
def Mb{fr t a:Int}(h:a<t)(h1:1<=fr)(h2:fr<t-a):Vq fr t a=(a,fr)::Vq fr t (a+fr):=by
 have hN:Ub fr t a=fr:=by unfold Ub;split<;>omega
 rw[Vq,if_pos h,hN]
def aaO:iG uh=true:=by cbv
def at6:iG zf=true:=by cbv
def at7:iG zg=true:=by cbv
def aua:Ur uh [1,2] [] [] 0 (-1)=some [(1,0),(2,20)]:=by rw[<- OF];cbv
def aaP:IC uh=some [(1,0),(2,20)]:=by unfold IC;rw[if_neg (by rw[aaO];decide)];exact aua
def aub:zP uh ⟨1,2,20,0,0,0,[]⟩ 0=⟨1,2,0,20,0,1,[],false⟩:=by cbv
def auc:zP uh ⟨2,3,40,20,50,0,[]⟩ 20=⟨2,3,20,40,0,1,[],false⟩:=by cbv
def aud:(y7 uh [(1,0),(2,20)] 0).map Z5=bJ.ev:=by
 have h1:jJ uh (1,0) 0=some ⟨1,2,20,0,0,0,[]⟩:=by cbv
 have h2:jJ uh (2,20) 20=some ⟨2,3,40,20,50,0,[]⟩:=by cbv
 have hf:Yf uh=50:=by cbv
 have hl:uh.ln=200:=rfl;rw[y7,if_neg (by rw[hl];omega),Kv,h1];simp only[hf,anq,zzcr,zzai];rw[show(0:Int)+20=20 from rfl,Kv,h2];simp only[hf,anq,zzcr,zzai];rw[show(20:Int)+40=60 from rfl,Kv,hf,hl,Mb zE zE zE,Mb zE zE zE,anr zE zE,aub,auc];rfl
def ajc:iB uh=0:=by unfold iB;rw[if_neg (by rw[aaO];decide),aaP]
def ajd:j6 (uV uh)=bJ:=by
 unfold uV j6;rw[aaP];simp only;rw[aud];rfl
def aye:Vj oL=true:=by
 unfold Vj;rw[if_neg (by simp[oL]),if_neg (by simp[oL]),if_neg (by simp[oL]),if_neg (by simp[oL])];simp[oL,okB,Jb,Sw,uO,Iz,Sx,Q3,eB]
def aue:Vj oD=true:=by
 unfold Vj;rw[if_neg (by simp[oD]),if_neg (by simp[oD]),if_neg (by simp[oD]),if_neg (by simp[oD])];simp[oD,okB,Jb,Sw,uO,Iz,Sx,Q3,eB]
def sD0:Kj ([]:Pi)=[]:=by unfold Kj;simp
def ans:Uz bJ 30 (Xo 30 bJ.ev []) oL=some (zf,50):=by
 unfold Uz;rw[if_neg (by simp[bJ,uh])];have hb:Kh bJ 30 (Xo 30 bJ.ev []) oL=some (zf,50):=by cbv
 have hm:yy bJ 30 (Xo 30 bJ.ev []) oL zf 50=true:=by cbv
 rw[hb];simp only;rw[if_pos (by rw[at6,hm];rfl)]
def aaQ:Uz bJ 20 (Xo 20 bJ.ev []) oD=some (zg,0):=by
 unfold Uz;rw[if_neg (by simp[bJ,uh])];have hb:Kh bJ 20 (Xo 20 bJ.ev []) oD=some (zg,0):=by cbv
 have hm:yy bJ 20 (Xo 20 bJ.ev []) oD zg 0=true:=by cbv
 rw[hb];simp only;rw[if_pos (by rw[at7,hm];rfl)]
def ant:Uz bJ 20 (Xo 20 bJ.ev []) oX=none:=by
 unfold Uz;rw[if_neg (by simp[bJ,uh])];cases hb:Kh bJ 20 (Xo 20 bJ.ev []) oX with
 |none=>rfl
 |some r=>
  obtain⟨q,d⟩:=r
  have hm:yy bJ 20 (Xo 20 bJ.ev []) oX q d=false:=by
   unfold yy;rw[if_neg (by simp[oX]),if_pos (by rfl)];cbv
  simp only;rw[hm,zzhg,if_neg (by decide)]
def ayf:Us bJ oL=true:=by unfold Us;rw[aye];rfl
def auf:Us bJ oD=true:=by unfold Us;rw[aue];rfl
def anu:j9 bJ oD=true:=by
 unfold j9;rw[auf,if_neg (by simp[oD])];show(true&&(Uz bJ 20 (Xo 20 bJ.ev []) oD).isSome)=true;rw[aaQ];rfl
def anv:j9 bJ oX=false:=by
 unfold j9;rw[if_neg (by simp[oX])];show(Us bJ oX&&(Uz bJ 20 (Xo 20 bJ.ev []) oX).isSome)=false;rw[ant,Option.isSome_none,zzhg]
def aje:LU bJ oL=SD:=by
 have cB:Bu bJ 30 (Xo 30 bJ.ev []) oL zf 50=some ⟨2,3,30,40,10,1,[],true⟩:=by cbv
 have he:Jk bJ 30 (Xo 30 bJ.ev []) oL zf 50=70:=by unfold Jk;rw[cB];rfl
 have h1:Uq bJ 30 (Xo 30 bJ.ev []) oL zf 50=[⟨1,2,0,20,0,1,[],false⟩,⟨2,3,20,10,0,1,[],false⟩,⟨2,3,30,40,10,1,[],true⟩]:=by unfold Uq;rw[cB];cbv
 have hi:Jj bJ (Xo 30 bJ.ev []) zf.ens=[]:=by cbv
 have hk:j4 bJ 30 (Xo 30 bJ.ev []) oL zf 50=[]:=by unfold j4;rw[hi];rfl
 have hs:Vk bJ 30 (Xo 30 bJ.ev []) oL zf 50=[]:=by unfold Vk;rw[hi,hk];rfl
 have hd:Wz bJ 30 (Xo 30 bJ.ev []) oL zf 50=[]:=by unfold Wz;rw[hi,hk];rfl
 have hf:Yf zf=50:=by cbv
 have hl:zf.ln=200:=rfl
 have hb:IB bJ 30 (Xo 30 bJ.ev []) oL zf 50=[⟨0,1,70,50,0,1,[],true⟩,⟨0,1,120,50,0,1,[],true⟩,⟨0,1,170,30,0,1,[],true⟩]:=by
  unfold IB;rw[hs,he,y7,if_neg (by rw[hl];omega),Kv,hf,hl,Mb zE zE zE,Mb zE zE zE,anr zE zE];rfl
 unfold LU Zu;rw[if_neg (by rw[ayf];decide),if_neg (by simp[oL])];have hx:Uz bJ oL.fr (Xo oL.fr bJ.ev []) oL=some (zf,50):=ans;rw[hx];show j6 (j5 bJ oL (Xo 30 bJ.ev []) zf 50)=SD;unfold j5;show j6 ({bJ with p:=zf,ev:=Uq bJ 30 _ _ zf 50++IB bJ 30 _ _ zf 50,dr:=dd (Kj (bJ.dr++Wz bJ 30 _ _ zf 50)),ve:=bJ.ve+1}:Pg)=SD;rw[h1,hb,hd];show j6 ({bJ with p:=zf,ev:=_,dr:=dd (Kj []),ve:=_}:Pg)=SD;rw[sD0];rfl
def ajf:LU bJ oD=exK:=by
 have cB:Bu bJ 20 (Xo 20 bJ.ev []) oD zg 0=none:=by cbv
 have he:Jk bJ 20 (Xo 20 bJ.ev []) oD zg 0=20:=by unfold Jk;rw[cB]
 have h1:Uq bJ 20 (Xo 20 bJ.ev []) oD zg 0=[⟨1,2,0,20,0,1,[],false⟩]:=by unfold Uq;rw[cB];cbv
 have hi:Jj bJ (Xo 20 bJ.ev []) zg.ens=[]:=by cbv
 have hk:j4 bJ 20 (Xo 20 bJ.ev []) oD zg 0=[]:=by unfold j4;rw[hi];rfl
 have hs:Vk bJ 20 (Xo 20 bJ.ev []) oD zg 0=[]:=by unfold Vk;rw[hi,hk];rfl
 have hd:Wz bJ 20 (Xo 20 bJ.ev []) oD zg 0=[]:=by unfold Wz;rw[hi,hk];rfl
 have hf:Yf zg=50:=by cbv
 have hl:zg.ln=200:=rfl
 have hb:IB bJ 20 (Xo 20 bJ.ev []) oD zg 0=[⟨0,1,20,50,0,1,[],true⟩,⟨0,1,70,50,0,1,[],true⟩,⟨0,1,120,50,0,1,[],true⟩,⟨0,1,170,30,0,1,[],true⟩]:=by
  unfold IB;rw[hs,he,y7,if_neg (by rw[hl];omega),Kv,hf,hl,Mb zE zE zE,Mb zE zE zE,Mb zE zE zE,anr zE zE];rfl
 unfold LU Zu;rw[if_neg (by rw[auf];decide),if_neg (by simp[oD])];have hx:Uz bJ oD.fr (Xo oD.fr bJ.ev []) oD=some (zg,0):=aaQ;rw[hx];show j6 (j5 bJ oD (Xo 20 bJ.ev []) zg 0)=exK;unfold j5;show j6 ({bJ with p:=zg,ev:=Uq bJ 20 _ _ zg 0++IB bJ 20 _ _ zg 0,dr:=dd (Kj (bJ.dr++Wz bJ 20 _ _ zg 0)),ve:=bJ.ve+1}:Pg)=exK;rw[h1,hb,hd];show j6 ({bJ with p:=zg,ev:=_,dr:=dd (Kj []),ve:=_}:Pg)=exK;rw[sD0];rfl
open Go Go.Abs
def aaR(e:En×Rt):P2:=[I e.1.id,I e.1.it,I e.1.fr,I e.1.ea,I e.1.la,I e.1.bo,.sl e.2 (e.1.al.map Qf)]
def anw(l:List (En×Rt))(rt:Rt):Wk (.sl rt (l.map aaR)) (.sl .ro ((l.map (·.1)).map Qd)):=by
 refine Wk.trans (Wk.sl _ _) ?_;rw[zzct];refine Wk.rows l aaR (Qd ∘ (·.1)) (fun _=>rfl) fun a j c' h=>?_
 match j,h with
 |0,h=>exact⟨_,rfl,by cases h;exact Ps⟩
 |1,h=>exact⟨_,rfl,by cases h;exact Ps⟩
 |2,h=>exact⟨_,rfl,by cases h;exact Ps⟩
 |3,h=>exact⟨_,rfl,by cases h;exact Ps⟩
 |4,h=>exact⟨_,rfl,by cases h;exact Ps⟩
 |5,h=>exact⟨_,rfl,by cases h;exact Ps⟩
 |6,h=>exact⟨_,rfl,by cases h;exact Wk.sl _ _⟩
 |j+7,h=>simp[Qd]at h
def aaS:P2:=[I 0,I 25,I 1,I 0,.sl .nil [],I 0,I 1,I 200,I 1,.sl .full [[I 1,I 5,I 50,I 0,I 0],[I 2,I 2,I 20,I 0,I 0],[I 3,I 4,I 100,I 0,I 0]],
 .sl .full [[I 1,I 2,I 20,I 0,I 0,I 0,.sl .nil []],[I 2,I 3,I 40,I 20,I 50,I 0,.sl .nil []]],.sl .nil [],
 .sl .full [[I 1,I 2,I 0,I 1000,I 255,I 0,I 0,I 0],[I 1,I 3,I 0,I 1000,I 255,I 0,I 0,I 0]]]
def Mc:Pure Tryz.prog aD 31 [] (.agg aaS):=by
 refine Qp ajw (fun _ _ _=>.junk) zd ?_;simp[aox,aoy,aaS]
def RX:Pure Tryz.prog aD 31 [] (.agg (Qa uh)):=
 Zk Mc (Qdv ⟨Ps,Ps,Ps,Ps,Wk.sl _ _,Ps,Ps,Ps,Ps,Wk.sl _ _,anw [(⟨1,2,20,0,0,0,[]⟩,.nil),(⟨2,3,40,20,50,0,[]⟩,.nil)] .full,Wk.sl _ _,Wk.sl _ _,trivial⟩)
def Me:RI uh:=⟨by decide,by decide,by decide,by decide,by decide,by decide⟩
def aaT:PlL uh:=⟨Me,by decide,by decide⟩
def oe:dx 0 bJ:=by rw[<- ajd];exact(DK Me ajc).j6
def anx:dx 1 SD:=by rw[<- aje];exact(rN oe zE).j6
def anz:dx 1 exK:=by rw[<- ajf];exact(rN oe zE).j6
def afW:Pure Tryz.prog aD 30 [.agg (Qa uh)] (.aS [.agg (Qg bJ),.sl .ro [],I 0]):=by
 have k:=Bw uh (ai3 Me aaT.al aaT.ea)
 have e:Hg uh=.aS [.agg (Qg bJ),.sl .ro [],I 0]:=by
  unfold Hg yC;rw[ajc,aaP,aaO,<- lu,ajd];rfl
 rw[e]at k;exact k
def qc(q c f k e n:Int):P2:=[I q,I c,I f,I k,I e,I n,I 0,I 0,I 0,I 0,I 0,I 0,.sl .nil [],I 0,I 0,I 0,I 0,I 0,I 0,I 0,I 0,I 0,I 0,I 0,I 0,.str ⟨#[]⟩]
def HX(q c f k e n:Int):Wk (.agg (qc q c f k e n)) (.agg (Qq ⟨q,c,f,k,e,n,Iz,Sx,Q3⟩)):=
 Qdv ⟨Ps,Ps,Ps,Ps,Ps,Ps,Ps,Ps,Ps,Ps,Ps,Ps,Wk.sl _ _,Ps,Ps,Ps,Ps,Ps,Ps,Ps,Ps,Ps,Ps,Ps,Ps,Ps,trivial⟩
def OO(q c f k e n:Int):yF ⟨q,c,f,k,e,n,Iz,Sx,Q3⟩:=by simp[yF,Iz]
def anA:Pure Tryz.prog aD 25 [.agg (Qg bJ),.agg (qc 1 (-1) 30 1 2 10)] (.agg (Qg SD)):=by
 have k:=Qep bJ oL (yG oe zE (OO _ _ _ _ _ _));rw[<- Qed,aje]at k;exact Xw k ⟨Ps,HX _ _ _ _ _ _,trivial⟩
def anB:Pure Tryz.prog aD 25 [.agg (Qg bJ),.agg (qc 1 0 20 2 2 0)] (.agg (Qg exK)):=by
 have k:=Qep bJ oD (yG oe zE (OO _ _ _ _ _ _));rw[<- Qed,ajf]at k;exact Xw k ⟨Ps,HX _ _ _ _ _ _,trivial⟩
def ayg:Pure Tryz.prog aD 21 [.agg (Qg bJ),.agg (qc 1 0 20 2 2 0)] (.bool true):=by
 have k:=rO bJ oD (yG oe zE (OO _ _ _ _ _ _));rw[anu]at k;exact Xw k ⟨Ps,HX _ _ _ _ _ _,trivial⟩
def ayh:Pure Tryz.prog aD 21 [.agg (Qg bJ),.agg (qc 1 0 20 2 1 0)] (.bool false):=by
 have k:=rO bJ oX (yG oe zE (OO _ _ _ _ _ _));rw[anv]at k;exact Xw k ⟨Ps,HX _ _ _ _ _ _,trivial⟩
def ayi:Pure Tryz.prog aD 22 [.agg (qc 1 0 20 2 2 0)] (.bool true):=by
 have k:=sU oD (by decide);rw[aue]at k;exact Xw k ⟨HX _ _ _ _ _ _,trivial⟩
def afX:Pure Tryz.prog aD 23 [.agg (Qg bJ),.agg (Qg bJ)] (.bool true):=amU bJ (oe.sm zE)
def afY(g h:Pg)(hv:g.ve≠h.ve):Pure Tryz.prog aD 23 [.agg (Qg g),.agg (Qg h)] (.bool false):=by
 refine Qp SJ (fun _ _ _=>.bool true) zd ?_;by_cases he:g.ed=h.ed
 ·simp[abd,abe,Qg,Qa,he,hv]
 simp[abd,abe,Qg,Qa,he,hv]
def ayj:Pure Tryz.prog aD 34 [.sl .ro (SD.ev.map Qe),I 69] (.aS [.agg [I 2,I 3,I 30,I 40,I 10,I 1,.sl .ro []],I 49,.bool true]):=by
 have k:=Hi SD.ev 69 (by decide) anx.small.2 zE;have e:xW 69 (Dm 69 SD.ev)=.aS [.agg [I 2,I 3,I 30,I 40,I 10,I 1,.sl .ro []],I 49,.bool true]:=by cbv
 rw[e]at k;exact k
def ayk:Pure Tryz.prog aD 34 [.sl .ro (exK.ev.map Qe),I 30] (.aS [.agg [I 0,I 1,I 20,I 50,I 0,I 1,.sl .ro []],I 10,.bool true]):=by
 have k:=Hi exK.ev 30 (by decide) anz.small.2 zE;have e:xW 30 (Dm 30 exK.ev)=.aS [.agg [I 0,I 1,I 20,I 50,I 0,I 1,.sl .ro []],I 10,.bool true]:=by cbv
 rw[e]at k;exact k
def aaU:UV:=fun d f _=>if f=31 then .agg (Qa uh)else if f=30 then .aS [.agg (Qg bJ),.sl .ro [],I 0]else if f=25 then(if d=29 then .agg (Qg SD)else .agg (Qg exK))
 else if f=32 then .aS [.str ⟨#[2,1,60,2,4,20]⟩,I 0]else if f=33 then .aS [.agg (qc 1 (-1) 30 1 2 10),I 0]
 else if f=34 then(if d=46 then .aS [.agg [I 2,I 3,I 30,I 40,I 10,I 1,.sl .ro []],I 49,.bool true]else .aS [.agg [I 0,I 1,I 20,I 50,I 0,I 1,.sl .ro []],I 10,.bool true])
 else if f=21 then .bool (decide (d≠59))else if f=22 then .bool true else if f=23 then .bool (decide (d=130))else .junk
def am9:Pure Tryz.prog aD 11 [] (.bool true):=by
 have h1:Qj (bJ.ev.map Qe) 1=[I 2,I 3,I 20,I 40,I 0,I 1,.sl .ro []]:=rfl;have h2:bJ.ev.length=5:=rfl;have h3:SD.ve=1:=rfl;have k1:=RX;have k2:=afW;have k3:=anA;have k4:=anB;have k5:=HT (gl:=aD);have k6:=HU (gl:=aD);have k7:=ayj;have k8:=ayk;have k9:=ayh;have k10:=ayi;have td:=ayg;have qn:=afX;have qo:=afY bJ SD (by decide);simp only[Qg,Qa,qc,oSL,zzae,zzai]at k1 k2 k3 k4 k5 k6 k7 k8 k9 k10 td qn qo;refine Qp ajk aaU zd ?_;simp[aon,aoo,aaU,Qg,Qa,qc,h1,h2,h3];exact⟨k1,k2,k3,k4,k5,k6,k7,k8,k9,k10,td,qn,qo⟩
def ana{p:Pl}(hp:(∀e∈p.ens,e.al.length<=8796093022208)/\∀e∈p.ens,e.ea<=9223372036854775807):PlL (Rh p):=
 ⟨amK p,fun e he=>hp.1 e (zzce he),fun e he=>hp.2 e (zzce he)⟩
