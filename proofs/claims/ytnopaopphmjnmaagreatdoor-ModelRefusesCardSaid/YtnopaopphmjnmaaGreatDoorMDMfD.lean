import Derived.Test.YtnopaopphmjnmaaGreatDoorMDMcW
set_option linter.all false
set_option maxRecDepth 100000
set_option maxHeartbeats 64000000
namespace Go.Proofs.YtnopaopphmjnmaaGreatDoor
noncomputable section
open Go Go.Abs
def ig(M:Md)(c v:Int):Option Pg:=(Hw M c).bind fun l=>if v<0 then none else l[v.toNat]?
def mQ:Option Pg->AV
 |none=>.aU [.agg eP,.bool false]
 |some g=>.aU [.agg (Qo g),.bool true]
def HP(Y:YT)(m:AM)(md:Nat)(M:Md)(pid aQ:Nat)(bh:List Rt)(bO:Rt)(z:List AV)(c v:Int)(h:ic m.boxes md M pid aQ bh bO z)(aT:∀rt∈bh,rt=.full\/∃k,rt=.own k 18)
  (hg:∀l∈M.ps,∀g∈l,PgC g)(hl:∀l∈M.ps,l.length<=1000000)(K:AV->AM->Prop)
  (hK:∀ex,K (mQ (ig M c v)) ⟨m.boxes++ex,m.lens,m.st,m.ln⟩):
  an Tryz.prog aq Y 20 [.ptr md 0,I c,I v] m K:=by
 obtain⟨mb,ml,ms,mn⟩:=m;have hB:∀ex,ic (mb++ex) md M pid aQ bh bO z:=fun ex=>h.ext ex;have kc:=fun ex K h0 h1=>Hy Y ⟨mb++ex,ml,ms,mn⟩ md M pid aQ bh bO z c (hB ex) K h0 h1;refine Xe TD (fun _ _ l=>match l with|[.agg cs]=>.agg cs|_=>.gd false .junk) (by simp) ?_;simp[alk];refine kc _ _ (fun hn=>?_) (fun l nc rt aoo=>?_)
 ·have hp:ig M c v=none:=by unfold ig;rw[hn];rfl
  rw[hp]at hK;by_cases hv:v<0
  ·simp[hv,IL];simpa[mQ,eP]using hK _
  have EX:0<=v:=by omega
  simp[hv,EX,IL];simpa[mQ,eP]using hK _
 have dK:=lE nc;have zn:=hl l dK;have hp:ig M c v=if v<0 then none else l[v.toNat]?:=by unfold ig;rw[nc];rfl
 rw[hp]at hK
 have fG:∃ce,sX rt ce:=by
  rcases aT rt aoo with rfl|⟨k,rfl⟩
  ·exact⟨_,fun m d x=>rfl⟩
  exact⟨_,sX.own _ _⟩
 obtain⟨ce,hce⟩:=fG;by_cases hv:v<0
 ·rw[if_pos hv]at hK;simp[hv,IL];simpa[mQ,eP]using hK _
 rw[if_neg hv]at hK;obtain⟨n,rfl⟩:=zzgs (show 0<=v by omega);rw[zzgg]at hK;by_cases ai:n<l.length
 ·obtain⟨g,hgg⟩:=aP ai;rw[hgg]at hK;have aa:Qh (l.map Qo) n=Qo g:=Qr (by simp[hgg]);have cW:(n:Int)<(l.length:Int):=by omega
  have Ct:¬(l.length:Int)<=(n:Int):=by omega
  have k44:=SH g (hg l dK g (zzac hgg));simp only[Qo,Qc,zzae,zzah]at aa k44;simp[hv,cW,Ct,aa,IL];refine⟨k44,?_⟩;simpa[mQ,Qo,Qc]using hK _
 have hn:l[n]?=none:=zzax (by omega);rw[hn]at hK;have Ct:(l.length:Int)<=(n:Int):=by omega
 have bX:l.length<=n:=by omega
 simp[hv,Ct,IL];simpa[mQ,eP]using hK _
open Go Go.Abs
def Yh(o:Od):Od:=if o.ki=1 then{o with nw:=lg,cl:=nP,cu:=nQ}else if o.ki=2 then{o with n:=0,nw:=lg,cl:=nP,cu:=nQ}else if o.ki=3 then{o with en:=0,n:=0,cl:=nP,cu:=nQ}
 else if o.ki=4 then{o with en:=0,n:=0,nw:=lg,cu:=nQ}else if o.ki=5 then{o with en:=0,n:=0,nw:=lg,cl:=nP}else{o with en:=0,n:=0,nw:=lg,cl:=nP,cu:=nQ}
def ag1(o:Od)(hk5:¬(o.ki<1\/5<o.ki)):zO o (Yh o)=Jm (Jg o):=by
 obtain⟨sq,ch,fr,ki,en,n,⟨a1,a2,a3,a4,a5,a6,al⟩,⟨c1,c2,c3,c4,c5,c6,c7,c8⟩,⟨d1,d2,d3,d4,tx⟩⟩:=o;rw[zzbh];unfold Yh Jg;by_cases h1:ki=1
 ·simp[h1,zO,DP,Mt,Jm,lg,nP,nQ,eB];constructor<;>(rintro⟨_,_⟩;simp_all)
 by_cases h2:ki=2
 ·simp[h2,zO,DP,Mt,Jm,lg,nP,nQ,eB];constructor<;>(rintro⟨_,_⟩;simp_all)
 by_cases h3:ki=3
 ·simp[h3,zO,DP,Mt,Jm,lg,nP,nQ,eB];try(constructor<;>(rintro⟨_,_⟩;simp_all))
 by_cases h4:ki=4
 ·simp[h4,zO,DP,Mt,Jm,lg,nP,nQ,eB];constructor<;>(rintro⟨_,_⟩;simp_all)
 have h5:ki=5:=by
  have q1:¬ki<1:=fun h=>hk5 (.inl h);have q2:¬5<ki:=fun h=>hk5 (.inr h);omega
 simp[h5,zO,DP,Mt,Jm,lg,nP,nQ,eB];constructor<;>(rintro⟨_,_⟩;simp_all)
def ag2(a b:Od)(rt:Rt)(ha:a.nw.al.length<=8796093022208):Pure Tryz.prog aq 67 [.agg (Qp a),.agg [I b.sq,I b.ch,I b.fr,I b.ki,I b.en,I b.n,I b.nw.id,I b.nw.it,I b.nw.fr,I b.nw.ea,I b.nw.la,I b.nw.bo,.sl rt (b.nw.al.map Qe),I b.cl.ki,I b.cl.it,I b.cl.fr,I b.cl.to,I b.cl.re,I b.cl.n,I b.cl.a,I b.cl.b,I b.cu.id,I b.cu.fr,I b.cu.to,I b.cu.pr,.str b.cu.tx]] (.bool (zO a b)):=
 Zj (ag0 a b ha) ⟨Wk.refl _,Qdh ⟨Wk.refl _,Wk.refl _,Wk.refl _,Wk.refl _,Wk.refl _,Wk.refl _,Wk.refl _,Wk.refl _,Wk.refl _,Wk.refl _,Wk.refl _,Wk.refl _,Wk.sl _ _,Wk.refl _,Wk.refl _,Wk.refl _,Wk.refl _,Wk.refl _,Wk.refl _,Wk.refl _,Wk.refl _,Wk.refl _,Wk.refl _,Wk.refl _,Wk.refl _,Wk.refl _,trivial⟩,trivial⟩
def yB(o:Od):Nat->FuncId->List AV->AV:=fun _ f l=>if f=63 then .bool (eL o.en)else if f=64 then .bool (yX o.nw)else if f=65 then .bool (Xi o.cl)else if f=66 then .bool (sO o.cu)else .bool (zO o (Yh o))
def Ph(o:Od)(ei:o.nw.al.length<=8796093022208):Pure Tryz.prog aq 34 [.agg (Qp o)] (.bool (Xr o)):=by
 have k67:=fun rt=>ag2 o (Yh o) rt ei;have k63:=SJ o.en;have k64:=Mu o.nw ei;have k65:=HM o.cl;have k66:=aa8 o.cu;simp only[Qp,Qd,Qg,Qj,zzae,zzah]at k67 k64 k65 k66;refine Qn alw (yB o) (by simp) ?_;by_cases h0:o.sq<0\/200<o.sq\/o.ch< -1\/40<=o.ch\/o.fr<0\/100000000<o.fr
 ·have hv:Xr o=false:=by
   unfold Xr;by_cases h1:o.sq<0\/200<o.sq\/o.ch< -1\/40<=o.ch
   ·rw[if_pos h1]
   rw[if_neg h1,if_pos (by omega)]
  rw[hv];have hb:(decide (o.sq<0)||decide (200<o.sq)||decide (o.ch< -1)||decide (40<=o.ch)||decide (o.fr<0)||decide (100000000<o.fr))=true:=by simp;omega
  rcases h0 with h|h|h|h|h|h<;>simp[Ef,Eg,Qp,Qd,Qg,Qj,h]
 have hv:Xr o=if o.ki<1\/5<o.ki then false else if o.ki=1/\(o.n< -100000000\/100000000<o.n)then false else okB o&&zO o (Yh o):=by
  unfold Xr;rw[if_neg (by omega),if_neg (by omega)];by_cases hk:o.ki<1\/5<o.ki
  ·rw[if_pos hk,if_pos hk]
  rw[if_neg hk,if_neg hk,ag1 o hk]
 rw[hv];have c1:¬o.sq<0:=by omega
 have c2:¬200<o.sq:=by omega
 have c3:¬o.ch< -1:=by omega
 have c4:¬40<=o.ch:=by omega
 have c5:¬o.fr<0:=by omega
 have c6:¬100000000<o.fr:=by omega
 by_cases k1:o.ki=1
 ·have hw:Yh o={o with nw:=lg,cl:=nP,cu:=nQ}:=by unfold Yh;rw[if_pos k1]
  have hr:(if o.ki<1\/5<o.ki then false else if o.ki=1/\(o.n< -100000000\/100000000<o.n)then false else okB o&&zO o (Yh o))=(eL o.en&&decide (-100000000<=o.n)&&decide (o.n<=100000000)&&zO o (Yh o)):=by
   rw[if_neg (by omega)];by_cases hn:o.n< -100000000\/100000000<o.n
   ·rw[if_pos ⟨k1,hn⟩];obtain hn|hn:=hn
    ·have:¬-100000000<=o.n:=by omega
     simp[this]
    have:¬o.n<=100000000:=by omega
    simp[this]
   have n1: -100000000<=o.n:=by omega
   have n2:o.n<=100000000:=by omega
   rw[if_neg (fun h=>hn h.2)];unfold okB;rw[if_pos k1];simp[n1,n2]
  rw[hr];have qs:=k67 .nil;rw[hw]at qs;simp only[lg,nP,nQ,eB,zzce]at qs;rw[k1]at qs;simp[Ef,Eg,Qp,Qd,Qg,Qj,c1,c2,c3,c4,c5,c6,k1,yB];refine⟨k63,?_⟩;rw[hw];simp only[lg,nP,nQ,eB];rw[k1];exact qs
 by_cases k2:o.ki=2
 ·have hw:Yh o={o with n:=0,nw:=lg,cl:=nP,cu:=nQ}:=by unfold Yh;rw[if_neg k1,if_pos k2]
  have hr:(if o.ki<1\/5<o.ki then false else if o.ki=1/\(o.n< -100000000\/100000000<o.n)then false else okB o&&zO o (Yh o))=(eL o.en&&zO o (Yh o)):=by
   rw[if_neg (by omega),if_neg (by omega)];unfold okB;rw[if_neg k1,if_pos k2]
  rw[hr];have qs:=k67 .nil;rw[hw]at qs;simp only[lg,nP,nQ,eB,zzce]at qs;rw[k2]at qs;simp[Ef,Eg,Qp,Qd,Qg,Qj,c1,c2,c3,c4,c5,c6,k2,yB];refine⟨k63,?_⟩;rw[hw];simp only[lg,nP,nQ,eB];rw[k2];exact qs
 by_cases k3:o.ki=3
 ·have hw:Yh o={o with en:=0,n:=0,cl:=nP,cu:=nQ}:=by unfold Yh;rw[if_neg k1,if_neg k2,if_pos k3]
  have hr:(if o.ki<1\/5<o.ki then false else if o.ki=1/\(o.n< -100000000\/100000000<o.n)then false else okB o&&zO o (Yh o))=(yX o.nw&&zO o (Yh o)):=by
   rw[if_neg (by omega),if_neg (by omega)];unfold okB;rw[if_neg k1,if_neg k2,if_pos k3]
  rw[hr];have qs:=k67 .ro;rw[hw]at qs;simp only[nP,nQ,eB]at qs;rw[k3]at qs;simp[Ef,Eg,Qp,Qd,Qg,Qj,c1,c2,c3,c4,c5,c6,k3,yB];refine⟨k64,?_⟩;rw[hw];simp only[nP,nQ,eB];rw[k3];exact qs
 by_cases k4:o.ki=4
 ·have hw:Yh o={o with en:=0,n:=0,nw:=lg,cu:=nQ}:=by unfold Yh;rw[if_neg k1,if_neg k2,if_neg k3,if_pos k4]
  have hr:(if o.ki<1\/5<o.ki then false else if o.ki=1/\(o.n< -100000000\/100000000<o.n)then false else okB o&&zO o (Yh o))=(Xi o.cl&&zO o (Yh o)):=by
   rw[if_neg (by omega),if_neg (by omega)];unfold okB;rw[if_neg k1,if_neg k2,if_neg k3,if_pos k4]
  rw[hr];have qs:=k67 .nil;rw[hw]at qs;simp only[lg,nQ,eB,zzce]at qs;rw[k4]at qs;simp[Ef,Eg,Qp,Qd,Qg,Qj,c1,c2,c3,c4,c5,c6,k4,yB];refine⟨k65,?_⟩;rw[hw];simp only[lg,nQ,eB];rw[k4];exact qs
 by_cases k5:o.ki=5
 ·have hw:Yh o={o with en:=0,n:=0,nw:=lg,cl:=nP}:=by unfold Yh;rw[if_neg k1,if_neg k2,if_neg k3,if_neg k4,if_pos k5]
  have hr:(if o.ki<1\/5<o.ki then false else if o.ki=1/\(o.n< -100000000\/100000000<o.n)then false else okB o&&zO o (Yh o))=(sO o.cu&&zO o (Yh o)):=by
   rw[if_neg (by omega),if_neg (by omega)];unfold okB;rw[if_neg k1,if_neg k2,if_neg k3,if_neg k4]
  rw[hr];have qs:=k67 .nil;rw[hw]at qs;simp only[lg,nP,zzce]at qs;rw[k5]at qs;simp[Ef,Eg,Qp,Qd,Qg,Qj,c1,c2,c3,c4,c5,c6,k5,yB];refine⟨k66,?_⟩;rw[hw];simp only[lg,nP];rw[k5];exact qs
 have hw:Yh o={o with en:=0,n:=0,nw:=lg,cl:=nP,cu:=nQ}:=by unfold Yh;rw[if_neg k1,if_neg k2,if_neg k3,if_neg k4,if_neg k5]
 have qs:=k67 .nil;rw[hw]at qs;simp only[lg,nP,nQ,eB,zzce]at qs;rw[if_pos (by omega)];simp[Ef,Eg,Qp,Qd,Qg,Qj,c1,c2,c3,c4,c5,c6,k1,k2,k3,k4,k5,yB];rw[hw];simp only[lg,nP,nQ,eB];exact qs
open Go Go.Abs
def ua(o:Od)(n f:Int):Od:={o with nw:={o.nw with al:=o.nw.al.take 9},cu:={o.cu with tx:=o.cu.tx.extract 0 (if 300<o.cu.tx.size then 300 else o.cu.tx.size)},sq:=n,fr:=f}
def mxI(a b:Int):Int:=if a<b then b else a
def DQ:List Od->List Od->Int->List Od
 |[],out,_=>out
 |o::r,out,last=>if 7<=out.length then out else
  if Xr (ua o (out.length+1) (mxI o.fr last))=true then DQ r (out++[ua o (out.length+1) (mxI o.fr last)]) (mxI o.fr last)else DQ r out last
def Mv(l:List Od):List Od:=DQ l [] 0
def ayP(o:List Od)(rt:Rt)(ls:List Nat):Prop:=(o=[]/\rt=.nil/\ls=[])\/(o≠[]/\rt=.own 0 26/\ls=[o.length])
def auW(l:List Od)(f:Nat->AV)(m:AM):Prop:=
 ∃(i:Nat)(out:List Od)(last:Int)(rt:Rt)(ls:List Nat)(bx:List (List AV)),f 5=I i/\i<=l.length/\f 3=.sl rt (out.map Qp)/\f 4=I last/\ayP out rt ls/\out.length<=7/\DQ (l.drop i) out last=Mv l/\m=⟨bx,ls,fun _=>.gone,0⟩
def dOd(l:List AV):Od:=⟨dI (dN l 0),dI (dN l 1),dI (dN l 2),dI (dN l 3),dI (dN l 4),dI (dN l 5),dEn (l.drop 6),dCl (l.drop 13),dCu (l.drop 21)⟩
def Pj:Nat->FuncId->List AV->AV:=fun d f l=>if f=34 then(match l with
 |[.agg cs]=>.bool (Xr (dOd cs))
 |_=>.junk)else .junk
def Pk(o:Od):dOd (Qp o)=o:=by
 show(⟨o.sq,o.ch,o.fr,o.ki,o.en,o.n,dEn (Qd o.nw),o.cl,o.cu⟩:Od)=o;rw[O1]
def zQ(l:List Od)(hl:l.length<=1000000000000):∃rt,Pure Tryz.prog aq 15 [.sl .ro (l.map Qp)] (.sl rt ((Mv l).map Qp)):=by
 refine⟨if Mv l=[]then .nil else .ro,Qn ali Pj (by simp) ?_⟩;simp[alh];refine Qi uN (auW l) (fun f _=>l.length-(numOf (f 5)).toNat) ?_ ?_
 ·exact⟨0,[],0,.nil,[],[],by simp,by omega,by simp,by simp,.inl ⟨rfl,rfl,rfl⟩,by simp,by simp[Mv],rfl⟩
 rintro f m ⟨i,out,last,rt,ls,bx,f5,hi,f3,f4,hO,Iv,hr,rfl⟩;rcases zzaa i l.length with ai|bw
 ·obtain⟨o,ho⟩:=aP ai;have aa:Qh (l.map Qp) i=Qp o:=Qr (by simp[ho]);have ah:(i:Int)<(l.length:Int):=by omega
  have hw:=bH i (by omega);have hd:l.drop i=o::l.drop (i+1):=by rw[zzaf ai,(zza.1 ho).2]
  rw[hd,DQ]at hr;by_cases h7:7<=out.length
  ·rw[if_pos h7]at hr;have h7':¬(out.length:Int)<7:=by omega
   rw[<- hr];obtain⟨rfl,rfl,rfl⟩|⟨h0,rfl,rfl⟩:=hO
   ·simp at h7
   simp[f5,f3,uN,ah,h7',abX,h0]
  rw[if_neg h7]at hr;have h7':(out.length:Int)<7:=by omega
  have azB:out.length<7:=by omega
  have YN:IntKind.i64.wrap ((out.length:Int)+1)=(out.length:Int)+1:=by rw[Qk]<;>omega
  have t1:List.take (if(9:Int)<(o.nw.al.length:Int)then(9:Int)else(o.nw.al.length:Int)).toNat (o.nw.al.map Qe)=List.take 9 (o.nw.al.map Qe):=by
   have:=Qdi (o.nw.al.map Qe) 9;rw[zzbg]at this;exact this
  have a1:=pW (a:=o.nw.al.length) 9;have b1:=pX (a:=o.nw.al.length) 9;have a2:=pW (a:=o.cu.tx.size) 300;have b2:=pX (a:=o.cu.tx.size) 300
  have e2:(if(300:Int)<(o.cu.tx.size:Int)then(300:Int)else(o.cu.tx.size:Int)).toNat=if 300<o.cu.tx.size then 300 else o.cu.tx.size:=by
   by_cases h:300<o.cu.tx.size
   ·rw[if_pos h,if_pos (by omega)];rfl
   rw[if_neg h,if_neg (by omega)];omega
  simp at a1 b1 a2 b2;have dy:∀(row:List AV)(x x_1:Int),(x,x_1)∈o.nw.al->Qe (x,x_1)=row->row.length=2:=by rintro row a b _ rfl;rfl
  have y5:=Ph (ua o (out.length+1) (mxI o.fr last)) (by simp[ua];omega);have hdo:=Pk (ua o (out.length+1) (mxI o.fr last))
  have F7:Qp (ua o (out.length+1) (mxI o.fr last))=[I ((out.length:Int)+1),I o.ch,I (if o.fr<last then last else o.fr),I o.ki,I o.en,I o.n,I o.nw.id,I o.nw.it,I o.nw.fr,I o.nw.ea,I o.nw.la,I o.nw.bo,.sl .ro (List.take 9 (o.nw.al.map Qe)),
   I o.cl.ki,I o.cl.it,I o.cl.fr,I o.cl.to,I o.cl.re,I o.cl.n,I o.cl.a,I o.cl.b,I o.cu.id,I o.cu.fr,I o.cu.to,I o.cu.pr,.str (o.cu.tx.extract 0 (if 300<o.cu.tx.size then 300 else o.cu.tx.size))]:=by
   simp[Qp,Qd,Qg,Qj,ua,mxI,zzhk]
  have Tj:mxI o.fr last=if o.fr<last then last else o.fr:=rfl;rw[F7]at y5 hdo;generalize hC:ua o (out.length+1) (mxI o.fr last)=C at*
  simp only[Qp,Qd,Qg,Qj,zzae,zzah]at aa;cases hv:Xr C with
  |false=>
   rw[hv]at y5;rw[if_neg (by rw[hv];decide)]at hr;simp[f5,f3,f4,uN,ah,hw,h7',aa,YN,t1,a1,b1,a2,b2,e2,Pj,hdo,hv];refine⟨dy,y5,aN,⟨i+1,out,last,rt,ls,_,by simp,by omega,by simp,by simp,hO,Iv,hr,rfl⟩,by omega⟩
  |true=>
   rw[hv]at y5;rw[if_pos hv,Tj]at hr;obtain⟨rfl,rfl,rfl⟩|⟨h0,rfl,rfl⟩:=hO
   ·have w1:IntKind.i64.wrap 1=1:=by decide
    simp at hdo y5 F7;simp[f5,f3,f4,uN,ah,hw,aa,w1,t1,a1,b1,a2,b2,e2,Pj,hdo,hv];refine⟨dy,y5,aN,⟨i+1,[]++[C],_,.own 0 26,[1],_,by simp,by omega,by simp[F7],by simp,.inr ⟨by simp,rfl,by simp⟩,by simp,hr,rfl⟩,by omega⟩
   simp[f5,f3,f4,uN,ah,hw,h7',aa,YN,t1,a1,b1,a2,b2,e2,Pj,hdo,hv];refine⟨dy,y5,⟨?_,by omega⟩,aN,⟨i+1,out++[C],_,.own 0 26,[out.length+1],_,by simp,by omega,by simp[F7],by simp,.inr ⟨by simp,rfl,by simp⟩,by simp;omega,hr,rfl⟩,by omega⟩
   ·rintro row (⟨a,_,rfl⟩|rfl)<;>rfl
 obtain rfl:i=l.length:=by omega
 rw[zzbo,DQ]at hr;rw[<- hr];obtain⟨rfl,rfl,rfl⟩|⟨h0,rfl,rfl⟩:=hO
 ·simp[f5,f3,uN,abX]
 simp[f5,f3,uN,abX,h0]
open Go Go.Abs
def qc:Md->List Od->Option Md
 |M,[]=>some M
 |M,o::r=>match j4 M o with
  |none=>none
  |some M'=>qc M' r
def Mw(ps:List Pl)(os:List Od):Option Md:=match Bs ps with
 |none=>none
 |some M=>qc M os
structure Mx (ps:List Pl):Prop where
 len:ps.length<=1000000
 sh:∀p∈ps,SE p
 al:∀p∈ps,∀e∈p.ens,e.al.length<=8796093022208
 ea:∀p∈ps,∀e∈p.ens,e.ea<=9223372036854775807
def Mx.be{ps:List Pl}(h:Mx ps):∀p∈ps,agI p:=fun p hp=>aut (h.sh p hp) (h.al p hp) (h.ea p hp)
def DR(ls:List Nat)(ps:List (List Pg)):dP ls (Bu ps.length) ps:=
 ⟨fun i rt l h _=>.inl ((List.mem_replicate.1 (zzac h)).2),fun i j k h _=>by
  have:=(List.mem_replicate.1 (zzac h)).2;cases this⟩
def aZ.pref{S:Nat->Prop}{mb X B':List (List AV)}(h:aZ S (mb++X) B')(hS:∀j,S j->mb.length<=j):∃ex,B'=mb++ex:=by
 refine⟨B'.drop mb.length,?_⟩;apply zzcj;intro j;have hl:=h.1;simp only[zzai]at hl;rcases zzaa j mb.length with hj|hj
 ·rw[zzag hj];have:=h.2 j (by simp;omega) (fun hs=>by have:=hS j hs;omega);rw[Yz (by omega),this,Yz hj,Ql hj]
 rw[zzal hj,zzbk];congr 1;omega
def dP.own{ls:List Nat}{bh:List Rt}{ps:List (List Pg)}(h:dP ls bh ps)(hl:bh.length=ps.length):∀rt∈bh,rt=.full\/∃k,rt=.own k 18:=fun rt aT=>by
 obtain⟨i,hi⟩:=zzca.1 aT;have ai:=(zza.1 hi).1;rcases h.1 i rt _ hi (zzad (by omega))with e|⟨k,e,_⟩
 ·exact .inl e
 exact .inr ⟨k,e⟩
def auX(mb:List (List AV))(ms:Nat->LS)(mn:Nat)(os:List Od)(M:Md)(md pid aQ:Nat)(z:List AV)(f:Nat->AV)(m:AM):Prop:=
 ∃(i:Nat)(M':Md)(ex:List (List AV))(ls:List Nat)(bh:List Rt)(bO:Rt),f 7=I i/\i<=os.length/\qc M' (os.drop i)=qc M os/\Tx M'/\M'.os.length=i/\ic (mb++ex) md M' pid aQ bh bO z/\dP ls bh M'.ps/\ek ls bh bO M'.os.length/\m=⟨mb++ex,ls,ms,mn⟩
def SK(Y:YT)(m:AM)(ps:List Pl)(os:List Od)(hp:Mx ps)(ho:∀o∈os,j8 o)(Iv:os.length<=100)(K:AV->AM->Prop)
  (h0:Mw ps os=none->∀ex ls,K (.nilv true) ⟨m.boxes++ex,ls,m.st,m.ln⟩)
  (h1:∀M,Mw ps os=some M->∀ex ls md pid aQ bh bO z,m.boxes.length<=md->Tx M->M.os.length=os.length->ic (m.boxes++ex) md M pid aQ bh bO z->dP ls bh M.ps->ek ls bh bO M.os.length->K (.ptr md 0) ⟨m.boxes++ex,ls,m.st,m.ln⟩):
  an Tryz.prog aq Y 26 [.sl .ro (ps.map Qc),.sl .ro (os.map Qp)] m K:=by
 obtain⟨mb,ml,ms,mn⟩:=m;refine Xe alm (fun _ _ _=>.gd false .junk) (by simp) ?_;simp[apJ];refine p7 Y _ ps hp.len hp.be _ (fun hn ex=>?_) (fun M hM ex md pid aQ z sE hB=>?_)
 ·have h0:=h0 (by unfold Mw;rw[hn]) ex ml;simp[abZ];exact h0
 have iy:Mw ps os=qc M os:=by unfold Mw;rw[hM]
 rw[iy]at h0 h1;obtain⟨hV,Su⟩:=DJ hp.sh hM;simp;refine Qi TF (auX mb ms mn os M md pid aQ z) (fun f _=>os.length-(numOf (f 7)).toNat) ?_ ?_
 ·exact⟨0,M,ex,ml,_,.nil,by simp,by omega,by simp,hV,by simp[Su],hB,DR _ _,.inl ⟨rfl,by simp[Su]⟩,by simp⟩
 rintro f m ⟨i,M',ex,ls,bh,bO,f7,hi,hr,hV,hoi,hB,aT,dF,rfl⟩;rcases zzaa i os.length with ai|bw
 ·obtain⟨o,hoo⟩:=aP ai;have aa:Qh (os.map Qp) i=Qp o:=Qr (by simp[hoo]);have ah:(i:Int)<(os.length:Int):=by omega
  have hw:=bH i (by omega);have hd:os.drop i=o::os.drop (i+1):=by rw[zzaf ai,(zza.1 hoo).2]
  have auY:=ho o (zzac hoo);rw[hd,qc]at hr;have ei:o.nw.al.length<=8796093022208:=by have:=auY;unfold j8 at this;omega
  have abc:=fun K h0 h1=>lD Y ⟨mb++ex,ls,ms,mn⟩ md M' pid aQ bh bO z o hB aT dF hV.n (fun l hl g hg _=>HG (hV.pr l hl _ g hg).cT (by have:=hV.los;omega) auY) ei (by have:=hV.los;omega) K h0 h1;simp only[Qp,Qd,Qg,Qj,zzae,zzah]at aa abc;simp[f7,TF,ah,aa];refine abc _ (fun hn eD=>?_) (fun M2 hM2 B' dg rts' cR oZ eU ayQ an4=>?_)
  ·rw[hn]at hr;have h0:=h0 hr.symm (ex++eD) ls;simp[abZ];exact h0
  rw[hM2]at hr;obtain⟨hV2,ayR,_⟩:=Pb hV hM2;obtain⟨eD,rfl⟩:=aZ.pref eU (fun j hj=>hj.elim (fun e=>e ▸ sE.1) (fun e=>e ▸ sE.2));simp[hw];refine⟨aN,⟨i+1,M2,eD,dg,rts',cR,by simp,by omega,hr,hV2,by rw[ayR];simp[hoi],oZ,ayQ,an4,rfl⟩,by omega⟩
 obtain rfl:i=os.length:=by omega
 rw[zzbo,qc]at hr;have h1:=h1 M' hr.symm ex ls md pid aQ bh bO z sE.1 hV hoi hB aT dF;simp[f7,TF,abZ];exact h1
open Go Go.Abs
def an.wka{P:Program}{gl:Nat->AV}{Y:YT}{f:FuncId}{xs xs':List AV}{m:AM}{K:AV->AM->Prop}(hk:WkL xs xs')(h:an P gl Y f xs' m K):an P gl Y f xs m K:=
 ⟨h.1,fun N w0 au γ w vs hm hl hg hy hr=>h.2 N w0 au γ w vs hm hl hg hy (hk.rep hr)⟩
def abd(e:En×Rt):List AV:=[I e.1.id,I e.1.it,I e.1.fr,I e.1.ea,I e.1.la,I e.1.bo,.sl e.2 (e.1.al.map Qe)]
def aoz(l:List (En×Rt))(rt:Rt):Wk (.sl rt (l.map abd)) (.sl .ro ((l.map (·.1)).map Qd)):=by
 refine Wk.trans (Wk.sl _ _) ?_;rw[zzct];refine Wk.rows l abd (Qd ∘ (·.1)) (fun _=>rfl) fun a j c' h=>?_
 match j,h with
 |0,h=>exact⟨_,rfl,by cases h;exact Wk.refl _⟩
 |1,h=>exact⟨_,rfl,by cases h;exact Wk.refl _⟩
 |2,h=>exact⟨_,rfl,by cases h;exact Wk.refl _⟩
 |3,h=>exact⟨_,rfl,by cases h;exact Wk.refl _⟩
 |4,h=>exact⟨_,rfl,by cases h;exact Wk.refl _⟩
 |5,h=>exact⟨_,rfl,by cases h;exact Wk.refl _⟩
 |6,h=>exact⟨_,rfl,by cases h;exact Wk.sl _ _⟩
 |j+7,h=>simp[Qd]at h
def akY:List AV:=[I 0,I 25,I 1,I 0,.sl .nil [],I 0,I 1,I 200,I 1,.sl .full [[I 1,I 5,I 300,I 0,I 0],[I 2,I 2,I 20,I 0,I 0],[I 3,I 4,I 100,I 0,I 0]],
 .sl .full [[I 1,I 2,I 20,I 0,I 0,I 0,.sl .nil []],[I 2,I 3,I 40,I 20,I 50,I 0,.sl .nil []]],.sl .nil [],
 .sl .full [[I 1,I 2,I 0,I 1000,I 255,I 0,I 0,I 0],[I 1,I 3,I 0,I 1000,I 255,I 0,I 0,I 0]]]
def My:Pure Tryz.prog aq 33 [] (.agg akY):=by
 refine Qn alv (fun _ _ _=>.junk) (by simp) ?_;simp[apM,apN,akY]
def By:Pure Tryz.prog aq 33 [] (.agg (Qc (dJ 0))):=
 Qz My (Qdh ⟨Wk.refl _,Wk.refl _,Wk.refl _,Wk.refl _,Wk.sl _ _,Wk.refl _,Wk.refl _,Wk.refl _,Wk.refl _,Wk.sl _ _,aoz [(⟨1,2,20,0,0,0,[]⟩,.nil),(⟨2,3,40,20,50,0,[]⟩,.nil)] .full,Wk.sl _ _,Wk.sl _ _,trivial⟩)
def Mz:Mx [dJ 0]:=by
 refine⟨by simp,fun p hp=>?_,fun p hp e he=>?_,fun p hp e he=>?_⟩
 ·simp only[zzbr]at hp;subst hp;exact⟨by simp[dJ],by simp[dJ],by simp[dJ],by simp[dJ],by simp[dJ],by simp[dJ]⟩
 ·simp only[zzbr]at hp;subst hp;simp[dJ]at he;rcases he with rfl|rfl<;>simp
 simp only[zzbr]at hp;subst hp;simp[dJ]at he;rcases he with rfl|rfl<;>simp
def abe(n:Int):Wk (.agg [I n,I 0,I 30,I 2,I 2,I 0,I 0,I 0,I 0,I 0,I 0,I 0,.sl .nil [],I 0,I 0,I 0,I 0,I 0,I 0,I 0,I 0,I 0,I 0,I 0,I 0,.str ⟨#[]⟩]) (.agg (Qp (iH n))):=
 Qdh ⟨Wk.refl _,Wk.refl _,Wk.refl _,Wk.refl _,Wk.refl _,Wk.refl _,Wk.refl _,Wk.refl _,Wk.refl _,Wk.refl _,Wk.refl _,Wk.refl _,Wk.sl _ _,Wk.refl _,Wk.refl _,Wk.refl _,Wk.refl _,Wk.refl _,Wk.refl _,Wk.refl _,Wk.refl _,Wk.refl _,Wk.refl _,Wk.refl _,Wk.refl _,Wk.refl _,trivial⟩
def Tx.mok{M:Md}(h:Tx M):MoK M:=
 ⟨fun o ho=>by have:=h.fr o ho;omega,h.n,by have:=h.los;omega,fun l hl g hg=>by
  obtain⟨i,hi⟩:=zzca.1 hg;have hp:=h.pr l hl i g hi;exact⟨by have:=hp.small.1;omega,fun e he=>⟨hp.small.2 e he,(hp.ep e he).2.2.1⟩⟩⟩
def Tx.pgc{M:Md}(h:Tx M):∀l∈M.ps,∀g∈l,PgC g:=fun l hl g hg=>by
 obtain⟨i,hi⟩:=zzca.1 hg;have hp:=h.pr l hl i g hi;have hn:=h.n l hl;have:=(zza.1 hi).1;exact hp.pgc (by have:=h.los;omega)
def abf:Bs []=none:=by unfold Bs;rw[if_pos (by simp)]
def ag3:ig c9 0 1=some HI:=by cbv
def auZ:SI c9 0 0 38 (0,0,5)=true:=by unfold SI;rw[aaZ];simp
def au0:SI c9 0 0 38 (3,12,0)=false:=by unfold SI;rw[aaZ];simp
def Pm(n:Int):j8 (iH n):=by unfold j8 iH lg;simp
def akZ:SC:=(⟨_,by cbv⟩:tJ [1,1,1,1,1,1,1,1,1,1,1] qt).1
def ak0:SC:=(⟨_,fun _=>by cbv⟩:Kt [1] (Kj [1,1,1,1,1,1,1,1,1,1] qt)).1 akZ
def ak1:SC:=(⟨_,fun _=>by cbv⟩:Kt [1] (Kj [1,1,1,1,1,1,1,1,1] qt)).1 ak0
def ak2:SC:=(⟨_,fun _=>by cbv⟩:Kt [1] (Kj [1,1,1,1,1,1,1,1] qt)).1 ak1
def ak3:SC:=(⟨_,fun _=>by cbv⟩:Kt [1] (Kj [1,1,1,1,1,1,1] qt)).1 ak2
def ak4:SC:=(⟨_,fun _=>by cbv⟩:Kt [1] (Kj [1,1,1,1,1,1] qt)).1 ak3
def ak5:SC:=(⟨_,fun _=>by cbv⟩:Kt [1] (Kj [1,1,1,1,1] qt)).1 ak4
def ak6:SC:=(⟨_,fun _=>by cbv⟩:Kt [1] (Kj [1,1,1,1] qt)).1 ak5
def ak7:SC:=(⟨_,fun _=>by cbv⟩:Kt [1] (Kj [1,1,1] qt)).1 ak6
def ak8:SC:=(⟨_,fun _=>by cbv⟩:Kt [1] (Kj [1,1] qt)).1 ak7
def au1:SC:=(⟨_,fun _=>by cbv⟩:Kt [1,1] qt).1 ak8
theorem ag4:qt=au1:=rfl
def abg:Pure Tryz.prog aq 11 [] (.bool true):=by
 have k33:=By;refine Qn ald (fun _ f _=>if f=33 then .agg (Qc (dJ 0))else .gd false .junk) (by simp) ?_;rw[ag4];simp[Qc,dJ,Qm,Qd,Qg]at k33;simp[au1,Qc,dJ,Qm,Qd,Qg];refine⟨k33,?_⟩;refine an.wka (xs':=[.sl .ro ([dJ 0].map Qc)]) ⟨Wk.sl _ _,trivial⟩ ?_;refine p7 Y0 _ [dJ 0] Mz.len Mz.be _ (fun hn=>?_) (fun M hM ex md pid aQ z sE hB=>?_)
 ·rw[DL]at hn;cases hn
 rw[DL]at hM;cases hM;simp only[zzah]at hB |-
 simp[ak8];refine an.wka (xs':=[.sl .ro (([]:List Pl).map Qc)]) ⟨Wk.sl _ _,trivial⟩ ?_;refine p7 Y0 _ [] (by simp) (fun p hp=>by cases hp) _ (fun _ eD=>?_) (fun M hM=>by rw[abf]at hM;cases hM);have hB:=hB.ext eD;simp only at hB |-
 generalize ex++eD=B at*
 simp[ak7];simp[ak6];refine an.wka (xs':=[.ptr md 0,.agg (Qp (iH 1))]) ⟨Wk.refl _,abe 1,trivial⟩ ?_;have hV0:=DJ Mz.sh DL;refine lD Y0 _ md _ pid aQ _ .nil z (iH 1) hB (DR _ _) (.inl ⟨rfl,rfl⟩) hV0.1.n (fun l hl g hg _=>HG (hV0.1.pr l hl _ g hg).cT (by simp) (Pm 1)) (by simp[iH,lg]) (by simp) _ (fun hn=>?_) (fun M' hM' B' dg rts' cR tI eU F0 Mk=>?_)
 ·rw[DM]at hn;cases hn
 rw[DM]at hM';cases hM';have hV1:=(Pb hV0.1 DM).1;have J7:=hV1.mok;have hpg:=hV1.pgc;have sC:=F0.own tI.hrts;simp[ak5];refine an.wka (xs':=[.ptr md 0,.agg (Qp (iH 3))]) ⟨Wk.refl _,abe 3,trivial⟩ ?_;refine lD Y0 _ md c9 pid aQ rts' cR z (iH 3) tI F0 Mk hV1.n (fun l hl g hg _=>HG (hV1.pr l hl _ g hg).cT (by simp[c9]) (Pm 3)) (by simp[iH,lg]) (by simp[c9]) _ (fun hn xH=>?_) (fun M' hM'=>by rw[aaX]at hM';cases hM');have oZ:=tI.ext xH;simp only at oZ |-
 generalize B'++xH=B2 at*
 clear hB tI;have hfo:∀o∈c9.os,0<=o.2/\o.2<=1000000000000:=J7.os;simp[ak4];refine rM Y0 _ md c9 pid aQ rts' cR z 37 oZ hfo _ ?_;rw[ayE,ayG];simp[ak3];refine rM Y0 _ md c9 pid aQ rts' cR z 38 oZ hfo _ ?_;rw[auC,auD];simp[ak2];refine qb Y0 _ md c9 pid aQ rts' cR z 0 0 32 oZ J7 sC (by omega) _ fun IF lx4 ms4 mn4=>?_;have YM:=oZ.ext IF;simp only at YM |-
 generalize B2++IF=B3 at*
 rw[auE];simp[ak1];refine qb Y0 _ md c9 pid aQ rts' cR z 0 0 38 YM J7 sC (by omega) _ fun ex5 lx5 ms5 mn5=>?_;have Z2:=YM.ext ex5;simp only at Z2 |-
 generalize B3++ex5=B4 at*
 rw[aaZ];simp[ak0,Vs];refine qb Y0 _ md c9 pid aQ rts' cR z 0 1 32 Z2 J7 sC (by omega) _ fun ex6 lx6 ms6 mn6=>?_;have hB5:=Z2.ext ex6;simp only at hB5 |-
 generalize B4++ex6=B5 at*
 rw[ayI];simp[akZ];refine HP Y0 _ md c9 pid aQ rts' cR z 0 1 hB5 sC hpg (fun l hl=>by have:=hV1.n l hl;simp[c9]at this |-;omega) _ fun ex7=>?_;have hB6:=hB5.ext ex7;simp only at hB6 |-
 generalize B5++ex7=B6 at*
 rw[ag3];simp[mQ,Qo,Qc,HI,yy,dJ];refine Pe Y0 _ md c9 pid aQ rts' cR z 0 0 38 (0,0,5) (hB6.ext _) J7 sC (by omega) _ fun ex8 lx8 ms8 mn8=>?_;rw[auZ];simp;refine Pe Y0 _ md c9 pid aQ rts' cR z 0 0 38 (3,12,0) (by simpa using hB6.ext _) J7 sC (by omega) _ fun ex9 lx9 ms9 mn9=>?_;rw[au0];simp[apI]
open Go Go.Abs
def aoA(ps:List Pl):Prop:=∀p∈ps,(∀e∈p.ens,e.al.length<=8796093022208)/\∀e∈p.ens,e.ea<=9223372036854775807
def DS(ps:List Pl):List Pl:=(ps.take 3).map OQ
def Pn{ps:List Pl}(h:aoA ps):Mx (DS ps):=by
 have key:∀p∈DS ps,∃q∈ps,p=OQ q:=fun p hp=>by
  obtain⟨q,hq,rfl⟩:=zzaw.1 hp;exact⟨q,zzbv hq,rfl⟩
 refine⟨by simp[DS];omega,fun p hp=>?_,fun p hp e he=>?_,fun p hp e he=>?_⟩
 ·obtain⟨q,hq,rfl⟩:=key p hp;exact aon q
 ·obtain⟨q,hq,rfl⟩:=key p hp;exact(h q hq).1 e (zzbv he)
 obtain⟨q,hq,rfl⟩:=key p hp;exact(h q hq).2 e (zzbv he)
def Po(ps:List Pl):(ps.take 3).map y4=(DS ps).map Qc:=by unfold DS;rw[zzct];rfl
def DT:∀(l out:List Od)(last:Int),(∀o∈out,j8 o)->out.length<=7->(∀o∈DQ l out last,j8 o)/\(DQ l out last).length<=7
 |[],out,_,h,h7=>⟨h,h7⟩
 |o::r,out,last,h,h7=>by
  rw[DQ];split
  ·exact⟨h,h7⟩
  split
  ·refine DT r _ _ (fun x hx=>?_) (by simp;omega);rcases zzap.1 hx with hx|hx
   ·exact h x hx
   rw[zzbr]at hx;subst hx;unfold j8 ua;simp;omega
  exact DT r _ _ h h7
def ag5(l:List Od):(∀o∈Mv l,j8 o)/\(Mv l).length<=7:=DT l [] 0 (fun o h=>by cases h) (by simp)
open Go Go.Abs
open Go Go.Abs
def yC(n:Nat)(f:Nat->AV)(m:AM):Prop:=∃i:Nat,f 13=I i/\i<=n/\m=⟨[],[],fun _=>.gone,0⟩
def ayS(l:List Int)(hl:l.length<=8796093022208):Pure Tryz.prog aq 72 [.sl .ro (l.map Qy),.sl .ro (l.map Qy)] (.bool true):=by
 refine Qn al3 (fun _ _ _=>.junk) (by simp) ?_;simp[ap3];refine Qi TT (yC l.length) (fun f _=>l.length-(numOf (f 13)).toNat) ?_ ?_
 ·exact⟨0,by simp,by omega,rfl⟩
 rintro f m ⟨i,eW,hi,rfl⟩;rcases zzaa i l.length with ai|bw
 ·obtain⟨a,ha⟩:=aP ai;have aa:Qh (l.map Qy) i=Qy a:=Qr (by simp[ha]);have ah:(i:Int)<(l.length:Int):=by omega
  have hw:=bH i (by omega);simp[eW,TT,ai,ah,aa,Qy,hw];refine⟨aN,⟨i+1,by simp,by omega,rfl⟩,by omega⟩
 obtain rfl:i=l.length:=by omega
 simp[eW,TT,ap4]
def ayT(l:List Cue)(hl:l.length<=8796093022208):Pure Tryz.prog aq 73 [.sl .ro (l.map Qj),.sl .ro (l.map Qj)] (.bool true):=by
 refine Qn al4 (fun _ _ _=>.junk) (by simp) ?_;simp[ap5];refine Qi TU (yC l.length) (fun f _=>l.length-(numOf (f 13)).toNat) ?_ ?_
 ·exact⟨0,by simp,by omega,rfl⟩
 rintro f m ⟨i,eW,hi,rfl⟩;rcases zzaa i l.length with ai|bw
 ·obtain⟨a,ha⟩:=aP ai;have aa:Qh (l.map Qj) i=Qj a:=Qr (by simp[ha]);have ah:(i:Int)<(l.length:Int):=by omega
  have hw:=bH i (by omega);simp[eW,TU,ai,ah,aa,Qj,hw];refine⟨aN,⟨i+1,by simp,by omega,rfl⟩,by omega⟩
 obtain rfl:i=l.length:=by omega
 simp[eW,TU,ap6]
def au2(l:List Sp)(hl:l.length<=8796093022208):Pure Tryz.prog aq 145 [.sl .ro (l.map Qe),.sl .ro (l.map Qe)] (.bool true):=by
 refine Qn acY (fun _ _ _=>.junk) (by simp) ?_;simp[ah5];refine Qi JA (yC l.length) (fun f _=>l.length-(numOf (f 13)).toNat) ?_ ?_
 ·exact⟨0,by simp,by omega,rfl⟩
 rintro f m ⟨i,eW,hi,rfl⟩;rcases zzaa i l.length with ai|bw
 ·obtain⟨a,ha⟩:=aP ai;have aa:Qh (l.map Qe) i=Qe a:=Qr (by simp[ha]);have ah:(i:Int)<(l.length:Int):=by omega
  have hw:=bH i (by omega);simp[eW,JA,ai,ah,aa,Qe,hw];refine⟨aN,⟨i+1,by simp,by omega,rfl⟩,by omega⟩
 obtain rfl:i=l.length:=by omega
 simp[eW,JA,ah6]
def au3(l:List It)(hl:l.length<=8796093022208):Pure Tryz.prog aq 146 [.sl .ro (l.map Qm),.sl .ro (l.map Qm)] (.bool true):=by
 refine Qn acZ (fun _ _ _=>.junk) (by simp) ?_;simp[ah7];refine Qi JB (yC l.length) (fun f _=>l.length-(numOf (f 13)).toNat) ?_ ?_
 ·exact⟨0,by simp,by omega,rfl⟩
 rintro f m ⟨i,eW,hi,rfl⟩;rcases zzaa i l.length with ai|bw
 ·obtain⟨a,ha⟩:=aP ai;have aa:Qh (l.map Qm) i=Qm a:=Qr (by simp[ha]);have ah:(i:Int)<(l.length:Int):=by omega
  have hw:=bH i (by omega);simp[eW,JB,ai,ah,aa,Qm,hw];refine⟨aN,⟨i+1,by simp,by omega,rfl⟩,by omega⟩
 obtain rfl:i=l.length:=by omega
 simp[eW,JB,ah8]
def au4(l:List Bk)(hl:l.length<=8796093022208):Pure Tryz.prog aq 149 [.sl .ro (l.map Xa),.sl .ro (l.map Xa)] (.bool true):=by
 refine Qn ac2 (fun _ _ _=>.junk) (by simp) ?_;simp[aic];refine Qi JD (yC l.length) (fun f _=>l.length-(numOf (f 13)).toNat) ?_ ?_
 ·exact⟨0,by simp,by omega,rfl⟩
 rintro f m ⟨i,eW,hi,rfl⟩;rcases zzaa i l.length with ai|bw
 ·obtain⟨a,ha⟩:=aP ai;have aa:Qh (l.map Xa) i=Xa a:=Qr (by simp[ha]);have ah:(i:Int)<(l.length:Int):=by omega
  have hw:=bH i (by omega);simp[eW,JD,ai,ah,aa,Xa,hw];refine⟨aN,⟨i+1,by simp,by omega,rfl⟩,by omega⟩
 obtain rfl:i=l.length:=by omega
 simp[eW,JD,aid]
def au5(l:List Cl)(hl:l.length<=8796093022208):Pure Tryz.prog aq 150 [.sl .ro (l.map Qg),.sl .ro (l.map Qg)] (.bool true):=by
 refine Qn ac3 (fun _ _ _=>.junk) (by simp) ?_;simp[aie];refine Qi JE (yC l.length) (fun f _=>l.length-(numOf (f 13)).toNat) ?_ ?_
 ·exact⟨0,by simp,by omega,rfl⟩
 rintro f m ⟨i,eW,hi,rfl⟩;rcases zzaa i l.length with ai|bw
 ·obtain⟨a,ha⟩:=aP ai;have aa:Qh (l.map Qg) i=Qg a:=Qr (by simp[ha]);have ah:(i:Int)<(l.length:Int):=by omega
  have hw:=bH i (by omega);simp[eW,JE,ai,ah,aa,Qg,hw];refine⟨aN,⟨i+1,by simp,by omega,rfl⟩,by omega⟩
 obtain rfl:i=l.length:=by omega
 simp[eW,JE,aif]
def ak9(l:List Sp)(hl:l.length<=8796093022208):Pure Tryz.prog aq 223 [.sl .ro (l.map Qe),.sl .ro (l.map Qe)] (.bool true):=by
 refine Qn adW (fun _ _ _=>.junk) (by simp) ?_;simp[aiT];refine Qi JP (yC l.length) (fun f _=>l.length-(numOf (f 13)).toNat) ?_ ?_
 ·exact⟨0,by simp,by omega,rfl⟩
 rintro f m ⟨i,eW,hi,rfl⟩;rcases zzaa i l.length with ai|bw
 ·obtain⟨a,ha⟩:=aP ai;have aa:Qh (l.map Qe) i=Qe a:=Qr (by simp[ha]);have ah:(i:Int)<(l.length:Int):=by omega
  have hw:=bH i (by omega);simp[eW,JP,ai,ah,aa,Qe,hw];refine⟨aN,⟨i+1,by simp,by omega,rfl⟩,by omega⟩
 obtain rfl:i=l.length:=by omega
 simp[eW,JP,aiU]
def ag6(e:bD)(hl:e.al.length<=8796093022208):Pure Tryz.prog aq 144 [.agg (Qf e),.agg (Qf e)] (.bool true):=by
 have k:=ak9 e.al hl;refine Qn acX (fun _ _ _=>.bool true) (by simp) ?_;simp[ah3,ah4,Qf];exact k
def ag7(e:En)(hl:e.al.length<=8796093022208):Pure Tryz.prog aq 148 [.agg (Qd e),.agg (Qd e)] (.bool true):=by
 have k:=ak9 e.al hl;refine Qn ac1 (fun _ _ _=>.bool true) (by simp) ?_;simp[aia,aib,Qd];exact k
def ala(n:Nat)(f:Nat->AV)(m:AM):Prop:=∃(i:Nat)(bx:List (List AV)),f 17=I i/\i<=n/\m=⟨bx,[],fun _=>.gone,0⟩
def aoB(l:List bD)(hl:l.length<=8796093022208)(ha:∀e∈l,e.al.length<=8796093022208):Pure Tryz.prog aq 143 [.sl .ro (l.map Qf),.sl .ro (l.map Qf),.fn 144 [] []] (.bool true):=by
 refine Qn acW (fun _ _ _=>.bool true) (by simp) ?_;simp[UJ];refine Qi Jx (ala l.length) (fun f _=>l.length-(numOf (f 17)).toNat) ?_ ?_
 ·exact⟨0,_,by simp,by omega,rfl⟩
 rintro f m ⟨i,bx,h17,hi,rfl⟩;rcases zzaa i l.length with ai|bw
 ·obtain⟨a,he⟩:=aP ai;have k:=ag6 a (ha a (zzac he));have aa:Qh (l.map Qf) i=Qf a:=Qr (by simp[he]);have ah:(i:Int)<(l.length:Int):=by omega
  have hw:=bH i (by omega);simp only[Qf]at k aa;simp[h17,Jx,ai,ah,aa,Qf,hw];refine⟨k,aN,⟨i+1,_,by simp,by omega,rfl⟩,by omega⟩
 obtain rfl:i=l.length:=by omega
 simp[h17,Jx,ah2]
def aoC(l:List En)(hl:l.length<=8796093022208)(ha:∀e∈l,e.al.length<=8796093022208):Pure Tryz.prog aq 147 [.sl .ro (l.map Qd),.sl .ro (l.map Qd),.fn 148 [] []] (.bool true):=by
 refine Qn ac0 (fun _ _ _=>.bool true) (by simp) ?_;simp[UK];refine Qi JC (ala l.length) (fun f _=>l.length-(numOf (f 17)).toNat) ?_ ?_
 ·exact⟨0,_,by simp,by omega,rfl⟩
 rintro f m ⟨i,bx,h17,hi,rfl⟩;rcases zzaa i l.length with ai|bw
 ·obtain⟨a,he⟩:=aP ai;have k:=ag7 a (ha a (zzac he));have aa:Qh (l.map Qd) i=Qd a:=Qr (by simp[he]);have ah:(i:Int)<(l.length:Int):=by omega
  have hw:=bH i (by omega);simp only[Qd]at k aa;simp[h17,JC,ai,ah,aa,Qd,hw];refine⟨k,aN,⟨i+1,_,by simp,by omega,rfl⟩,by omega⟩
 obtain rfl:i=l.length:=by omega
 simp[h17,JC,ah9]
structure aoD (g:Pg):Prop where
 sh:g.p.sh.length<=8796093022208
 aL:g.p.aL.length<=8796093022208
 ens:g.p.ens.length<=8796093022208
 al:∀e∈g.p.ens,e.al.length<=8796093022208
 bks:g.p.bks.length<=8796093022208
 cls:g.p.cls.length<=8796093022208
 ev:g.ev.length<=8796093022208
 eal:∀e∈g.ev,e.al.length<=8796093022208
 cu:g.cu.length<=8796093022208
 dr:g.dr.length<=8796093022208
def aoE(l:List bD)(hl:l.length<=8796093022208)(ha:∀e∈l,e.al.length<=8796093022208):Pure Tryz.prog aq 74 [.sl .ro (l.map Qf),.sl .ro (l.map Qf)] (.bool true):=by
 have k:=aoB l hl ha;refine Qn al5 (fun _ _ _=>.bool true) (by simp) ?_;simp[ap7,ap8];exact k
def aoF(g:Pg)(h:aoD g):Pure Tryz.prog aq 75 [.agg (Qc g.p),.agg (Qc g.p)] (.bool true):=by
 have k1:=au2 g.p.sh h.sh;have k2:=au3 g.p.aL h.aL;have k3:=aoC g.p.ens h.ens h.al;have k4:=au4 g.p.bks h.bks;have k5:=au5 g.p.cls h.cls;refine Qn al6 (fun _ _ _=>.bool true) (by simp) ?_;simp[ap9,aqa,Qc];exact⟨k1,k2,k3,k4,k5⟩
def aoG(g:Pg)(h:aoD g):Pure Tryz.prog aq 36 [.agg (Qo g),.agg (Qo g)] (.bool true):=by
 have k1:=ayS g.dr h.dr;have k2:=ayT g.cu h.cu;have k3:=aoE g.ev h.ev h.eal;have k4:=aoF g h;simp only[Qc]at k4;refine Qn alx (fun _ _ _=>.bool true) (by simp) ?_;simp[apO,apP,Qo,Qc];exact⟨k1,k2,k3,k4⟩
end
end Go.Proofs.YtnopaopphmjnmaaGreatDoor
