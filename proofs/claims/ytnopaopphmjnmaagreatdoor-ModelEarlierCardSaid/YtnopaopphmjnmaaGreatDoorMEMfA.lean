import Derived.Test.YtnopaopphmjnmaaGreatDoorMEMcW
set_option linter.all false
set_option maxRecDepth 100000
set_option maxHeartbeats 64000000
namespace Go.Proofs.YtnopaopphmjnmaaGreatDoor
noncomputable section
open Go Go.Abs
def BC(M:Md)(c v:Int):Option Pg:=(O8 M c).bind fun l=>if v<0 then none else l[v.toNat]?
def yN:Option Pg->AV
 |none=>.aW [.agg iH,.bool false]
 |some g=>.aW [.agg (Qo g),.bool true]
def aaW(Y:YT)(m:AM)(md:Nat)(M:Md)(pid aQ:Nat)(bn:List Rt)(bQ:Rt)(z:List AV)(c v:Int)(h:gA m.boxes md M pid aQ bn bQ z)(aS:∀rt∈bn,rt=.full\/∃k,rt=.own k 18)
  (hg:∀l∈M.ps,∀g∈l,PgC g)(hl:∀l∈M.ps,l.length<=1000000)(K:AV->AM->Prop)
  (hK:∀ex,K (yN (BC M c v)) ⟨m.boxes++ex,m.lens,m.st,m.ln⟩):
  an Tryz.prog az Y 20 [.ptr md 0,I c,I v] m K:=by
 obtain⟨mb,ml,ms,mn⟩:=m;have hB:∀ex,gA (mb++ex) md M pid aQ bn bQ z:=fun ex=>h.ext ex;have kc:=fun ex K h0 h1=>HD Y ⟨mb++ex,ml,ms,mn⟩ md M pid aQ bn bQ z c (hB ex) K h0 h1;refine Xe akE (fun _ _ l=>match l with|[.agg cs]=>.agg cs|_=>.gd false .junk) (by simp) ?_;simp[aoT];refine kc _ _ (fun hn=>?_) (fun l lU rt anA=>?_)
 ·have hp:BC M c v=none:=by unfold BC;rw[hn];rfl
  rw[hp]at hK;by_cases hv:v<0
  ·simp[hv,PM];simpa[yN,iH]using hK _
  have CB:0<=v:=by omega
  simp[hv,CB,PM];simpa[yN,iH]using hK _
 have cU:=lQ lU;have zF:=hl l cU;have hp:BC M c v=if v<0 then none else l[v.toNat]?:=by unfold BC;rw[lU];rfl
 rw[hp]at hK
 have fO:∃ce,th rt ce:=by
  rcases aS rt anA with rfl|⟨k,rfl⟩
  ·exact⟨_,fun m d x=>rfl⟩
  exact⟨_,th.own _ _⟩
 obtain⟨ce,hce⟩:=fO;by_cases hv:v<0
 ·rw[if_pos hv]at hK;simp[hv,PM];simpa[yN,iH]using hK _
 rw[if_neg hv]at hK;obtain⟨n,rfl⟩:=zzgw (show 0<=v by omega);rw[Int.toNat_natCast]at hK;by_cases ai:n<l.length
 ·obtain⟨g,hgg⟩:=aR ai;rw[hgg]at hK;have ah:Qh (l.map Qo) n=Qo g:=Qs (by simp[hgg]);have cB:(n:Int)<(l.length:Int):=by omega
  have CE:¬(l.length:Int)<=(n:Int):=by omega
  have k44:=SI g (hg l cU g (zzac hgg));simp only[Qo,Qc,zzae,zzaj]at ah k44;simp[hv,cB,CE,ah,PM];refine⟨k44,?_⟩;simpa[yN,Qo,Qc]using hK _
 have hn:l[n]?=none:=zzau (by omega);rw[hn]at hK;have CE:(l.length:Int)<=(n:Int):=by omega
 have bZ:l.length<=n:=by omega
 simp[hv,CE,PM];simpa[yN,iH]using hK _
open Go Go.Abs
def Yp(o:Od):Od:=if o.ki=1 then{o with nw:=lI,cl:=oc,cu:=oe}else if o.ki=2 then{o with n:=0,nw:=lI,cl:=oc,cu:=oe}else if o.ki=3 then{o with en:=0,n:=0,cl:=oc,cu:=oe}
 else if o.ki=4 then{o with en:=0,n:=0,nw:=lI,cu:=oe}else if o.ki=5 then{o with en:=0,n:=0,nw:=lI,cl:=oc}else{o with en:=0,n:=0,nw:=lI,cl:=oc,cu:=oe}
def agF(o:Od)(hk5:¬(o.ki<1\/5<o.ki)):z8 o (Yp o)=Jv (Jn o):=by
 obtain⟨sq,ch,fr,ki,en,n,⟨a1,a2,a3,a4,a5,a6,al⟩,⟨c1,c2,c3,c4,c5,c6,c7,c8⟩,⟨d1,d2,d3,d4,tx⟩⟩:=o;rw[zzbt];unfold Yp Jn;by_cases h1:ki=1
 ·simp[h1,z8,DY,Mz,Jv,lI,oc,oe,eB];constructor<;>(rintro⟨_,_⟩;simp_all)
 by_cases h2:ki=2
 ·simp[h2,z8,DY,Mz,Jv,lI,oc,oe,eB];constructor<;>(rintro⟨_,_⟩;simp_all)
 by_cases h3:ki=3
 ·simp[h3,z8,DY,Mz,Jv,lI,oc,oe,eB];try(constructor<;>(rintro⟨_,_⟩;simp_all))
 by_cases h4:ki=4
 ·simp[h4,z8,DY,Mz,Jv,lI,oc,oe,eB];constructor<;>(rintro⟨_,_⟩;simp_all)
 have h5:ki=5:=by
  have q1:¬ki<1:=fun h=>hk5 (.inl h);have q2:¬5<ki:=fun h=>hk5 (.inr h);omega
 simp[h5,z8,DY,Mz,Jv,lI,oc,oe,eB];constructor<;>(rintro⟨_,_⟩;simp_all)
def agG(a b:Od)(rt:Rt)(ha:a.nw.al.length<=8796093022208):Pure Tryz.prog az 67 [.agg (Qq a),.agg [I b.sq,I b.ch,I b.fr,I b.ki,I b.en,I b.n,I b.nw.id,I b.nw.it,I b.nw.fr,I b.nw.ea,I b.nw.la,I b.nw.bo,.sl rt (b.nw.al.map Qe),I b.cl.ki,I b.cl.it,I b.cl.fr,I b.cl.to,I b.cl.re,I b.cl.n,I b.cl.a,I b.cl.b,I b.cu.id,I b.cu.fr,I b.cu.to,I b.cu.pr,.str b.cu.tx]] (.bool (z8 a b)):=
 Zu (agE a b ha) ⟨Wk.refl _,Qcp ⟨Wk.refl _,Wk.refl _,Wk.refl _,Wk.refl _,Wk.refl _,Wk.refl _,Wk.refl _,Wk.refl _,Wk.refl _,Wk.refl _,Wk.refl _,Wk.refl _,Wk.sl _ _,Wk.refl _,Wk.refl _,Wk.refl _,Wk.refl _,Wk.refl _,Wk.refl _,Wk.refl _,Wk.refl _,Wk.refl _,Wk.refl _,Wk.refl _,Wk.refl _,Wk.refl _,trivial⟩,trivial⟩
def yO(o:Od):Nat->FuncId->List AV->AV:=fun _ f l=>if f=63 then .bool (eS o.en)else if f=64 then .bool (zg o.nw)else if f=65 then .bool (Xl o.cl)else if f=66 then .bool (sW o.cu)else .bool (z8 o (Yp o))
def agH(o:Od)(eP:o.nw.al.length<=8796093022208):Pure Tryz.prog az 34 [.agg (Qq o)] (.bool (Xw o)):=by
 have k67:=fun rt=>agG o (Yp o) rt eP;have k63:=SK o.en;have k64:=MA o.nw eP;have k65:=HS o.cl;have k66:=aaS o.cu;simp only[Qq,Qd,Qg,Qi,zzae,zzaj]at k67 k64 k65 k66;refine Qn akN (yO o) (by simp) ?_;by_cases h0:o.sq<0\/200<o.sq\/o.ch< -1\/40<=o.ch\/o.fr<0\/100000000<o.fr
 ·have hv:Xw o=false:=by
   unfold Xw;by_cases h1:o.sq<0\/200<o.sq\/o.ch< -1\/40<=o.ch
   ·rw[if_pos h1]
   rw[if_neg h1,if_pos (by omega)]
  rw[hv];have hb:(decide (o.sq<0)||decide (200<o.sq)||decide (o.ch< -1)||decide (40<=o.ch)||decide (o.fr<0)||decide (100000000<o.fr))=true:=by simp;omega
  rcases h0 with h|h|h|h|h|h<;>simp[Ei,Ej,Qq,Qd,Qg,Qi,h]
 have hv:Xw o=if o.ki<1\/5<o.ki then false else if o.ki=1/\(o.n< -100000000\/100000000<o.n)then false else okB o&&z8 o (Yp o):=by
  unfold Xw;rw[if_neg (by omega),if_neg (by omega)];by_cases hk:o.ki<1\/5<o.ki
  ·rw[if_pos hk,if_pos hk]
  rw[if_neg hk,if_neg hk,agF o hk]
 rw[hv];have c1:¬o.sq<0:=by omega
 have c2:¬200<o.sq:=by omega
 have c3:¬o.ch< -1:=by omega
 have c4:¬40<=o.ch:=by omega
 have c5:¬o.fr<0:=by omega
 have c6:¬100000000<o.fr:=by omega
 by_cases k1:o.ki=1
 ·have hw:Yp o={o with nw:=lI,cl:=oc,cu:=oe}:=by unfold Yp;rw[if_pos k1]
  have hr:(if o.ki<1\/5<o.ki then false else if o.ki=1/\(o.n< -100000000\/100000000<o.n)then false else okB o&&z8 o (Yp o))=(eS o.en&&decide (-100000000<=o.n)&&decide (o.n<=100000000)&&z8 o (Yp o)):=by
   rw[if_neg (by omega)];by_cases hn:o.n< -100000000\/100000000<o.n
   ·rw[if_pos ⟨k1,hn⟩];obtain hn|hn:=hn
    ·have:¬-100000000<=o.n:=by omega
     simp[this]
    have:¬o.n<=100000000:=by omega
    simp[this]
   have n1: -100000000<=o.n:=by omega
   have n2:o.n<=100000000:=by omega
   rw[if_neg (fun h=>hn h.2)];unfold okB;rw[if_pos k1];simp[n1,n2]
  rw[hr];have qA:=k67 .nil;rw[hw]at qA;simp only[lI,oc,oe,eB,zzcg]at qA;rw[k1]at qA;simp[Ei,Ej,Qq,Qd,Qg,Qi,c1,c2,c3,c4,c5,c6,k1,yO];refine⟨k63,?_⟩;rw[hw];simp only[lI,oc,oe,eB];rw[k1];exact qA
 by_cases k2:o.ki=2
 ·have hw:Yp o={o with n:=0,nw:=lI,cl:=oc,cu:=oe}:=by unfold Yp;rw[if_neg k1,if_pos k2]
  have hr:(if o.ki<1\/5<o.ki then false else if o.ki=1/\(o.n< -100000000\/100000000<o.n)then false else okB o&&z8 o (Yp o))=(eS o.en&&z8 o (Yp o)):=by
   rw[if_neg (by omega),if_neg (by omega)];unfold okB;rw[if_neg k1,if_pos k2]
  rw[hr];have qA:=k67 .nil;rw[hw]at qA;simp only[lI,oc,oe,eB,zzcg]at qA;rw[k2]at qA;simp[Ei,Ej,Qq,Qd,Qg,Qi,c1,c2,c3,c4,c5,c6,k2,yO];refine⟨k63,?_⟩;rw[hw];simp only[lI,oc,oe,eB];rw[k2];exact qA
 by_cases k3:o.ki=3
 ·have hw:Yp o={o with en:=0,n:=0,cl:=oc,cu:=oe}:=by unfold Yp;rw[if_neg k1,if_neg k2,if_pos k3]
  have hr:(if o.ki<1\/5<o.ki then false else if o.ki=1/\(o.n< -100000000\/100000000<o.n)then false else okB o&&z8 o (Yp o))=(zg o.nw&&z8 o (Yp o)):=by
   rw[if_neg (by omega),if_neg (by omega)];unfold okB;rw[if_neg k1,if_neg k2,if_pos k3]
  rw[hr];have qA:=k67 .ro;rw[hw]at qA;simp only[oc,oe,eB]at qA;rw[k3]at qA;simp[Ei,Ej,Qq,Qd,Qg,Qi,c1,c2,c3,c4,c5,c6,k3,yO];refine⟨k64,?_⟩;rw[hw];simp only[oc,oe,eB];rw[k3];exact qA
 by_cases k4:o.ki=4
 ·have hw:Yp o={o with en:=0,n:=0,nw:=lI,cu:=oe}:=by unfold Yp;rw[if_neg k1,if_neg k2,if_neg k3,if_pos k4]
  have hr:(if o.ki<1\/5<o.ki then false else if o.ki=1/\(o.n< -100000000\/100000000<o.n)then false else okB o&&z8 o (Yp o))=(Xl o.cl&&z8 o (Yp o)):=by
   rw[if_neg (by omega),if_neg (by omega)];unfold okB;rw[if_neg k1,if_neg k2,if_neg k3,if_pos k4]
  rw[hr];have qA:=k67 .nil;rw[hw]at qA;simp only[lI,oe,eB,zzcg]at qA;rw[k4]at qA;simp[Ei,Ej,Qq,Qd,Qg,Qi,c1,c2,c3,c4,c5,c6,k4,yO];refine⟨k65,?_⟩;rw[hw];simp only[lI,oe,eB];rw[k4];exact qA
 by_cases k5:o.ki=5
 ·have hw:Yp o={o with en:=0,n:=0,nw:=lI,cl:=oc}:=by unfold Yp;rw[if_neg k1,if_neg k2,if_neg k3,if_neg k4,if_pos k5]
  have hr:(if o.ki<1\/5<o.ki then false else if o.ki=1/\(o.n< -100000000\/100000000<o.n)then false else okB o&&z8 o (Yp o))=(sW o.cu&&z8 o (Yp o)):=by
   rw[if_neg (by omega),if_neg (by omega)];unfold okB;rw[if_neg k1,if_neg k2,if_neg k3,if_neg k4]
  rw[hr];have qA:=k67 .nil;rw[hw]at qA;simp only[lI,oc,zzcg]at qA;rw[k5]at qA;simp[Ei,Ej,Qq,Qd,Qg,Qi,c1,c2,c3,c4,c5,c6,k5,yO];refine⟨k66,?_⟩;rw[hw];simp only[lI,oc];rw[k5];exact qA
 have hw:Yp o={o with en:=0,n:=0,nw:=lI,cl:=oc,cu:=oe}:=by unfold Yp;rw[if_neg k1,if_neg k2,if_neg k3,if_neg k4,if_neg k5]
 have qA:=k67 .nil;rw[hw]at qA;simp only[lI,oc,oe,eB,zzcg]at qA;rw[if_pos (by omega)];simp[Ei,Ej,Qq,Qd,Qg,Qi,c1,c2,c3,c4,c5,c6,k1,k2,k3,k4,k5,yO];rw[hw];simp only[lI,oc,oe,eB];exact qA
open Go Go.Abs
def kP(o:Od)(n f:Int):Od:={o with nw:={o.nw with al:=o.nw.al.take 9},cu:={o.cu with tx:=o.cu.tx.extract 0 (if 300<o.cu.tx.size then 300 else o.cu.tx.size)},sq:=n,fr:=f}
def SL(a b:Int):Int:=if a<b then b else a
def ov:List Od->List Od->Int->List Od
 |[],out,_=>out
 |o::r,out,last=>if 7<=out.length then out else
  if Xw (kP o (out.length+1) (SL o.fr last))=true then ov r (out++[kP o (out.length+1) (SL o.fr last)]) (SL o.fr last)else ov r out last
def ur(l:List Od):List Od:=ov l [] 0
def axQ(o:List Od)(rt:Rt)(ls:List Nat):Prop:=(o=[]/\rt=.nil/\ls=[])\/(o≠[]/\rt=.own 0 26/\ls=[o.length])
def at3(l:List Od)(f:Nat->AV)(m:AM):Prop:=
 ∃(i:Nat)(out:List Od)(last:Int)(rt:Rt)(ls:List Nat)(bx:List (List AV)),f 5=I i/\i<=l.length/\f 3=.sl rt (out.map Qq)/\f 4=I last/\axQ out rt ls/\out.length<=7/\ov (l.drop i) out last=ur l/\m=⟨bx,ls,fun _=>.gone,0⟩
def dOd(l:List AV):Od:=⟨dI (dN l 0),dI (dN l 1),dI (dN l 2),dI (dN l 3),dI (dN l 4),dI (dN l 5),dEn (l.drop 6),dCl (l.drop 13),dCu (l.drop 21)⟩
def Pt:Nat->FuncId->List AV->AV:=fun d f l=>if f=34 then(match l with
 |[.agg cs]=>.bool (Xw (dOd cs))
 |_=>.junk)else .junk
def agI(o:Od):dOd (Qq o)=o:=by
 show(⟨o.sq,o.ch,o.fr,o.ki,o.en,o.n,dEn (Qd o.nw),o.cl,o.cu⟩:Od)=o;rw[O9]
def nh(l:List Od)(hl:l.length<=1000000000000):∃rt,Pure Tryz.prog az 15 [.sl .ro (l.map Qq)] (.sl rt ((ur l).map Qq)):=by
 refine⟨if ur l=[]then .nil else .ro,Qn akB Pt (by simp) ?_⟩;simp[akA];refine Qj u7 (at3 l) (fun f _=>l.length-(numOf (f 5)).toNat) ?_ ?_
 ·exact⟨0,[],0,.nil,[],[],by simp,by omega,by simp,by simp,.inl ⟨rfl,rfl,rfl⟩,by simp,by simp[ur],rfl⟩
 rintro f m ⟨i,out,last,rt,ls,bx,f5,hi,f3,f4,hO,Oq,hr,rfl⟩;rcases zzaa i l.length with ai|bu
 ·obtain⟨o,ho⟩:=aR ai;have ah:Qh (l.map Qq) i=Qq o:=Qs (by simp[ho]);have aa:(i:Int)<(l.length:Int):=by omega
  have hw:=bK i (by omega);have hd:l.drop i=o::l.drop (i+1):=by rw[zzaf ai,(zza.1 ho).2]
  rw[hd,ov]at hr;by_cases h7:7<=out.length
  ·rw[if_pos h7]at hr;have h7':¬(out.length:Int)<7:=by omega
   rw[<- hr];obtain⟨rfl,rfl,rfl⟩|⟨h0,rfl,rfl⟩:=hO
   ·simp at h7
   simp[f5,f3,u7,aa,h7',abP,h0]
  rw[if_neg h7]at hr;have h7':(out.length:Int)<7:=by omega
  have ayw:out.length<7:=by omega
  have Th:IntKind.i64.wrap ((out.length:Int)+1)=(out.length:Int)+1:=by rw[Qk]<;>omega
  have t1:List.take (if(9:Int)<(o.nw.al.length:Int)then(9:Int)else(o.nw.al.length:Int)).toNat (o.nw.al.map Qe)=List.take 9 (o.nw.al.map Qe):=by
   have:=Qdz (o.nw.al.map Qe) 9;rw[zzbf]at this;exact this
  have a1:=s5 (a:=o.nw.al.length) 9;have b1:=tc (a:=o.nw.al.length) 9;have a2:=s5 (a:=o.cu.tx.size) 300;have b2:=tc (a:=o.cu.tx.size) 300
  have e2:(if(300:Int)<(o.cu.tx.size:Int)then(300:Int)else(o.cu.tx.size:Int)).toNat=if 300<o.cu.tx.size then 300 else o.cu.tx.size:=by
   by_cases h:300<o.cu.tx.size
   ·rw[if_pos h,if_pos (by omega)];rfl
   rw[if_neg h,if_neg (by omega)];omega
  simp at a1 b1 a2 b2;have dm:∀(row:List AV)(x x_1:Int),(x,x_1)∈o.nw.al->Qe (x,x_1)=row->row.length=2:=by rintro row a b _ rfl;rfl
  have SM:=agH (kP o (out.length+1) (SL o.fr last)) (by simp[kP];omega);have hdo:=agI (kP o (out.length+1) (SL o.fr last))
  have Lh:Qq (kP o (out.length+1) (SL o.fr last))=[I ((out.length:Int)+1),I o.ch,I (if o.fr<last then last else o.fr),I o.ki,I o.en,I o.n,I o.nw.id,I o.nw.it,I o.nw.fr,I o.nw.ea,I o.nw.la,I o.nw.bo,.sl .ro (List.take 9 (o.nw.al.map Qe)),
   I o.cl.ki,I o.cl.it,I o.cl.fr,I o.cl.to,I o.cl.re,I o.cl.n,I o.cl.a,I o.cl.b,I o.cu.id,I o.cu.fr,I o.cu.to,I o.cu.pr,.str (o.cu.tx.extract 0 (if 300<o.cu.tx.size then 300 else o.cu.tx.size))]:=by
   simp[Qq,Qd,Qg,Qi,kP,SL,zzhl]
  have Tk:SL o.fr last=if o.fr<last then last else o.fr:=rfl;rw[Lh]at SM hdo;generalize hC:kP o (out.length+1) (SL o.fr last)=C at*
  simp only[Qq,Qd,Qg,Qi,zzae,zzaj]at ah;cases hv:Xw C with
  |false=>
   rw[hv]at SM;rw[if_neg (by rw[hv];decide)]at hr;simp[f5,f3,f4,u7,aa,hw,h7',ah,Th,t1,a1,b1,a2,b2,e2,Pt,hdo,hv];refine⟨dm,SM,aO,⟨i+1,out,last,rt,ls,_,by simp,by omega,by simp,by simp,hO,Oq,hr,rfl⟩,by omega⟩
  |true=>
   rw[hv]at SM;rw[if_pos hv,Tk]at hr;obtain⟨rfl,rfl,rfl⟩|⟨h0,rfl,rfl⟩:=hO
   ·have w1:IntKind.i64.wrap 1=1:=by decide
    simp at hdo SM Lh;simp[f5,f3,f4,u7,aa,hw,ah,w1,t1,a1,b1,a2,b2,e2,Pt,hdo,hv];refine⟨dm,SM,aO,⟨i+1,[]++[C],_,.own 0 26,[1],_,by simp,by omega,by simp[Lh],by simp,.inr ⟨by simp,rfl,by simp⟩,by simp,hr,rfl⟩,by omega⟩
   simp[f5,f3,f4,u7,aa,hw,h7',ah,Th,t1,a1,b1,a2,b2,e2,Pt,hdo,hv];refine⟨dm,SM,⟨?_,by omega⟩,aO,⟨i+1,out++[C],_,.own 0 26,[out.length+1],_,by simp,by omega,by simp[Lh],by simp,.inr ⟨by simp,rfl,by simp⟩,by simp;omega,hr,rfl⟩,by omega⟩
   ·rintro row (⟨a,_,rfl⟩|rfl)<;>rfl
 obtain rfl:i=l.length:=by omega
 rw[zzbo,ov]at hr;rw[<- hr];obtain⟨rfl,rfl,rfl⟩|⟨h0,rfl,rfl⟩:=hO
 ·simp[f5,f3,u7,abP]
 simp[f5,f3,u7,abP,h0]
open Go Go.Abs
def I4:Md->List Od->Option Md
 |M,[]=>some M
 |M,o::r=>match DP M o with
  |none=>none
  |some M'=>I4 M' r
def Ab(ps:List Pl)(os:List Od):Option Md:=match mw ps with
 |none=>none
 |some M=>I4 M os
structure SN (ps:List Pl):Prop where
 len:ps.length<=1000000
 sh:∀p∈ps,Mt p
 al:∀p∈ps,∀e∈p.ens,e.al.length<=8796093022208
 ea:∀p∈ps,∀e∈p.ens,e.ea<=9223372036854775807
def SN.be{ps:List Pl}(h:SN ps):∀p∈ps,agj p:=fun p hp=>aty (h.sh p hp) (h.al p hp) (h.ea p hp)
def Pu(ls:List Nat)(ps:List (List Pg)):ez ls (HE ps.length) ps:=
 ⟨fun i rt l h _=>.inl ((List.mem_replicate.1 (zzac h)).2),fun i j k h _=>by
  have:=(List.mem_replicate.1 (zzac h)).2;cases this⟩
def bh.pref{S:Nat->Prop}{mb X B':List (List AV)}(h:bh S (mb++X) B')(hS:∀j,S j->mb.length<=j):∃ex,B'=mb++ex:=by
 refine⟨B'.drop mb.length,?_⟩;apply zzck;intro j;have hl:=h.1;simp only[zzah]at hl;rcases zzaa j mb.length with hj|hj
 ·rw[zzag hj];have:=h.2 j (by simp;omega) (fun hs=>by have:=hS j hs;omega);rw[Ug (by omega),this,Ug hj,Ql hj]
 rw[zzan hj,zzbk];congr 1;omega
def ez.own{ls:List Nat}{bn:List Rt}{ps:List (List Pg)}(h:ez ls bn ps)(hl:bn.length=ps.length):∀rt∈bn,rt=.full\/∃k,rt=.own k 18:=fun rt aS=>by
 obtain⟨i,hi⟩:=zzcd.1 aS;have ai:=(zza.1 hi).1;rcases h.1 i rt _ hi (zzad (by omega))with e|⟨k,e,_⟩
 ·exact .inl e
 exact .inr ⟨k,e⟩
def at4(mb:List (List AV))(ms:Nat->LS)(mn:Nat)(os:List Od)(M:Md)(md pid aQ:Nat)(z:List AV)(f:Nat->AV)(m:AM):Prop:=
 ∃(i:Nat)(M':Md)(ex:List (List AV))(ls:List Nat)(bn:List Rt)(bQ:Rt),f 7=I i/\i<=os.length/\I4 M' (os.drop i)=I4 M os/\Tx M'/\M'.os.length=i/\gA (mb++ex) md M' pid aQ bn bQ z/\ez ls bn M'.ps/\eU ls bn bQ M'.os.length/\m=⟨mb++ex,ls,ms,mn⟩
def rS(Y:YT)(m:AM)(ps:List Pl)(os:List Od)(hp:SN ps)(ho:∀o∈os,zZ o)(Oq:os.length<=100)(K:AV->AM->Prop)
  (h0:Ab ps os=none->∀ex ls,K (.nilv true) ⟨m.boxes++ex,ls,m.st,m.ln⟩)
  (h1:∀M,Ab ps os=some M->∀ex ls md pid aQ bn bQ z,m.boxes.length<=md->Tx M->M.os.length=os.length->gA (m.boxes++ex) md M pid aQ bn bQ z->ez ls bn M.ps->eU ls bn bQ M.os.length->K (.ptr md 0) ⟨m.boxes++ex,ls,m.st,m.ln⟩):
  an Tryz.prog az Y 26 [.sl .ro (ps.map Qc),.sl .ro (os.map Qq)] m K:=by
 obtain⟨mb,ml,ms,mn⟩:=m;refine Xe akI (fun _ _ _=>.gd false .junk) (by simp) ?_;simp[aoV];refine DN Y _ ps hp.len hp.be _ (fun hn ex=>?_) (fun M hM ex md pid aQ z uD hB=>?_)
 ·have h0:=h0 (by unfold Ab;rw[hn]) ex ml;simp[abR];exact h0
 have iC:Ab ps os=I4 M os:=by unfold Ab;rw[hM]
 rw[iC]at h0 h1;obtain⟨hV,hos⟩:=DT hp.sh hM;simp;refine Qj TB (at4 mb ms mn os M md pid aQ z) (fun f _=>os.length-(numOf (f 7)).toNat) ?_ ?_
 ·exact⟨0,M,ex,ml,_,.nil,by simp,by omega,by simp,hV,by simp[hos],hB,Pu _ _,.inl ⟨rfl,by simp[hos]⟩,by simp⟩
 rintro f m ⟨i,M',ex,ls,bn,bQ,f7,hi,hr,hV,hoi,hB,aS,dQ,rfl⟩;rcases zzaa i os.length with ai|bu
 ·obtain⟨o,hoo⟩:=aR ai;have ah:Qh (os.map Qq) i=Qq o:=Qs (by simp[hoo]);have aa:(i:Int)<(os.length:Int):=by omega
  have hw:=bK i (by omega);have hd:os.drop i=o::os.drop (i+1):=by rw[zzaf ai,(zza.1 hoo).2]
  have at5:=ho o (zzac hoo);rw[hd,I4]at hr;have eP:o.nw.al.length<=8796093022208:=by have:=at5;unfold zZ at this;omega
  have at6:=fun K h0 h1=>rR Y ⟨mb++ex,ls,ms,mn⟩ md M' pid aQ bn bQ z o hB aS dQ hV.n (fun l hl g hg _=>aaE (hV.pr l hl _ g hg).dB (by have:=hV.los;omega) at5) eP (by have:=hV.los;omega) K h0 h1;simp only[Qq,Qd,Qg,Qi,zzae,zzaj]at ah at6;simp[f7,TB,aa,ah];refine at6 _ (fun hn dW=>?_) (fun M2 hM2 B' bX rts' dh oB fN agJ aae=>?_)
  ·rw[hn]at hr;have h0:=h0 hr.symm (ex++dW) ls;simp[abR];exact h0
  rw[hM2]at hr;obtain⟨hV2,axR,_⟩:=Pm hV hM2;obtain⟨dW,rfl⟩:=bh.pref fN (fun j hj=>hj.elim (fun e=>e ▸ uD.1) (fun e=>e ▸ uD.2));simp[hw];refine⟨aO,⟨i+1,M2,dW,bX,rts',dh,by simp,by omega,hr,hV2,by rw[axR];simp[hoi],oB,agJ,aae,rfl⟩,by omega⟩
 obtain rfl:i=os.length:=by omega
 rw[zzbo,I4]at hr;have h1:=h1 M' hr.symm ex ls md pid aQ bn bQ z uD.1 hV hoi hB aS dQ;simp[f7,TB,abR];exact h1
open Go Go.Abs
def an.wka{P:Program}{gl:Nat->AV}{Y:YT}{f:FuncId}{xs xs':List AV}{m:AM}{K:AV->AM->Prop}(hk:WkL xs xs')(h:an P gl Y f xs' m K):an P gl Y f xs m K:=
 ⟨h.1,fun N w0 aq γ w vs hm hl hg hy hr=>h.2 N w0 aq γ w vs hm hl hg hy (hk.rep hr)⟩
def aaX(e:En×Rt):List AV:=[I e.1.id,I e.1.it,I e.1.fr,I e.1.ea,I e.1.la,I e.1.bo,.sl e.2 (e.1.al.map Qe)]
def anL(l:List (En×Rt))(rt:Rt):Wk (.sl rt (l.map aaX)) (.sl .ro ((l.map (·.1)).map Qd)):=by
 refine Wk.trans (Wk.sl _ _) ?_;rw[zzcz];refine Wk.rows l aaX (Qd ∘ (·.1)) (fun _=>rfl) fun a j c' h=>?_
 match j,h with
 |0,h=>exact⟨_,rfl,by cases h;exact Wk.refl _⟩
 |1,h=>exact⟨_,rfl,by cases h;exact Wk.refl _⟩
 |2,h=>exact⟨_,rfl,by cases h;exact Wk.refl _⟩
 |3,h=>exact⟨_,rfl,by cases h;exact Wk.refl _⟩
 |4,h=>exact⟨_,rfl,by cases h;exact Wk.refl _⟩
 |5,h=>exact⟨_,rfl,by cases h;exact Wk.refl _⟩
 |6,h=>exact⟨_,rfl,by cases h;exact Wk.sl _ _⟩
 |j+7,h=>simp[Qd]at h
def akj:List AV:=[I 0,I 25,I 1,I 0,.sl .nil [],I 0,I 1,I 200,I 1,.sl .full [[I 1,I 5,I 300,I 0,I 0],[I 2,I 2,I 20,I 0,I 0],[I 3,I 4,I 100,I 0,I 0]],
 .sl .full [[I 1,I 2,I 20,I 0,I 0,I 0,.sl .nil []],[I 2,I 3,I 40,I 20,I 50,I 0,.sl .nil []]],.sl .nil [],
 .sl .full [[I 1,I 2,I 0,I 1000,I 255,I 0,I 0,I 0],[I 1,I 3,I 0,I 1000,I 255,I 0,I 0,I 0]]]
def MB:Pure Tryz.prog az 33 [] (.agg akj):=by
 refine Qn akM (fun _ _ _=>.junk) (by simp) ?_;simp[aoZ,ao0,akj]
def SP:Pure Tryz.prog az 33 [] (.agg (Qc (iO 0))):=
 Xa MB (Qcp ⟨Wk.refl _,Wk.refl _,Wk.refl _,Wk.refl _,Wk.sl _ _,Wk.refl _,Wk.refl _,Wk.refl _,Wk.refl _,Wk.sl _ _,anL [(⟨1,2,20,0,0,0,[]⟩,.nil),(⟨2,3,40,20,50,0,[]⟩,.nil)] .full,Wk.sl _ _,Wk.sl _ _,trivial⟩)
def MC:SN [iO 0]:=by
 refine⟨by simp,fun p hp=>?_,fun p hp e he=>?_,fun p hp e he=>?_⟩
 ·simp only[zzbg]at hp;subst hp;exact⟨by simp[iO],by simp[iO],by simp[iO],by simp[iO],by simp[iO],by simp[iO]⟩
 ·simp only[zzbg]at hp;subst hp;simp[iO]at he;rcases he with rfl|rfl<;>simp
 simp only[zzbg]at hp;subst hp;simp[iO]at he;rcases he with rfl|rfl<;>simp
def aaY(n:Int):Wk (.agg [I n,I 0,I 30,I 2,I 2,I 0,I 0,I 0,I 0,I 0,I 0,I 0,.sl .nil [],I 0,I 0,I 0,I 0,I 0,I 0,I 0,I 0,I 0,I 0,I 0,I 0,.str ⟨#[]⟩]) (.agg (Qq (iP n))):=
 Qcp ⟨Wk.refl _,Wk.refl _,Wk.refl _,Wk.refl _,Wk.refl _,Wk.refl _,Wk.refl _,Wk.refl _,Wk.refl _,Wk.refl _,Wk.refl _,Wk.refl _,Wk.sl _ _,Wk.refl _,Wk.refl _,Wk.refl _,Wk.refl _,Wk.refl _,Wk.refl _,Wk.refl _,Wk.refl _,Wk.refl _,Wk.refl _,Wk.refl _,Wk.refl _,Wk.refl _,trivial⟩
def Tx.mok{M:Md}(h:Tx M):MoK M:=
 ⟨fun o ho=>by have:=h.fr o ho;omega,h.n,by have:=h.los;omega,fun l hl g hg=>by
  obtain⟨i,hi⟩:=zzcd.1 hg;have hp:=h.pr l hl i g hi;exact⟨by have:=hp.small.1;omega,fun e he=>⟨hp.small.2 e he,(hp.ep e he).2.2.1⟩⟩⟩
def Tx.pgc{M:Md}(h:Tx M):∀l∈M.ps,∀g∈l,PgC g:=fun l hl g hg=>by
 obtain⟨i,hi⟩:=zzcd.1 hg;have hp:=h.pr l hl i g hi;have hn:=h.n l hl;have:=(zza.1 hi).1;exact hp.pgc (by have:=h.los;omega)
def aaZ:mw []=none:=by unfold mw;rw[if_pos (by simp)]
def agK:BC di 0 1=some HO:=by cbv
def at7:SJ di 0 0 38 (0,0,5)=true:=by unfold SJ;rw[aaJ];simp
def aua:SJ di 0 0 38 (3,12,0)=false:=by unfold SJ;rw[aaJ];simp
def Pv(n:Int):zZ (iP n):=by unfold zZ iP lI;simp
def akk:SC:=(⟨_,by cbv⟩:tW [1,1,1,1,1,1,1,1,1,1,1] qB).1
def akl:SC:=(⟨_,fun _=>by cbv⟩:uE [1] (tV [1,1,1,1,1,1,1,1,1,1] qB)).1 akk
def akm:SC:=(⟨_,fun _=>by cbv⟩:uE [1] (tV [1,1,1,1,1,1,1,1,1] qB)).1 akl
def akn:SC:=(⟨_,fun _=>by cbv⟩:uE [1] (tV [1,1,1,1,1,1,1,1] qB)).1 akm
def ako:SC:=(⟨_,fun _=>by cbv⟩:uE [1] (tV [1,1,1,1,1,1,1] qB)).1 akn
def akp:SC:=(⟨_,fun _=>by cbv⟩:uE [1] (tV [1,1,1,1,1,1] qB)).1 ako
def akq:SC:=(⟨_,fun _=>by cbv⟩:uE [1] (tV [1,1,1,1,1] qB)).1 akp
def akr:SC:=(⟨_,fun _=>by cbv⟩:uE [1] (tV [1,1,1,1] qB)).1 akq
def aks:SC:=(⟨_,fun _=>by cbv⟩:uE [1] (tV [1,1,1] qB)).1 akr
def akt:SC:=(⟨_,fun _=>by cbv⟩:uE [1] (tV [1,1] qB)).1 aks
def aub:SC:=(⟨_,fun _=>by cbv⟩:uE [1,1] qB).1 akt
theorem agL:qB=aub:=rfl
def anM:Pure Tryz.prog az 11 [] (.bool true):=by
 have k33:=SP;refine Qn aky (fun _ f _=>if f=33 then .agg (Qc (iO 0))else .gd false .junk) (by simp) ?_;rw[agL];simp[Qc,iO,Qm,Qd,Qg]at k33;simp[aub,Qc,iO,Qm,Qd,Qg];refine⟨k33,?_⟩;refine an.wka (xs':=[.sl .ro ([iO 0].map Qc)]) ⟨Wk.sl _ _,trivial⟩ ?_;refine DN Y0 _ [iO 0] MC.len MC.be _ (fun hn=>?_) (fun M hM ex md pid aQ z uD hB=>?_)
 ·rw[DU]at hn;cases hn
 rw[DU]at hM;cases hM;simp only[zzaj]at hB |-
 simp[akt];refine an.wka (xs':=[.sl .ro (([]:List Pl).map Qc)]) ⟨Wk.sl _ _,trivial⟩ ?_;refine DN Y0 _ [] (by simp) (fun p hp=>by cases hp) _ (fun _ dW=>?_) (fun M hM=>by rw[aaZ]at hM;cases hM);have hB:=hB.ext dW;simp only at hB |-
 generalize ex++dW=B at*
 simp[aks];simp[akr];refine an.wka (xs':=[.ptr md 0,.agg (Qq (iP 1))]) ⟨Wk.refl _,aaY 1,trivial⟩ ?_;have hV0:=DT MC.sh DU;refine rR Y0 _ md _ pid aQ _ .nil z (iP 1) hB (Pu _ _) (.inl ⟨rfl,rfl⟩) hV0.1.n (fun l hl g hg _=>aaE (hV0.1.pr l hl _ g hg).dB (by simp) (Pv 1)) (by simp[iP,lI]) (by simp) _ (fun hn=>?_) (fun M' hM' B' bX rts' dh tT fN F7 Mp=>?_)
 ·rw[DV]at hn;cases hn
 rw[DV]at hM';cases hM';have hV1:=(Pm hV0.1 DV).1;have J9:=hV1.mok;have hpg:=hV1.pgc;have uG:=F7.own tT.hrts;simp[akq];refine an.wka (xs':=[.ptr md 0,.agg (Qq (iP 3))]) ⟨Wk.refl _,aaY 3,trivial⟩ ?_;refine rR Y0 _ md di pid aQ rts' dh z (iP 3) tT F7 Mp hV1.n (fun l hl g hg _=>aaE (hV1.pr l hl _ g hg).dB (by simp[di]) (Pv 3)) (by simp[iP,lI]) (by simp[di]) _ (fun hn zf=>?_) (fun M' hM'=>by rw[aaH]at hM';cases hM');have oB:=tT.ext zf;simp only at oB |-
 generalize B'++zf=B2 at*
 clear hB tT;have hfo:∀o∈di.os,0<=o.2/\o.2<=1000000000000:=J9.os;simp[akp];refine Kw Y0 _ md di pid aQ rts' dh z 37 oB hfo _ ?_;rw[axF,axH];simp[ako];refine Kw Y0 _ md di pid aQ rts' dh z 38 oB hfo _ ?_;rw[atG,atH];simp[akn];refine Qaj Y0 _ md di pid aQ rts' dh z 0 0 32 oB J9 uG (by omega) _ fun IX lx4 ms4 mn4=>?_;have YA:=oB.ext IX;simp only at YA |-
 generalize B2++IX=B3 at*
 rw[atI];simp[akm];refine Qaj Y0 _ md di pid aQ rts' dh z 0 0 38 YA J9 uG (by omega) _ fun ex5 lx5 ms5 mn5=>?_;have ZL:=YA.ext ex5;simp only at ZL |-
 generalize B3++ex5=B4 at*
 rw[aaJ];simp[akl,Zk];refine Qaj Y0 _ md di pid aQ rts' dh z 0 1 32 ZL J9 uG (by omega) _ fun ex6 lx6 ms6 mn6=>?_;have hB5:=ZL.ext ex6;simp only at hB5 |-
 generalize B4++ex6=B5 at*
 rw[axJ];simp[akk];refine aaW Y0 _ md di pid aQ rts' dh z 0 1 hB5 uG hpg (fun l hl=>by have:=hV1.n l hl;simp[di]at this |-;omega) _ fun ex7=>?_;have hB6:=hB5.ext ex7;simp only at hB6 |-
 generalize B5++ex7=B6 at*
 rw[agK];simp[yN,Qo,Qc,HO,yL,iO];refine Pq Y0 _ md di pid aQ rts' dh z 0 0 38 (0,0,5) (hB6.ext _) J9 uG (by omega) _ fun ex8 lx8 ms8 mn8=>?_;rw[at7];simp;refine Pq Y0 _ md di pid aQ rts' dh z 0 0 38 (3,12,0) (by simpa using hB6.ext _) J9 uG (by omega) _ fun ex9 lx9 ms9 mn9=>?_;rw[aua];simp[aoR]
open Go Go.Abs
def auc(ps:List Pl):Prop:=∀p∈ps,(∀e∈p.ens,e.al.length<=8796093022208)/\∀e∈p.ens,e.ea<=9223372036854775807
def anN(ps:List Pl):List Pl:=(ps.take 3).map R6
def agM{ps:List Pl}(h:auc ps):SN (anN ps):=by
 have key:∀p∈anN ps,∃q∈ps,p=R6 q:=fun p hp=>by
  obtain⟨q,hq,rfl⟩:=zzbc.1 hp;exact⟨q,zzcb hq,rfl⟩
 refine⟨by simp[anN];omega,fun p hp=>?_,fun p hp e he=>?_,fun p hp e he=>?_⟩
 ·obtain⟨q,hq,rfl⟩:=key p hp;exact anz q
 ·obtain⟨q,hq,rfl⟩:=key p hp;exact(h q hq).1 e (zzcb he)
 obtain⟨q,hq,rfl⟩:=key p hp;exact(h q hq).2 e (zzcb he)
def DZ:∀(l out:List Od)(last:Int),(∀o∈out,zZ o)->out.length<=7->(∀o∈ov l out last,zZ o)/\(ov l out last).length<=7
 |[],out,_,h,h7=>⟨h,h7⟩
 |o::r,out,last,h,h7=>by
  rw[ov];split
  ·exact⟨h,h7⟩
  split
  ·refine DZ r _ _ (fun x hx=>?_) (by simp;omega);rcases zzao.1 hx with hx|hx
   ·exact h x hx
   rw[zzbg]at hx;subst hx;unfold zZ kP;simp;omega
  exact DZ r _ _ h h7
def Pw(l:List Od):(∀o∈ur l,zZ o)/\(ur l).length<=7:=DZ l [] 0 (fun o h=>by cases h) (by simp)
open Go Go.Abs
def Qbl{α:Type}(P:α->Prop)[DecidablePred P](a:α)(r:List α):(((a::r).filter fun o=>decide (P o)).length:Int)=(if P a then 1 else 0)+((r.filter fun o=>decide (P o)).length:Int):=by
 rw[zzdw];by_cases h:P a
 ·rw[if_pos h,if_pos (by simpa using h),zzba];omega
 rw[if_neg h,if_neg (by simpa using h)];omega
def HV:∀(n:Nat)(lo hi:Int),(hi+1-lo).toNat<=n->(Vv lo hi).Pairwise (·<·)/\(∀v∈Vv lo hi,lo<=v/\v<=hi)/\((Vv lo hi).length:Int)=max 0 (hi+1-lo)
 |0,lo,hi,h=>by rw[Vv,if_neg (by omega)];exact⟨List.Pairwise.nil,(fun v hv=>by cases hv),by simp;omega⟩
 |n+1,lo,hi,h=>by
  rw[Vv];split
  ·obtain⟨h1,h2,h3⟩:=HV n (lo+1) hi (by omega);refine⟨zzc.2 ⟨fun v hv=>by have:=h2 v hv;omega,h1⟩,fun v hv=>?_,by simp only[zzba];omega⟩;rcases zzaw.1 hv with rfl|hv
   ·omega
   have:=h2 v hv;omega
  exact⟨List.Pairwise.nil,(fun v hv=>by cases hv),by simp;omega⟩
end
end Go.Proofs.YtnopaopphmjnmaaGreatDoor
