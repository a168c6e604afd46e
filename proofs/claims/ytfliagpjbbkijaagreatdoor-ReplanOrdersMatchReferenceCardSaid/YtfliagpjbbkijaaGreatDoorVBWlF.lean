import Derived.Test.YtfliagpjbbkijaaGreatDoorVBWjQ
set_option linter.all false
set_option maxRecDepth 100000
set_option maxHeartbeats 64000000
namespace Go.Proofs.YtfliagpjbbkijaaGreatDoor
noncomputable section
open Go Go.Abs
def DZ(n lo hi:Int):Pure Tryz.prog aD 81 [I n,I lo,I hi] (.bool (wi n lo hi)):=by
 refine Qm alb (fun _ _ _=>.junk) zd ?_;by_cases h1:lo<=n<;>by_cases h2:n<=hi<;>simp[apK,apL,wi,h1,h2]
def H8(c:Cl):Pure Tryz.prog aD 47 [.agg (Qj c)] (.bool (Xe c)):=by
 have kw:=DZ;refine Qm akz De zd ?_;by_cases h1:c.ki=1
 ·simp[Ej,Ek,Qj,De,h1];refine⟨kw _ _ _,fun _=>kw _ _ _,?_⟩;clear kw;obtain⟨ki,it,fr,to,re,n,a,b⟩:=c;simp only at h1;rw[zzbq];simp[Xe,Jr,Ua,Vd,Vr,wi,h1];omega
 by_cases h2:c.ki=2
 ·simp[Ej,Ek,Qj,De,h2];refine⟨kw _ _ _,fun _=>kw _ _ _,?_⟩;clear kw;obtain⟨ki,it,fr,to,re,n,a,b⟩:=c;simp only at h2;rw[zzbq];simp[Xe,Jr,Ua,Vd,Vr,wi,h2];omega
 by_cases h3:c.ki=3
 ·simp[Ej,Ek,Qj,De,h3];refine⟨kw _ _ _,fun _=>kw _ _ _,fun _ _=>kw _ _ _,?_⟩;clear kw;obtain⟨ki,it,fr,to,re,n,a,b⟩:=c;simp only at h3;rw[zzbq];simp[Xe,Jr,Ua,Vd,Vr,wi,h3];omega
 by_cases h4:c.ki=4
 ·simp[Ej,Ek,Qj,De,h4];refine⟨kw _ _ _,fun _=>kw _ _ _,fun _ _=>kw _ _ _,?_⟩;clear kw;obtain⟨ki,it,fr,to,re,n,a,b⟩:=c;simp only at h4;rw[zzbq];simp[Xe,Jr,Ua,Vd,Vr,wi,h4];omega
 by_cases h5:c.ki=5
 ·simp[Ej,Ek,Qj,De,h5];refine⟨kw _ _ _,fun _=>kw _ _ _,kw _ _ _,fun _=>kw _ _ _,fun _ _ _=>kw _ _ _,?_⟩;clear kw;obtain⟨ki,it,fr,to,re,n,a,b⟩:=c;simp only at h5;rw[zzbq];simp[Xe,Jr,Ua,Vd,Vr,wi,h5];omega
 by_cases h6:c.ki=6
 ·simp[Ej,Ek,Qj,De,h6];refine⟨kw _ _ _,fun _=>kw _ _ _,kw _ _ _,fun _=>kw _ _ _,fun _ _ _ _ _=>kw _ _ _,?_⟩;clear kw;obtain⟨ki,it,fr,to,re,n,a,b⟩:=c;simp only at h6;rw[zzbq];simp[Xe,Jr,Ua,Vd,Vr,wi,h6];omega
 have hv:Xe c=false:=by simp[Xe,Ua,h1,h2,h3,h4,h5,h6]
 rw[hv];simp[Ej,Ek,Qj,De,h1,h2,h3,h4,h5,h6];exact⟨kw _ _ _,fun _=>kw _ _ _⟩
def Yc(o:Od):Od:=if o.ki=1 then{o with nw:=dJ,cl:=eF,cu:=eG}else if o.ki=2 then{o with n:=0,nw:=dJ,cl:=eF,cu:=eG}else if o.ki=3 then{o with en:=0,n:=0,cl:=eF,cu:=eG}
 else if o.ki=4 then{o with en:=0,n:=0,nw:=dJ,cu:=eG}else if o.ki=5 then{o with en:=0,n:=0,nw:=dJ,cl:=eF}else{o with en:=0,n:=0,nw:=dJ,cl:=eF,cu:=eG}
def agk(o:Od)(Ri:¬(o.ki<1\/5<o.ki)):zM o (Yc o)=Yk (Ym o):=by
 obtain⟨sq,ch,fr,ki,en,n,⟨a1,a2,a3,a4,a5,a6,al⟩,⟨c1,c2,c3,c4,c5,c6,c7,c8⟩,⟨d1,d2,d3,d4,tx⟩⟩:=o;rw[zzbq];unfold Yc Ym;by_cases h1:ki=1
 ·simp[h1,zM,DJ,LQ,Yk,dJ,eF,eG,eB];constructor<;>(rintro⟨_,_⟩;simp_all)
 by_cases h2:ki=2
 ·simp[h2,zM,DJ,LQ,Yk,dJ,eF,eG,eB];constructor<;>(rintro⟨_,_⟩;simp_all)
 by_cases h3:ki=3
 ·simp[h3,zM,DJ,LQ,Yk,dJ,eF,eG,eB];try(constructor<;>(rintro⟨_,_⟩;simp_all))
 by_cases h4:ki=4
 ·simp[h4,zM,DJ,LQ,Yk,dJ,eF,eG,eB];constructor<;>(rintro⟨_,_⟩;simp_all)
 have h5:ki=5:=by
  have q1:¬ki<1:=fun h=>Ri (.inl h);have q2:¬5<ki:=fun h=>Ri (.inr h);omega
 simp[h5,zM,DJ,LQ,Yk,dJ,eF,eG,eB];constructor<;>(rintro⟨_,_⟩;simp_all)
def agl(a b:Od)(rt:Rt)(ha:a.nw.al.length<=8796093022208):Pure Tryz.prog aD 36 [.agg (Qt a),.agg [I b.sq,I b.ch,I b.fr,I b.ki,I b.en,I b.n,I b.nw.id,I b.nw.it,I b.nw.fr,I b.nw.ea,I b.nw.la,I b.nw.bo,.sl rt (b.nw.al.map Qe),I b.cl.ki,I b.cl.it,I b.cl.fr,I b.cl.to,I b.cl.re,I b.cl.n,I b.cl.a,I b.cl.b,I b.cu.id,I b.cu.fr,I b.cu.to,I b.cu.pr,.str b.cu.tx]] (.bool (zM a b)):=
 Xl (afU a b ha) ⟨Ps,Wq ⟨Ps,Ps,Ps,Ps,Ps,Ps,Ps,Ps,Ps,Ps,Ps,Ps,Wk.sl _ _,Ps,Ps,Ps,Ps,Ps,Ps,Ps,Ps,Ps,Ps,Ps,Ps,Ps,trivial⟩,trivial⟩
def yD(o:Od):X1:=fun _ f l=>if f=45 then .bool (ez o.en)else if f=46 then .bool (yb o.nw)else if f=47 then .bool (Xe o.cl)else if f=48 then .bool (uN o.cu)else .bool (zM o (Yc o))
def D0(o:Od)(fc:o.nw.al.length<=8796093022208):Pure Tryz.prog aD 15 [.agg (Qt o)] (.bool (Xp o)):=by
 have k67:=fun rt=>agl o (Yc o) rt fc;have k63:=RX o.en;have k64:=LR o.nw fc;have k65:=H8 o.cl;have k66:=aac o.cu;simp only[Qt,Qd,Qj,Qp,zzaf,zzah]at k67 k64 k65 k66;refine Qm aj2 (yD o) zd ?_;by_cases h0:o.sq<0\/200<o.sq\/o.ch< -1\/40<=o.ch\/o.fr<0\/100000000<o.fr
 ·have hv:Xp o=false:=by
   unfold Xp;by_cases h1:o.sq<0\/200<o.sq\/o.ch< -1\/40<=o.ch
   ·rw[if_pos h1]
   rw[if_neg h1,if_pos zE]
  rw[hv];have hb:(decide (o.sq<0)||decide (200<o.sq)||decide (o.ch< -1)||decide (40<=o.ch)||decide (o.fr<0)||decide (100000000<o.fr))=true:=by simp;omega
  rcases h0 with h|h|h|h|h|h<;>simp[Eg,Eh,Qt,Qd,Qj,Qp,h]
 have hv:Xp o=if o.ki<1\/5<o.ki then false else if o.ki=1/\(o.n< -100000000\/100000000<o.n)then false else okB o&&zM o (Yc o):=by
  unfold Xp;rw[if_neg zE,if_neg zE];by_cases hk:o.ki<1\/5<o.ki
  ·rw[if_pos hk,if_pos hk]
  rw[if_neg hk,if_neg hk,agk o hk]
 rw[hv];have c1:¬o.sq<0:=zE
 have c2:¬200<o.sq:=zE
 have c3:¬o.ch< -1:=zE
 have c4:¬40<=o.ch:=zE
 have c5:¬o.fr<0:=zE
 have c6:¬100000000<o.fr:=zE
 by_cases k1:o.ki=1
 ·have hw:Yc o={o with nw:=dJ,cl:=eF,cu:=eG}:=by unfold Yc;rw[if_pos k1]
  have hr:(if o.ki<1\/5<o.ki then false else if o.ki=1/\(o.n< -100000000\/100000000<o.n)then false else okB o&&zM o (Yc o))=(ez o.en&&decide (-100000000<=o.n)&&decide (o.n<=100000000)&&zM o (Yc o)):=by
   rw[if_neg zE];by_cases hn:o.n< -100000000\/100000000<o.n
   ·rw[if_pos ⟨k1,hn⟩];obtain hn|hn:=hn
    ·have:¬-100000000<=o.n:=zE
     simp[this]
    have:¬o.n<=100000000:=zE
    simp[this]
   have n1: -100000000<=o.n:=zE
   have n2:o.n<=100000000:=zE
   rw[if_neg (fun h=>hn h.2)];unfold okB;rw[if_pos k1];simp[n1,n2]
  rw[hr];have qw:=k67 .nil;rw[hw]at qw;simp only[dJ,eF,eG,eB,zzce]at qw;rw[k1]at qw;simp[Eg,Eh,Qt,Qd,Qj,Qp,c1,c2,c3,c4,c5,c6,k1,yD];refine⟨k63,?_⟩;rw[hw];simp only[dJ,eF,eG,eB];rw[k1];exact qw
 by_cases k2:o.ki=2
 ·have hw:Yc o={o with n:=0,nw:=dJ,cl:=eF,cu:=eG}:=by unfold Yc;rw[if_neg k1,if_pos k2]
  have hr:(if o.ki<1\/5<o.ki then false else if o.ki=1/\(o.n< -100000000\/100000000<o.n)then false else okB o&&zM o (Yc o))=(ez o.en&&zM o (Yc o)):=by
   rw[if_neg zE,if_neg zE];unfold okB;rw[if_neg k1,if_pos k2]
  rw[hr];have qw:=k67 .nil;rw[hw]at qw;simp only[dJ,eF,eG,eB,zzce]at qw;rw[k2]at qw;simp[Eg,Eh,Qt,Qd,Qj,Qp,c1,c2,c3,c4,c5,c6,k2,yD];refine⟨k63,?_⟩;rw[hw];simp only[dJ,eF,eG,eB];rw[k2];exact qw
 by_cases k3:o.ki=3
 ·have hw:Yc o={o with en:=0,n:=0,cl:=eF,cu:=eG}:=by unfold Yc;rw[if_neg k1,if_neg k2,if_pos k3]
  have hr:(if o.ki<1\/5<o.ki then false else if o.ki=1/\(o.n< -100000000\/100000000<o.n)then false else okB o&&zM o (Yc o))=(yb o.nw&&zM o (Yc o)):=by
   rw[if_neg zE,if_neg zE];unfold okB;rw[if_neg k1,if_neg k2,if_pos k3]
  rw[hr];have qw:=k67 .ro;rw[hw]at qw;simp only[eF,eG,eB]at qw;rw[k3]at qw;simp[Eg,Eh,Qt,Qd,Qj,Qp,c1,c2,c3,c4,c5,c6,k3,yD];refine⟨k64,?_⟩;rw[hw];simp only[eF,eG,eB];rw[k3];exact qw
 by_cases k4:o.ki=4
 ·have hw:Yc o={o with en:=0,n:=0,nw:=dJ,cu:=eG}:=by unfold Yc;rw[if_neg k1,if_neg k2,if_neg k3,if_pos k4]
  have hr:(if o.ki<1\/5<o.ki then false else if o.ki=1/\(o.n< -100000000\/100000000<o.n)then false else okB o&&zM o (Yc o))=(Xe o.cl&&zM o (Yc o)):=by
   rw[if_neg zE,if_neg zE];unfold okB;rw[if_neg k1,if_neg k2,if_neg k3,if_pos k4]
  rw[hr];have qw:=k67 .nil;rw[hw]at qw;simp only[dJ,eG,eB,zzce]at qw;rw[k4]at qw;simp[Eg,Eh,Qt,Qd,Qj,Qp,c1,c2,c3,c4,c5,c6,k4,yD];refine⟨k65,?_⟩;rw[hw];simp only[dJ,eG,eB];rw[k4];exact qw
 by_cases k5:o.ki=5
 ·have hw:Yc o={o with en:=0,n:=0,nw:=dJ,cl:=eF}:=by unfold Yc;rw[if_neg k1,if_neg k2,if_neg k3,if_neg k4,if_pos k5]
  have hr:(if o.ki<1\/5<o.ki then false else if o.ki=1/\(o.n< -100000000\/100000000<o.n)then false else okB o&&zM o (Yc o))=(uN o.cu&&zM o (Yc o)):=by
   rw[if_neg zE,if_neg zE];unfold okB;rw[if_neg k1,if_neg k2,if_neg k3,if_neg k4]
  rw[hr];have qw:=k67 .nil;rw[hw]at qw;simp only[dJ,eF,zzce]at qw;rw[k5]at qw;simp[Eg,Eh,Qt,Qd,Qj,Qp,c1,c2,c3,c4,c5,c6,k5,yD];refine⟨k66,?_⟩;rw[hw];simp only[dJ,eF];rw[k5];exact qw
 have hw:Yc o={o with en:=0,n:=0,nw:=dJ,cl:=eF,cu:=eG}:=by unfold Yc;rw[if_neg k1,if_neg k2,if_neg k3,if_neg k4,if_neg k5]
 have qw:=k67 .nil;rw[hw]at qw;simp only[dJ,eF,eG,eB,zzce]at qw;rw[if_pos zE];simp[Eg,Eh,Qt,Qd,Qj,Qp,c1,c2,c3,c4,c5,c6,k1,k2,k3,k4,k5,yD];rw[hw];simp only[dJ,eF,eG,eB];exact qw
end
end Go.Proofs.YtfliagpjbbkijaaGreatDoor
namespace Go.Proofs.YtfliagpjbbkijaaGreatDoor
noncomputable section
open Go Go.Abs
def BP:∀(k z i:Nat),z<128 ^ i->0<i->(qi k z).length<=i
 |0,z,i,h,hi=>zzbe _
 |k+1,z,i,h,hi=>by
  rw[qi];split
  ·simp;omega
  rename_i hz;obtain⟨j,rfl⟩:∃j,i=j+1:=⟨i-1,zE⟩
  have hj:0<j:=by
   rcases zzbx j with rfl|h0
   ·simp at h;omega
   exact h0
  rw[zzde,zzcc]at h;have:=BP k (z/128) j (zzdr h) hj;rw[zzba];omega
variable {gl:Nat->AV}
def H9{n:Int}(h1: -4611686018427387904<=n)(h2:n<=4611686018427387903):Pure Tryz.prog gl 130 [I n] (.int .u64 (iK n)):=by
 refine Qm acp (fun _ _ _=>.junk) zd ?_;by_cases gK:n<0
 ·have v1:IntKind.i64.wrap (-n)= -n:=by rw[Qh]<;>omega
  have v2:IntKind.u64.wrap (-n)= -n:=by rw[zP]<;>omega
  have v3:IntKind.u64.wrap (-n*2)= -n*2:=by rw[zP]<;>omega
  have v4:IntKind.u64.wrap (-n*2-1)=(iK n:Int):=by unfold iK;rw[if_pos gK,zP]<;>omega
  simp[TC,TD,gK,v1,v2,v3,v4]
 have v2:IntKind.u64.wrap n=n:=by rw[zP]<;>omega
 have v4:IntKind.u64.wrap (n*2)=(iK n:Int):=by unfold iK;rw[if_neg gK,zP]<;>omega
 simp[TC,TD,gK,v2,v4]
def byR(b:Nat):P1:=[.int .u8 b]
def au1(ls:P2)(rt:Rt)(n:Nat):Prop:=(n=0/\rt=.nil/\ls=[])\/(0<n/\rt=.own 0 1/\ls=[n])
def iq(n:Int):ByteArray:=if n< -4611686018427387903\/4611686018427387903<n then⟨#[]⟩else dh (aN n)
def Ss(n:Int):Int:=if n< -4611686018427387903\/4611686018427387903<n then 10 else 0
def Ia(n:Int):AV:=.aS [.str (iq n),I (Ss n)]
def Ms(l:P2):Yj (l.map byR)=some (l.map UInt8.ofNat):=nW l
def yE{n:Int}(h1: -4611686018427387904<=n)(h2:n<=4611686018427387903):Pure Tryz.prog gl 77 [I n] (Ia n):=by
 have kz:=H9 (gl:=gl) h1 h2;refine Qm ak6 (fun _ _ _=>.int .u64 (iK n)) zd ?_;unfold Ia iq Ss;by_cases hn:n< -4611686018427387903
 ·rw[if_pos (.inl hn),if_pos (.inl hn)];simp[ak5,I2,hn]
 have eL:¬4611686018427387903<n:=zE
 rw[if_neg zE,if_neg zE];have hz:iK n<128 ^ 9:=Me ⟨by unfold qj;omega,by unfold qj;omega⟩;simp[ak5,I2,hn,eL];refine⟨kz,?_⟩;refine Qk Ep (fun f mm=>∃(k z:Nat)(o:P2)(rt:Rt)(ls:P2),f 4=.int .u64 z/\f 5=.sl rt (o.map byR)/\au1 ls rt o.length/\0<k/\o.length+k<=9/\z<128 ^ k/\z<9223372036854775808/\o++qi k z=aN n/\mm=⟨[],ls,fun _=>.gone,0⟩) (fun f _=>(numOf (f 4)).toNat) ?_ ?_
 ·exact⟨9,iK n,[],.nil,[],zd,zd,.inl ⟨rfl,rfl,rfl⟩,zE,zd,hz,hz,rfl,rfl⟩
 rintro f mm ⟨k,z,o,rt,ls,f4,f5,hO,hk,bY,hz,hz6,hg,rfl⟩;obtain⟨k,rfl⟩:∃j,k=j+1:=⟨k-1,zE⟩;rw[qi]at hg;by_cases hc:z<128
 ·rw[if_pos hc]at hg;have kj:¬(128:Int)<=(z:Int):=zE
  have w1:IntKind.u8.wrap (z:Int)=z:=wr8 zE zE
  have hb:Yj (o.map byR++[[AV.int .u8 (z:Int)]])=some ((aN n).map UInt8.ofNat):=by
   rw[<- hg,<- Ms];simp[byR]
  obtain⟨h0,rfl,rfl⟩|⟨h0,rfl,rfl⟩:=hO
  ·obtain rfl:o=[]:=zzbl.1 h0;simp[f4,f5,kj,w1,Ep,I2];rw[<- hg];try rfl
  simp[f4,f5,kj,w1,Ep,I2];rw[hb];exact⟨⟨by rintro row (⟨a,_,rfl⟩|rfl)<;>rfl,zE⟩,trivial,rfl⟩
 rw[if_neg hc]at hg;have kj:(128:Int)<=(z:Int):=zE
 have w1:(z:Int).tmod 128=(z:Int)%128:=zzea zE;have w2:IntKind.u64.wrap ((z:Int)%128+128)=(z:Int)%128+128:=zP zE zE;have w3:IntKind.u8.wrap ((z:Int)%128+128)=((z%128+128:Nat):Int):=by rw[wr8]<;>omega
 have w4:IntKind.u64.wrap ((z:Int)/128)=((z/128:Nat):Int):=by rw[zP]<;>omega
 have AJ:0<k:=by
  rcases zzbx k with rfl|h0
  ·simp at hz;omega
  exact h0
 have VE:z/128<128 ^ k:=by
  rw[zzde,zzcc]at hz;exact zzdr hz
 obtain⟨h0,rfl,rfl⟩|⟨h0,rfl,rfl⟩:=hO
 ·obtain rfl:o=[]:=zzbl.1 h0;simp[f4,f5,kj,w1,w2,w3,w4,Ep,I2];exact⟨ag (by repeat(first|exact Qa _ _|refine Qb _ rfl ?_)),⟨k,z/128,zE,[z%128+128],_,⟨rfl,by simp[byR]⟩,_,.inr ⟨zd,rfl,rfl⟩,AJ,by simp at bY |-;omega,VE,zE,hg,rfl⟩,zE⟩
 simp[f4,f5,kj,w1,w2,w3,w4,Ep,I2];exact⟨⟨by rintro row (⟨a,_,rfl⟩|rfl)<;>rfl,zE⟩,ag (by repeat(first|exact Qa _ _|refine Qb _ rfl ?_)),⟨k,z/128,zE,o++[z%128+128],_,⟨rfl,by simp[byR]⟩,_,.inr ⟨zd,rfl,zd⟩,AJ,by simp at bY |-;omega,VE,zE,Nm hg,rfl⟩,zE⟩
def Mt{z:Nat}(h:z<9223372036854775808): -4611686018427387904<=jV z/\jV z<=4611686018427387903:=by
 unfold jV;split<;>omega
def aaZ{s:ByteArray}{a d:Nat}{l:P2}(h:a+d<=s.size)(hl:∀x∈l,x<256):(dh l=s.extract a (a+d))<->((aU s).drop a).take d=l:=by
 rw[DS s a d h];constructor
 ·intro e;have:=congrArg aU e;rw[O4 hl,O4]at this
  ·exact this.symm
  exact fun x hx=>Jj s x (zzec (zzdq hx))
 rintro rfl;rfl
def agm{s:ByteArray}{a i Z b:Nat}(hz:Z<9223372036854775808)(hai:a+i<s.size)(di:b=0->Z<128 ^ i)(hR:th 9 ((aU s).drop a) 0 0=if b=0/\0<i then none else some (Z,i+1)):
  Kr (fO (aU s) a)=if¬Ss (jV Z)=0\/¬(iq (jV Z)).toList=(s.extract a (a+(i+1))).toList then .aS [I 0,I 0,I 10]else .aS [I (jV Z),I ((a+(i+1):Nat):Int),I 0]:=by
 have bT:=Mt hz;by_cases hE:jV Z< -4611686018427387903
 ·have hr:fO (aU s) a=none:=by
   unfold fO;rw[hR];split
   ·rename_i h;rfl
   rename_i z n h;split at h
   ·cases h
   cases h;rw[if_pos (by unfold qj;exact hE)]
  rw[hr,if_pos (.inl (by unfold Ss;rw[if_pos (.inl hE)];decide))];try rfl
 have e1:Ss (jV Z)=0:=by unfold Ss;rw[if_neg zE]
 have e2:iq (jV Z)=dh (qi 9 Z):=by unfold iq;rw[if_neg zE,aN,OX]
 have hg:∀x∈qi 9 Z,x<256:=fun x hx=>by
  have:qi 9 Z=(O1 9 Z).map yW:=(DQ 9 Z).symm;rw[this]at hx;obtain⟨y,hy,rfl⟩:=zzbk.1 hx;have:=Mf 9 Z y hy;unfold yW;split<;>omega
 have hk:=aaZ (s:=s) (a:=a) (d:=i+1) (l:=qi 9 Z) zE hg
 have hl:(dh (qi 9 Z)).toList=(s.extract a (a+(i+1))).toList<->((aU s).drop a).take (i+1)=qi 9 Z:=by
  rw[<- hk,ByteArray.toList_eq,ByteArray.toList_eq];exact⟨fun h=>ByteArray.ext (Array.toList_inj.1 h),fun h=>by rw[h]⟩
 rw[e1,e2];by_cases hc:b=0/\0<i
 ·have aK:¬((aU s).drop a).take (i+1)=qi 9 Z:=fun e=>by
   have h1:=BP 9 Z i (di hc.1) hc.2;rw[<- e,zzav,zzcw,Xo]at h1;omega
  rw[if_pos hc]at hR;rw[if_pos (.inr (by rw[hl];exact aK))];unfold fO;rw[hR];try rfl
 rw[if_neg hc]at hR;obtain⟨y,y1,y2,y3,y4,y5⟩:=Mc 9 ((aU s).drop a) 0 0 Z (i+1) (fun x hx=>Jj s x (zzec hx)) hR;simp only[zzbn,zzhq,Nat.mul_one,zzef]at y1 y5;subst y1;rw[if_neg (by rw[hl];exact fun h=>h.elim (fun h=>h rfl) (fun h=>h y5))];unfold fO;rw[hR];simp only;rw[if_neg (by unfold qj;exact hE)];try rfl
def ajK(s:ByteArray)(a:Nat)(ha:a<=s.size)(hs:s.size<=1000000):Pure Tryz.prog gl 78 [.str s,I a] (Kr (fO (aU s) a)):=by
 have kp:=fun z(hz:z<9223372036854775808)=>yE (gl:=gl) (Mt hz).1 (Mt hz).2;refine Qm ak8 (fun _ _ l=>match l with|[.int _ n]=>Ia n|_=>.junk) zd ?_;have h1:¬((a:Int)<0):=zE
 have h2:¬((s.size:Int)<(a:Int)):=zE
 have eX:∀r,th 9 ((aU s).drop a) 0 0=r->fO (aU s) a=match r with
   |none=>none
   |some (z,n)=>if jV z< -qj then none else some (jV z,a+n):=fun r h=>by unfold fO;rw[h]<;>rfl
 have aH:=Xo s;simp[ak7,Ti,h1,h2];refine Qk MN (fun f mm=>∃i z:Nat,f 8=I i/\f 7=.int .u64 z/\i<=9/\z<128 ^ i/\a+i<=s.size/\th 9 ((aU s).drop a) 0 0=th (9-i) ((aU s).drop (a+i)) i z/\mm=⟨[],[],fun _=>.gone,0⟩) (fun f _=>10-(numOf (f 8)).toNat) ?_ ?_
 ·exact⟨0,0,zd,zd,zE,zd,zE,rfl,rfl⟩
 rintro f mm ⟨i,z,h8,h7,hi,hz,hai,hR,rfl⟩;have gm:IntKind.i64.wrap ((a:Int)+i)=(a:Int)+i:=by rw[Qh]<;>omega
 by_cases c1:i<9
 ·have c1':(i:Int)<9:=zE
  by_cases c2:a+i<s.size
  ·have c2':(a:Int)+i<s.size:=zE
   obtain⟨b,hb⟩:∃b,(aU s)[a+i]?=some b:=⟨_,zzac zE⟩;have gI:=Jj s b (zzad hb)
   have hd:(aU s).drop (a+i)=b::(aU s).drop (a+i+1):=by
    rw[zzae zE,(zza.1 hb).2]
   obtain⟨k,hk⟩:∃k,9-i=k+1:=⟨8-i,zE⟩;rw[hd,hk,th]at hR
   have anQ:z<9223372036854775808:=zzan hz (by
    have:128 ^ i<=128 ^ 9:=zzds zE zE;exact this)
   have hm:b%128*128 ^ i<9223372036854775808:=by
    have h1:b%128*128 ^ i<128*128 ^ i:=zzgg (zzdk _ zE) (Nat.pow_pos zE);have h2:128*128 ^ i<=128 ^ 9:=by rw[zzcc,<- zzde];exact zzds zE zE
    exact zzan h1 h2
   have dR:z+b%128*128 ^ i<128 ^ (i+1):=by
    have h1:(b%128+1)*128 ^ i<=128*128 ^ i:=zzbb _ zE;rw[zzbi,zzdp]at h1;rw[zzde,zzcc _ 128];omega
   have auO:z+b%128*128 ^ i<9223372036854775808:=zzan dR (by
    have:128 ^ (i+1)<=128 ^ 9:=zzds zE zE;exact this)
   have hw7:IntKind.i64.wrap (7*(i:Int))=7*i:=by rw[Qh]<;>omega
   have hq:(s.data[((a:Int)+(i:Int)).toNat]?.getD 0).toNat=b:=by
    rw[show((a:Int)+(i:Int)).toNat=a+i by omega];have h1:(s.data.toList.map UInt8.toNat)[a+i]?=some b:=hb;rw[zzbc,zzb]at h1;obtain⟨y,hy,rfl⟩:=h1;rw[zzby]at hy;rw[hy];try rfl
   have rj:=bO i zE;have wb:IntKind.u64.wrap (b:Int)=b:=zP zE zE
   have ho:IntKind.u64.wrap ((z:Int)+IntKind.u64.wrap ((b:Int).tmod 128*2 ^ min (7*(i:Int)).toNat IntKind.u64.bits))=((z+b%128*128 ^ i:Nat):Int):=by
    rw[show min (7*(i:Int)).toNat IntKind.u64.bits=7*i from by show min (7*(i:Int)).toNat 64=_;omega,zzea zE]
    have e1:(b:Int)%128*2 ^ (7*i)=((b%128*128 ^ i:Nat):Int):=by
     rw[show(128:Nat)=2 ^ 7 from rfl,<- Nat.pow_mul];push_cast;rfl
    rw[e1,zP (n:=((b%128*128 ^ i:Nat):Int)) zE zE,zP zE zE];omega
   generalize hZ:z+b%128*128 ^ i=Z at*
   have aa0:Z<9223372036854775808:=auO;have w6:(Z:Int).tmod 2=(Z:Int)%2:=zzea zE;have w7:(Z:Int).tdiv 2=(Z:Int)/2:=zzca zE;have w1:IntKind.u64.wrap ((Z:Int)/2)=(Z:Int)/2:=zP zE zE;have w2:IntKind.i64.wrap ((Z:Int)/2)=(Z:Int)/2:=by rw[Qh]<;>omega
   have w3:IntKind.i64.wrap (-((Z:Int)/2))= -((Z:Int)/2):=by rw[Qh]<;>omega
   have w4:IntKind.i64.wrap (-((Z:Int)/2)-1)= -((Z:Int)/2)-1:=by rw[Qh]<;>omega
   have w5:IntKind.i64.wrap ((a:Int)+i+1)=((a+(i+1):Nat):Int):=by rw[Qh]<;>omega
   simp[h8,h7,c1',c2',gm,hw7,hq,wb,ho,MN,Ti,Ia,w6,w7,w1,w2,w3,w4,w5];refine⟨zE,zE,?_⟩;by_cases dI:128<=b
   ·rw[if_pos dI]at hR;rw[if_pos zE];rw[Qh zE zE];exact⟨ag (by repeat(first|exact Qa _ _|refine Qb _ rfl ?_)),⟨i+1,zE,Z,rfl,zE,dR,zE,by rw[hR,show 9-(i+1)=k by omega,zzas]⟩,zE⟩
   rw[if_neg dI]at hR;rw[if_neg zE];rw[agm aa0 zE (fun h=>by rw[h]at hZ;simp at hZ;omega) hR];have hzg:(if(Z:Int)%2=1 then -((Z:Int)/2)-1 else(Z:Int)/2)=jV Z:=by unfold jV;split<;>split<;>omega
   have hpe:(a:Int)<=(a:Int)+((i:Int)+1)/\(a:Int)+((i:Int)+1)<=s.size:=zE
   have fin:if¬Ss (jV Z)=0\/¬(iq (jV Z)).toList=(s.extract a ((a:Int)+((i:Int)+1)).toNat).toList then
     AV.aS [AV.int IntKind.i64 0,AV.int IntKind.i64 0,AV.int IntKind.i64 10]=if¬Ss (jV Z)=0\/¬(iq (jV Z)).toList=(s.extract a (a+(i+1))).toList then .aS [I 0,I 0,I 10]else .aS [I (jV Z),I ((a+(i+1):Nat):Int),I 0]
    else AV.aS [AV.int IntKind.i64 (jV Z),AV.int IntKind.i64 ((a:Int)+((i:Int)+1)),AV.int IntKind.i64 0]=if¬Ss (jV Z)=0\/¬(iq (jV Z)).toList=(s.extract a (a+(i+1))).toList then .aS [I 0,I 0,I 10]else .aS [I (jV Z),I ((a+(i+1):Nat):Int),I 0]:=by
    rw[show((a:Int)+((i:Int)+1)).toNat=a+(i+1) by omega];split
    ·rfl
    push_cast;rfl
   by_cases hp:(Z:Int)%2=1
   ·rw[if_pos hp]at hzg |-
    rw[hzg];exact⟨kp Z aa0,fun _=>hpe,fin⟩
   rw[if_neg hp]at hzg |-
   rw[hzg];exact⟨kp Z aa0,fun _=>hpe,fin⟩
  have c2':¬((a:Int)+i<s.size):=zE
  have hd:(aU s).drop (a+i)=[]:=zzaj zE
  have KU:th 9 ((aU s).drop a) 0 0=none:=by
   rw[hR,hd];cases 9-i<;>rfl
  rw[eX _ KU];simp[h8,h7,c1',c2',gm,MN,Ti,Kr]
 obtain rfl:i=9:=zE
 have KU:th 9 ((aU s).drop a) 0 0=none:=hR;rw[eX _ KU];simp[h8,h7,MN,Ti,Kr]
def aa1(s:ByteArray)(a:Nat)(ha:a<=s.size)(hs:s.size<=1000000):Pure Tryz.prog gl 80 [.str s,I a] (BL (BK (aU s) a)):=by
 have k:=ajK (gl:=gl) s a ha hs;refine Qm ala (fun _ _ _=>Kr (fO (aU s) a)) zd ?_;cases h:fO (aU s) a with
 |none=>
  rw[h]at k;have hr:BK (aU s) a=none:=by unfold BK;rw[h]
  rw[hr];simp[Px,Py,Kr,BL];exact k
 |some x=>
  obtain⟨n,d⟩:=x;rw[h]at k;obtain⟨q1,q2,q3,q4⟩:=Qaj (Jj s) h;rw[Xo]at q4;simp only[bw,qj]at q1;have hw:IntKind.i64.wrap ((s.size:Int)-d)=(s.size:Int)-d:=by rw[Qh]<;>omega
  have hr:BK (aU s) a=if n<0\/65536<n\/(s.size:Int)-d<n then none else some (((aU s).drop d).take n.toNat,d+n.toNat):=by unfold BK;rw[h,Xo]
  rw[hr];by_cases c1:n<0
  ·rw[if_pos zE];simp[Px,Py,Kr,BL,c1];exact k
  by_cases c2:65536<n
  ·rw[if_pos zE];simp[Px,Py,Kr,BL,c1,c2];exact k
  by_cases c3:(s.size:Int)-d<n
  ·rw[if_pos zE];simp[Px,Py,Kr,BL,c1,c2,hw,c3];exact k
  rw[if_neg zE];have eY:IntKind.i64.wrap ((d:Int)+n)=(d:Int)+n:=by rw[Qh]<;>omega
  have he:=DS s d n.toNat zE;simp[Px,Py,Kr,BL,c1,c2,hw,c3,eY];exact⟨k,⟨zE,zE⟩,by rw[show((d:Int)+n).toNat=d+n.toNat by omega];exact he,zE⟩
def Ib(t:ByteArray)(ht:t.size<=65536):Pure Tryz.prog gl 39 [.str t] (.aS [.str (dh (aN t.size++aU t)),I 0]):=by
 have k:=yE (gl:=gl) (n:=(t.size:Int)) zE zE;have e1:iq (t.size:Int)=dh (aN t.size):=by unfold iq;rw[if_neg zE]
 rw[Ia,e1,show Ss (t.size:Int)=0 by unfold Ss;rw[if_neg zE]]at k;refine Qm akq (fun _ _ _=>.aS [.str (dh (aN t.size)),I 0]) zd ?_;have h:¬(65536:Int)<t.size:=zE
 have hl:=Uo (aN t.size);have h9:=Qbw 9 (iK (t.size:Int));simp[apr,aps,h];exact⟨k,by unfold aN at*;omega,(O5 _ _).symm⟩
def St(e:En):Pi:=[e.id,e.it,e.fr,e.ea,e.la,e.bo,(e.al.length:Int)]++Zd e.al
def clN(c:Cl):Pi:=[c.ki,c.it,c.fr,c.to,c.re,c.n,c.a,c.b]
def ua(c:Cl):Pure Tryz.prog aD 38 [.agg (Qj c)] (.sl .ro ((clN c).map Qy)):=by
 refine Zc (Qm (r:=.sl .full ((clN c).map Qy)) akp (fun _ _ _=>.junk) zd ?_) (Wk.sl _ _);simp[apo,apq,Qj,clN,Qy]
def yF(e:En)(hl:e.al.length<=1000):Pure Tryz.prog aD 37 [.agg (Qd e)] (.sl .ro ((St e).map Qy)):=by
 have key:∃rt,Pure Tryz.prog aD 37 [.agg (Qd e)] (.sl rt ((St e).map Qy)):=by
  refine⟨if e.al=[]then .full else .ro,Qm ako (fun _ _ _=>.junk) zd ?_⟩;simp[akm,Qd];refine Qk Ei (fun f mm=>∃(i:Nat)(o:Pi)(rt:Rt)(ls:P2),f 4=I i/\i<=e.al.length/\f 3=.sl rt (o.map Qy)/\o++Zd (e.al.drop i)=St e/\o.length=7+2*i/\(i=0/\rt=.full/\ls=[]\/0<i/\rt=.own 0 1/\ls=[7+2*i])/\mm=⟨[Qd e],ls,fun _=>.gone,0⟩) (fun f _=>e.al.length-(numOf (f 4)).toNat) ?_ ?_
  ·exact⟨0,[e.id,e.it,e.fr,e.ea,e.la,e.bo,e.al.length],.full,[],zd,zE,by simp[Qy],rfl,rfl,.inl ⟨rfl,rfl,rfl⟩,rfl⟩
  rintro f mm ⟨i,o,rt,ls,f4,hi,f3,ho,XC,hO,rfl⟩;rcases zzab i e.al.length with ah|bu
  ·obtain⟨a,ha⟩:=aX ah;have ai:Qf (e.al.map Qe) i=Qe a:=Qv (by simp[ha]);have aa:(i:Int)<(e.al.length:Int):=zE
   have hw:IntKind.i64.wrap ((i:Int)+1)=(i:Int)+1:=by rw[Qh]<;>omega
   have hd:o++[a.1,a.2]++Zd (e.al.drop (i+1))=St e:=by
    rw[<- ho,zzae ah,(zza.1 ha).2,Zd,zzbd];try rfl
   obtain⟨rfl,rfl,rfl⟩|⟨h0,rfl,rfl⟩:=hO
   ·have KF:IntKind.i64.wrap 1=1:=by decide
    have bL:(0:Int)<(e.al.length:Int):=zE
    simp[f4,f3,Ei,bL,ah,ai,KF,Qd,Qe];refine⟨⟨?_,zE⟩,ag (by repeat(first|exact Qa _ _|refine Qb _ rfl ?_)),⟨1,rfl,zE,o++[a.1,a.2],_,⟨rfl,by simp[Qy]⟩,hd,by simp;omega,zE,rfl,zE⟩,zE⟩;rintro row (⟨a,_,rfl⟩|rfl|rfl)<;>rfl
   simp[f4,f3,Ei,aa,ah,ai,hw,Qd,Qe];refine⟨⟨zE,?_,zE⟩,ag (by repeat(first|exact Qa _ _|refine Qb _ rfl ?_)),⟨i+1,zE,zE,o++[a.1,a.2],_,⟨rfl,by simp[Qy]⟩,hd,by simp;omega,zE,rfl,zE⟩,zE⟩;rintro row (⟨a,_,rfl⟩|rfl|rfl)<;>rfl
  obtain rfl:i=e.al.length:=zE
  rw[zzbz]at ho;have dg:o=St e:=by rw[<- ho];simp[Zd]
  subst dg;obtain⟨h0,rfl,rfl⟩|⟨h0,rfl,rfl⟩:=hO
  ·have hn:e.al=[]:=zzbl.1 h0;simp[f4,f3,Ei,akn,Qd,hn]
  have hn:e.al≠[]:=fun h=>by rw[h]at h0;simp at h0
  simp[f4,f3,Ei,akn,Qd,hn]
 obtain⟨rt,h⟩:=key;exact Zc h (Wk.sl _ _)
def D1:∀l:Pi,(aR l).length<=9*l.length
 |[]=>by simp[aR]
 |n::r=>by
  have h1:=D1 r;have h2:(aN n).length<=9:=Qbw _ _;have h3:aR (n::r)=aN n++aR r:=rfl;rw[h3,zzal,zzba];omega
def Su(l:Pi)(hl:l.length<=100000)(bY:∀n∈l,bw n):Pure Tryz.prog aD 40 [.sl .ro (l.map Qy)] (.str (dh (aR l))):=by
 refine Qm aks (fun _ _ a=>match a with|[.int _ n]=>Ia n|_=>.junk) zd ?_;simp[akr];refine Qk S5 (fun f mm=>∃i:Nat,f 4=I i/\i<=l.length/\f 3=.str (dh (aR (l.take i)))/\mm=⟨[],[],fun _=>.gone,0⟩) (fun f _=>l.length-(numOf (f 4)).toNat) ?_ ?_
 ·exact⟨0,zd,zE,by simp[aR,dh],rfl⟩
 rintro f mm ⟨i,f4,hi,f3,rfl⟩;rcases zzab i l.length with ah|bu
 ·obtain⟨n,hn⟩:=aX ah;have ai:Qf (l.map Qy) i=[I n]:=Qv (by simp[hn,Qy]);have aa:(i:Int)<(l.length:Int):=zE
  have hw:=bO i zE;obtain⟨h1,h2⟩:=bY n (zzad hn);unfold qj at h1 h2;have k:=yE (gl:=aD) (n:=n) zE zE;have e1:iq n=dh (aN n):=by unfold iq;rw[if_neg zE]
  have e2:Ss n=0:=by unfold Ss;rw[if_neg zE]
  have hsz:(dh (aR (l.take i))).size+(dh (aN n)).size<=9223372036854775807:=by
   rw[Uo,Uo];have h1:=D1 (l.take i);have h2:=Qbw 9 (iK n);rw[zzav]at h1;unfold aN;omega
  have hap:dh (aR (l.take i))++dh (aN n)=dh (aR (l.take (i+1))):=by
   rw[zzap,hn];simp[aR,dh,ByteArray.ext_iff]
  rw[Ia,e1,e2]at k;simp[f4,f3,S5,aa,ah,ai,hw,Ia,e1,e2,hap];exact⟨k,hsz,ag (by repeat(first|exact Qa _ _|refine Qb _ rfl ?_)),⟨i+1,zE,zE,rfl⟩,zE⟩
 obtain rfl:i=l.length:=zE
 rw[zzbp]at f3;simp[f4,f3,S5,apt]
def ir(v:Bool)(l e c:Pi)(tx:ByteArray):X1:=fun _ f _=>if f=15 then .bool v else if f=40 then .str (dh (aR l))else if f=37 then .sl .ro (e.map Qy)else if f=38 then .sl .ro (c.map Qy)else .aS [.str (dh (aN tx.size++aU tx)),I 0]
def aa2(a b:P2):dh (a++b)=dh a++dh b:=by simp[dh,ByteArray.ext_iff]
def aa3(o:Od)(ht:o.cu.tx.size<=600)(ha:o.nw.al.length<=1000):Pure Tryz.prog aD 13 [.agg (Qt o)] (Mr o):=by
 have kv:=D0 o zE;have k37:=yF o.nw ha;have k38:=ua o.cl;have k39:=Ib (gl:=aD) o.cu.tx zE;unfold Mr;cases hv:Xp o with
 |false=>
  rw[if_neg (by decide)];rw[hv]at kv;refine Qm qx (ir false [] [] [] ⟨#[]⟩) zd ?_;simp[IK,IL,ir,hv,Qt,Qd,Qj,Qp];exact kv
 |true=>
  rw[if_pos rfl];rw[hv]at kv;obtain⟨-,hk,-⟩:=vO5 hv;obtain⟨v1,v2,v3,-⟩:=Mh hv zE;have app:∀{a b:Pi},(∀n∈a,bw n)->(∀n∈b,bw n)->∀n∈a++b,bw n:=fun h1 h2 n hn=>(zzat.1 hn).elim (h1 n) (h2 n);have kn:=fun l(h1:l.length<=100000)(h2:∀n∈l,bw n)=>Su l h1 h2
  have fin:∀(L:Pi)(T:P2),L.length<=3000->T.length<=1000->aR L++T=Ya o->(dh (aR L)).size+(dh T).size<=9223372036854775807/\dh (aR L)++dh T=dh (Ya o):=fun L T h1 h2 h3=>by
   have:=D1 L;rw[Uo,Uo,<- h3,aa2];exact⟨zE,rfl⟩
  obtain⟨sq,ch,fr,ki,en,n,⟨w1,w2,w3,w4,w5,w6,al⟩,⟨c1,c2,c3,c4,c5,c6,c7,c8⟩,⟨d1,d2,d3,d4,tx⟩⟩:=o;simp only at hk ht ha;have h9:=Qbw 9 (iK (tx.size:Int));rcases(show ki=1\/ki=2\/ki=3\/ki=4\/ki=5 by omega)with rfl|rfl|rfl|rfl|rfl
  ·have k:=kn [sq,ch,fr,1,en,n] zd (app v1 v2);have f:=fin [sq,ch,fr,1,en,n] [] zd zd (by simp[Ya,aR,dH,cM,lM,yX]);refine Qm qx (ir true [sq,ch,fr,1,en,n] [] [] ⟨#[]⟩) zd ?_;simp[IK,IL,ir,hv,Qt,Qd,Qj,Qp];exact⟨kv,k,f⟩
  ·have k:=kn [sq,ch,fr,2,en] zd (app v1 v2);have f:=fin [sq,ch,fr,2,en] [] zd zd (by simp[Ya,aR,dH,cM,lM,yX]);refine Qm qx (ir true [sq,ch,fr,2,en] [] [] ⟨#[]⟩) zd ?_;simp[IK,IL,ir,hv,Qt,Qd,Qj,Qp];exact⟨kv,k,f⟩
  ·have k:=kn ([sq,ch,fr,3]++St ⟨w1,w2,w3,w4,w5,w6,al⟩) (by simp[St,ql];omega) (app v1 (by have:=app v2 v3;exact this));have f:=fin ([sq,ch,fr,3]++St ⟨w1,w2,w3,w4,w5,w6,al⟩) [] (by simp[St,ql];omega) zd (by simp[Ya,aR,dH,cM,lM,yX,St]);refine Qm qx (ir true ([sq,ch,fr,3]++St ⟨w1,w2,w3,w4,w5,w6,al⟩) (St ⟨w1,w2,w3,w4,w5,w6,al⟩) [] ⟨#[]⟩) zd ?_;simp[IK,IL,ir,hv,Qt,Qd,Qj,Qp];exact⟨kv,k37,⟨fun _ _=>rfl,by simp[St,ql];omega⟩,k,f⟩
  ·have k:=kn [sq,ch,fr,4,c1,c2,c3,c4,c5,c6,c7,c8] zd (app v1 v2);have f:=fin [sq,ch,fr,4,c1,c2,c3,c4,c5,c6,c7,c8] [] zd zd (by simp[Ya,aR,dH,cM,lM,yX]);refine Qm qx (ir true [sq,ch,fr,4,c1,c2,c3,c4,c5,c6,c7,c8] [] (clN ⟨c1,c2,c3,c4,c5,c6,c7,c8⟩) ⟨#[]⟩) zd ?_;simp[IK,IL,ir,hv,Qt,Qd,Qj,Qp,clN,Qy];exact⟨kv,k38,k,f⟩
  have k:=kn [sq,ch,fr,5,d1,d2,d3,d4] zd (app v1 v2);have f:=fin [sq,ch,fr,5,d1,d2,d3,d4] (aN tx.size++aU tx) zd (by rw[zzal,Xo];unfold aN;omega) (by simp[Ya,aR,dH,cM,lM,yX]);refine Qm qx (ir true [sq,ch,fr,5,d1,d2,d3,d4] [] [] tx) zd ?_;simp[IK,IL,ir,hv,Qt,Qd,Qj,Qp];exact⟨kv,k39,k,f⟩
def fI(l:P2)(a:Nat)(e:Int):Int×Nat×Int:=if e=0 then(match fO l a with|none=>(0,a,10)|some (n,b)=>(n,b,0))else(0,a,e)
def nX(l:P2):Nat->Nat->Int->Pi×Nat×Int
 |0,a,e=>([],a,e)
 |c+1,a,e=>((fI l a e).1::(nX l c (fI l a e).2.1 (fI l a e).2.2).1,(nX l c (fI l a e).2.1 (fI l a e).2.2).2)
def Mu{l:P2}(hb:∀x∈l,x<256){a:Nat}{e:Int}(h:a<=l.length):(fI l a e).2.1<=l.length:=by
 unfold fI;split
 ·cases hr:fO l a with
  |none=>exact h
  |some x=>exact(Qaj (n:=x.1) (b:=x.2) hb hr).2.2.2
 exact h
def Ph(l:P2):∀(c a:Nat)(e:Int),e≠0->nX l c a e=(List.replicate c 0,a,e)
 |0,a,e,h=>rfl
 |c+1,a,e,h=>by
  have:fI l a e=(0,a,e):=by unfold fI;rw[if_neg h]
  rw[nX,this];simp only;rw[Ph l c a e h];try rfl
def Qaz(l:P2):∀(c a:Nat){ns:Pi}{b:Nat},dF c l a=some (ns,b)->nX l c a 0=(ns,b,0)
 |0,a,ns,b,h=>by cases h;rfl
 |c+1,a,ns,b,h=>by
  rw[dF]at h;cases hr:fO l a with
  |none=>rw[hr]at h;cases h
  |some x=>
   obtain⟨n,d⟩:=x;rw[hr]at h;obtain⟨⟨ms,f⟩,h1,h2⟩:=zzb.1 h;cases h2;have:fI l a 0=(n,d,0):=by unfold fI;rw[if_pos rfl,hr]
   rw[nX,this];simp only;rw[Qaz l c d h1]
def Qba(l:P2):∀(c a:Nat),dF c l a=none->(nX l c a 0).2.2=10/\(nX l c a 0).1.getD (c-1) 0=0
 |0,a,h=>by cases h
 |c+1,a,h=>by
  rw[dF]at h;cases hr:fO l a with
  |none=>
   have:fI l a 0=(0,a,10):=by unfold fI;rw[if_pos rfl,hr]
   rw[nX,this];simp only;rw[Ph l c a 10 (by decide)];refine⟨rfl,?_⟩;show((0:Int)::List.replicate c 0).getD c 0=0;rw[<- zzek,zzaq,zzcn];split<;>rfl
  |some x=>
   obtain⟨n,d⟩:=x;rw[hr]at h;simp only[Option.map_eq_none_iff]at h;have:fI l a 0=(n,d,0):=by unfold fI;rw[if_pos rfl,hr]
   rw[nX,this];simp only;have ih:=Qba l c d h;refine⟨ih.1,?_⟩
   match c,h,ih with
   |c+1,h,ih=>exact ih.2
def Ic{B:X2}{id:Nat}{r:P1}(h:Qf B id=r)(aL:id<B.length):B.set id r=B:=by
 subst h;rw[Qv (zzac aL)];exact List.set_getElem_self aL
def ajL{gl:Nat->AV}{Y:YT}{s:ByteArray}{a id:Nat}{e:Int}{m:AM}{K:UV}(ha:a<=s.size)(hs:s.size<=1000000)(aL:id<m.boxes.length)(hr:Qf m.boxes id=[.str s,I a,I e])
  (hK:K (I (fI (aU s) a e).1) {m with boxes:=m.boxes.set id [.str s,I (fI (aU s) a e).2.1,I (fI (aU s) a e).2.2]}):aF Tryz.prog gl Y 41 [.ptr id 0] m K:=by
 unfold fI at hK;by_cases he:e=0
 ·subst he;have k:=ajK (gl:=gl) s a ha hs;rw[if_pos rfl]at hK;cases h:fO (aU s) a with
  |none=>
   rw[h]at hK k;refine Xn IU (fun _ _ _=>Kr none) zd ?_;simp[abI,abJ,hr,aL,Kr];exact⟨k,hK⟩
  |some x=>
   obtain⟨n,b⟩:=x;rw[h]at hK k;refine Xn IU (fun _ _ _=>Kr (some (n,b))) zd ?_;simp[abI,abJ,hr,aL,Kr];exact⟨k,hK⟩
 rw[if_neg he]at hK;refine Xn IU (fun _ _ _=>.junk) zd ?_;simp[abI,abJ,hr,aL,he];simp only[Ic hr aL]at hK;exact hK
def txR(l:P2)(a:Nat)(e:Int):P2×Nat×Int:=if e=0 then(match BK l a with|none=>([],a,10)|some (t,b)=>(t,b,0))else([],a,e)
def an6{gl:Nat->AV}{Y:YT}{s:ByteArray}{a id:Nat}{e:Int}{m:AM}{K:UV}(ha:a<=s.size)(hs:s.size<=1000000)(aL:id<m.boxes.length)(hr:Qf m.boxes id=[.str s,I a,I e])
  (hK:K (.str (dh (txR (aU s) a e).1)) {m with boxes:=m.boxes.set id [.str s,I (txR (aU s) a e).2.1,I (txR (aU s) a e).2.2]}):aF Tryz.prog gl Y 44 [.ptr id 0] m K:=by
 unfold txR at hK;by_cases he:e=0
 ·subst he;have k:=aa1 (gl:=gl) s a ha hs;rw[if_pos rfl]at hK;cases h:BK (aU s) a with
  |none=>
   rw[h]at hK k;refine Xn IV (fun _ _ _=>BL none) zd ?_;simp[abL,abM,hr,aL,BL];exact⟨k,hK⟩
  |some x=>
   obtain⟨n,b⟩:=x;rw[h]at hK k;refine Xn IV (fun _ _ _=>BL (some (n,b))) zd ?_;simp[abL,abM,hr,aL,BL];exact⟨k,hK⟩
 rw[if_neg he]at hK;refine Xn IV (fun _ _ _=>.junk) zd ?_;simp[abL,abM,hr,aL,he];simp only[Ic hr aL]at hK;exact hK
def Ko{gl:Nat->AV}{Y:YT}{s:ByteArray}{a id:Nat}{e:Int}{m:AM}{K:UV}(ha:a<=s.size)(hs:s.size<=1000000)(aL:id<m.boxes.length)(hr:Qf m.boxes id=[.str s,I a,I e])
  (hK:∀(n:Int)(b:Nat)(f:Int),fI (aU s) a e=(n,b,f)->b<=s.size->K (I n) {m with boxes:=m.boxes.set id [.str s,I b,I f]}):aF Tryz.prog gl Y 41 [.ptr id 0] m K:=by
 have cw:=Mu (l:=aU s) (e:=e) (Jj s) (a:=a) (by rw[Xo];exact ha);rw[Xo]at cw;exact ajL ha hs aL hr (hK _ _ _ rfl cw)
variable {gl:Nat->AV} {Y:YT} {orc:X1}
def Yr{n d1 d2 d3 k x p id pb a:Nat}{e:Int}{s:ByteArray}{row:P1}{rest:SC}{E:QP}{B:X2}{L:P2}{st:Nat->LS}{ln:Nat}{Q:So}(ho:∀d l,orc d 41 l=.gd false .junk)(hd:d1<n/\d2<n/\d3<n/\x<n/\p<n)(aK:d1≠d2/\d2≠d3/\d1≠d3/\d1≠p/\d2≠p)
  (ex:Abs.look E x=.ptr id 0)(ep:Abs.look E p=.ptr pb 0)(hB:id≠pb/\id<B.length/\pb<B.length)(hr:Qf B id=[.str s,I a,I e])(hp:Qf B pb=row)(hk:k<row.length)(ha:a<=s.size)(hs:s.size<=1000000)
  (
   h:∀(v:Int)(b:Nat)(f:Int)(B':X2),fI (aU s) a e=(v,b,f)->b<=s.size->B'.length=B.length->Qf B' id=[.str s,I b,I f]->Qf B' pb=row.set k (I v)->(∀j,j≠id->j≠pb->Qf B' j=Qf B j)->
   vc Tryz.prog gl orc Y rest ⟨Za n ((d3,.ptr pb k)::(d2,I v)::(d1,.ptr id 0)::E),⟨B',L,st,ln⟩⟩ Q):
  vc Tryz.prog gl orc Y (.seq (.ops [⟨some d1,.mv (.tmp x),none,[]⟩,⟨some d2,.call (.func 41) [.tmp d1],none,[]⟩,⟨some d3,.faddr k (.tmp p),none,[]⟩,⟨none,.store 1 (.tmp d3) (.tmp d2),none,[]⟩]) rest) ⟨Za n E,⟨B,L,st,ln⟩⟩ Q:=by
 obtain⟨h1,h2,h3,h4,h5⟩:=hd;obtain⟨n1,n2,n3,n4,n5⟩:=aK;obtain⟨b1,b2,b3⟩:=hB;simp[ho,ex,h1,h2,h3,h4,h5,n1,n2,n3,n4,n5,ep];refine Ko ha hs b2 hr fun v b f hv hb=>?_;have hp':∀v,Qf (B.set id v) pb=row:=fun v=>by rw[Qx _ b1];exact hp
 simp[h1,h2,h3,h4,h5,n1,n2,n2.symm,n3,n4,n5,ep,b3,hp'];refine⟨zE,h v b f _ hv hb zd (by rw[Qx _ b1.symm,Xj _ b2]) ?_ fun j j1 j2=>by rw[Qx _ j2.symm,Qx _ j1.symm]⟩;rw[Xj _ (Nm b3)]
def ajM{l:P2}{a:Nat}{e:Int}(h:(fI l a e).2.2≠0):(fI l a e).1=0:=by
 unfold fI at*
 split
 ·rename_i h1;rw[if_pos h1]at h;split
  ·rfl
  rename_i h2;rw[h2]at h;exact absurd rfl h
 rfl
def ctR(l:P2)(a:Nat)(e:Int):Int×Nat×Int:=if(fI l a e).2.2=0/\((fI l a e).1<0\/7<(fI l a e).1)then(0,(fI l a e).2.1,110)else fI l a e
variable {gl:Nat->AV} {Y:YT} {s:ByteArray} {m:AM} {K:UV}
def agn{a id:Nat}{e:Int}(ha:a<=s.size)(hs:s.size<=1000000)(aL:id<m.boxes.length)(hr:Qf m.boxes id=[.str s,I a,I e])
  (hK:K (I (ctR (aU s) a e).1) {m with boxes:=m.boxes.set id [.str s,I (ctR (aU s) a e).2.1,I (ctR (aU s) a e).2.2]}):aF Tryz.prog gl Y 79 [.ptr id 0,I 7,I 110] m K:=by
 have h0:=@ajM (aU s) a e;unfold ctR at hK;refine Xn ak9 (fun _ _ _=>.gd false .junk) zd ?_;simp[apJ];refine ajL ha hs aL hr ?_;have hg:∀v,Qf (m.boxes.set id v) id=v:=fun v=>Xj _ aL;generalize fI (aU s) a e=r at*
 obtain⟨n,b,f⟩:=r;simp only at*
 by_cases hf:f=0
 ·subst hf;by_cases hc:n<0\/7<n
  ·rw[if_pos ⟨rfl,hc⟩]at hK;by_cases h1:n<0
   ·simp[Tj,hg,h1,aL];simpa using hK
   have h2:7<n:=zE
   simp[Tj,hg,h1,h2,aL];simpa using hK
  rw[if_neg (fun h=>hc h.2)]at hK;have h1:¬n<0:=zE
  have h2:¬7<n:=zE
  simp[Tj,hg,h1,h2,aL];exact hK
 rw[if_neg (fun h=>hf h.1)]at hK;rw[h0 hf]at hK;simp[Tj,hg,hf,aL];exact hK
def aa4{M:X2}{id:Nat}(z v row:P1)(aL:id<M.length):((M++[z]).set id v++[row]).length=M.length+2/\Qf ((M++[z]).set id v++[row]) id=v/\Qf ((M++[z]).set id v++[row]) (M.length+1)=row/\
  Qf ((M++[z]).set id v++[row]) M.length=z/\∀j,j≠id->j<M.length->Qf ((M++[z]).set id v++[row]) j=Qf M j:=by
 refine⟨zd,by rw[Qi (by simp;omega),Xj _ (by simp;omega)],?_,?_,fun j h1 h2=>by rw[Qi (by simp;omega),Qx _ h1.symm,Qi h2]⟩
 ·have:=Xt ((M++[z]).set id v) [row] 0;simp at this;exact this
 rw[Qi zd,Qx _ zE];have:=Xt M [z] 0;simp
def ajN:SC:=(⟨_,by cbv⟩:we [1,1] abK).1
def au2:SC:=(⟨_,fun _=>by cbv⟩:jh [1,1] abK).1 ajN
theorem ago:abK=au2:=rfl
def aa5{a id:Nat}{e:Int}(ha:a<=s.size)(hs:s.size<=1000000)(aL:id<m.boxes.length)(hr:Qf m.boxes id=[.str s,I a,I e])
  (
   hK:∀B':X2,m.boxes.length<=B'.length->Qf B' id=[.str s,I (nX (aU s) 8 a e).2.1,I (nX (aU s) 8 a e).2.2]->(∀j,j≠id->j<m.boxes.length->Qf B' j=Qf m.boxes j)->
   K (.agg ((nX (aU s) 8 a e).1.map I)) {m with boxes:=B'}):aF Tryz.prog gl Y 43 [.ptr id 0] m K:=by
 obtain⟨M,L,st,ln⟩:=m;simp only at aL hr hK;refine Xn aku (fun _ _ _=>.gd false .junk) zd ?_;rw[ago];simp[au2];refine Ko ha hs (by simp;omega) (by rw[Qi aL];exact hr) fun n0 a0 e0 h0 b0=>?_;simp;obtain⟨l0,r0,p0,z0,o0⟩:=aa4 (M:=M) [I 0,I 0,I 0,I 0,I 0,I 0,I 0,I 0] [.str s,I a0,I e0] [I n0,I 0,I 0,I 0,I 0,I 0,I 0,I 0] aL;generalize(M++[[I 0,I 0,I 0,I 0,I 0,I 0,I 0,I 0]]).set id [.str s,I a0,I e0]++[[I n0,I 0,I 0,I 0,I 0,I 0,I 0,I 0]]=B at*
 unfold ajN;refine Yr (id:=id) (pb:=M.length+1) (fun _ _=>rfl) zE zE zd zd ⟨zE,zE,zE⟩ r0 p0 zd b0 hs fun n1 a1 e1 B1 h1 b1 l1 r1 p1 o1=>?_;refine Yr (id:=id) (pb:=M.length+1) (fun _ _=>rfl) zE zE zd zd ⟨zE,zE,zE⟩ r1 p1 zd b1 hs fun n2 a2 e2 B2 h2 b2 l2 r2 p2 o2=>?_;refine Yr (id:=id) (pb:=M.length+1) (fun _ _=>rfl) zE zE zd zd ⟨zE,zE,zE⟩ r2 p2 zd b2 hs fun n3 a3 e3 B3 h3 b3 l3 r3 p3 o3=>?_;refine Yr (id:=id) (pb:=M.length+1) (fun _ _=>rfl) zE zE zd zd ⟨zE,zE,zE⟩ r3 p3 zd b3 hs fun n4 a4 e4 B4 h4 b4 l4 r4 p4 o4=>?_;refine Yr (id:=id) (pb:=M.length+1) (fun _ _=>rfl) zE zE zd zd ⟨zE,zE,zE⟩ r4 p4 zd b4 hs fun n5 a5 e5 B5 h5 b5 l5 r5 p5 o5=>?_;refine Yr (id:=id) (pb:=M.length+1) (fun _ _=>rfl) zE zE zd zd ⟨zE,zE,zE⟩ r5 p5 zd b5 hs fun n6 a6 e6 B6 h6 b6 l6 r6 p6 o6=>?_;refine Yr (id:=id) (pb:=M.length+1) (fun _ _=>rfl) zE zE zd zd ⟨zE,zE,zE⟩ r6 p6 zd b6 hs fun n7 a7 e7 B7 h7 b7 l7 r7 p7 o7=>?_;simp only[zzdn,zzfl]at p7;have sA:nX (aU s) 8 a e=([n0,n1,n2,n3,n4,n5,n6,n7],a7,e7):=by simp[nX,h0,h1,h2,h3,h4,h5,h6,h7]
 rw[sA]at hK;have hl:B7.length=M.length+2:=zE
 have aa6:∀j,j≠id->j≠M.length+1->Qf B7 j=Qf B j:=fun j x y=>by rw[o7 j x y,o6 j x y,o5 j x y,o4 j x y,o3 j x y,o2 j x y,o1 j x y]
 have z7:Qf B7 M.length=[I 0,I 0,I 0,I 0,I 0,I 0,I 0,I 0]:=by rw[aa6 _ zE zE];exact z0
 have cI:∀v,Qf (B7.set M.length v) M.length=v:=fun v=>Xj _ zE;simp[apv,p7,hl,z7,cI];exact hK _ (by simp;omega) (by rw[Qx _ zE];exact r7) fun j h1 h2=>by rw[Qx _ zE,aa6 j h1 zE];exact o0 j h1 h2
def aa7:SC:=(⟨_,by cbv⟩:we [1,1,1,1,1,1,1] Pu).1
def ajO:SC:=(⟨_,fun _=>by cbv⟩:jh [1,1,1,1,1] (AT [1,1] Pu)).1 aa7
def au3:SC:=(⟨_,fun _=>by cbv⟩:jh [1,1] Pu).1 ajO
theorem agp:Pu=au3:=rfl
def aa8{l:P2}{a b:Nat}{n:Int}(h:fI l a 0=(n,b,0)):fO l a=some (n,b):=by
 unfold fI at h;rw[if_pos rfl]at h;split at h
 ·simp at h
 rename_i h1;rw[h1];cases h;rfl
def aa9{l:P2}{a b:Nat}{n f:Int}(h:fI l a 0=(n,b,f))(hf:f≠0):fO l a=none/\f=10:=by
 unfold fI at h;rw[if_pos rfl]at h;split at h
 ·rename_i h1;cases h;exact⟨h1,rfl⟩
 cases h;exact absurd rfl hf
def agq{l:P2}{a b:Nat}{e n f:Int}(h:fI l a e=(n,b,f))(he:e≠0):f=e:=by
 unfold fI at h;rw[if_neg he]at h;cases h;rfl
def AlS(g:Int)(l:P2)(R:Option (Pi×Nat))(c:Nat)(al:List Sp)(a:Nat)(e:Int):Prop:=
 (e=0/\g=0/\R=(dF (2*(c-al.length)) l a).map fun x=>(Zd al++x.1,x.2))\/(e≠0/\e=(if g=0 then 10 else g)/\(g=0->R=none))
def AlS.step{g:Int}{l:P2}{R:Option (Pi×Nat)}{c:Nat}{al:List Sp}{a a1 a2:Nat}{x1 x2 e1 e2:Int}(h:AlS g l R c al a 0)(ah:al.length<c)(h1:fI l a 0=(x1,a1,e1))(h2:fI l a1 e1=(x2,a2,e2)):AlS g l R c (al++[(x1,x2)]) a2 e2:=by
 obtain⟨_,hg,hR⟩|⟨h0,_⟩:=h
 ·obtain⟨j,hj⟩:∃j,2*(c-al.length)=j+1+1:=⟨2*(c-al.length)-2,zE⟩;rw[hj,dF]at hR;by_cases Ln:e1=0
  ·subst Ln;rw[aa8 h1]at hR;simp only[dF]at hR;by_cases Lo:e2=0
   ·subst Lo;rw[aa8 h2]at hR;simp only at hR;refine .inl ⟨rfl,hg,?_⟩;rw[hR,show 2*(c-(al++[(x1,x2)]).length)=j by simp;omega,rY];cases dF j l a2<;>simp[Zd]
   obtain⟨h3,h4⟩:=aa9 h2 Lo;rw[h3]at hR;exact .inr ⟨Lo,by rw[if_pos hg];exact h4,fun _=>by rw[hR];try rfl⟩
  obtain⟨h3,h4⟩:=aa9 h1 Ln;have:=agq h2 Ln;subst this;rw[h3]at hR;exact .inr ⟨Ln,by rw[if_pos hg];exact h4,fun _=>by rw[hR];try rfl⟩
 exact absurd rfl h0
def aba{l:P2}{a d:Nat}{e c g:Int}(h:ctR l a e=(c,d,g)):0<=c/\c<=7/\(g≠0->c=0)/\d=(fI l a e).2.1:=by
 unfold ctR at h;have h0:=@ajM l a e;generalize fI l a e=r at*
 obtain⟨n,b,f⟩:=r;simp only at*
 split at h
 ·cases h;exact⟨zE,zE,fun _=>rfl,rfl⟩
 rename_i hc;cases h;by_cases hf:g=0
 ·exact⟨zE,zE,fun h=>absurd hf h,rfl⟩
 have:=h0 hf;exact⟨zE,zE,fun _=>this,rfl⟩
variable {gl:Nat->AV} {Y:YT} {s:ByteArray}
def an7{id r p b:Nat}{f n0 n1 n2 n3 n4 n5:Int}{B:X2}{L:P2}{st:Nat->LS}{ln:Nat}{E:QP}{Q:So}(hb:b<=s.size)(hs:s.size<=1000000)(h1:id<r)(h2:r<p)(h3:p<B.length)
  (hi:Qf B id=[.str s,I b,I f])(hr:Qf B r=[I 0,I 0,I 0,I 0,I 0,I 0,.sl .nil []])(hp:Qf B p=[I n0,I n1,I n2,I n3,I n4,I n5,.sl .nil []])
  (e0:Abs.look E 0=.ptr id 0)(e1:Abs.look E 1=I 110)(e4:Abs.look E 4=.ptr r 0)(e5:Abs.look E 5=.ptr p 0)
  (
   hQ:∀(E':QP)(B':X2)(L':P2)(al:List Sp)(rt:Rt)(a':Nat)(e':Int),Abs.look E' 4=.ptr r 0->B.length<=B'.length->Qf B' id=[.str s,I a',I e']->Qf B' r=[I n0,I n1,I n2,I n3,I n4,I n5,.sl rt (al.map Qe)]->
   (∀j,j≠id->j≠r->j≠p->j<B.length->Qf B' j=Qf B j)->a'<=s.size->(al=[]/\rt=.nil\/al≠[]/\∃k,rt=.own k 2/\L'[k]?=some al.length)->(∃c d g,ctR (aU s) b f=(c,d,g)/\0<=c/\al.length<=c.toNat/\(e'=0->al.length=c.toNat)/\AlS g (aU s) (dF (2*c.toNat) (aU s) d) c.toNat al a' e')->Q .ret ⟨Za 55 E',⟨B',L',st,ln⟩⟩):
  vc Tryz.prog gl (fun _ _ _=>.gd false .junk) Y aa7 ⟨Za 55 E,⟨B,L,st,ln⟩⟩ Q:=by
 unfold aa7;simp[e0,e1,e4,e5];have cw:=Mu (l:=aU s) (e:=f) (Jj s) (a:=b) (by rw[Xo];exact hb);rw[Xo]at cw;refine agn hb hs (by show id<B.length;omega) hi ?_;obtain⟨c,d,g,hc⟩:∃c d g,ctR (aU s) b f=(c,d,g):=⟨_,_,_,rfl⟩;obtain⟨c1,c2,c3,c4⟩:=aba hc;rw[hc];rw[<- c4]at cw;simp[e0,e1,e4,e5]
 refine Qk ML (fun f' mm=>∃(al:List Sp)(rt:Rt)(a:Nat)(e:Int)(B':X2)(L':P2),f' 7=I al.length/\al.length<=c.toNat/\mm=⟨B',L',st,ln⟩/\B.length<=B'.length/\Qf B' id=[.str s,I a,I e]/\Qf B' r=[I 0,I 0,I 0,I 0,I 0,I 0,.sl .nil []]/\Qf B' p=[I n0,I n1,I n2,I n3,I n4,I n5,.sl rt (al.map Qe)]/\
  (∀j,j≠id->j≠r->j≠p->j<B.length->Qf B' j=Qf B j)/\a<=s.size/\(al=[]/\rt=.nil\/al≠[]/\∃k,rt=.own k 2/\L'[k]?=some al.length)/\AlS g (aU s) (dF (2*c.toNat) (aU s) d) c.toNat al a e) (fun f' _=>8-(numOf (f' 7)).toNat) ?_ ?_
 ·refine⟨[],.nil,d,g,_,_,zd,zzbe _,rfl,zd,Xj _ zE,by rw[Qx _ zE];exact hr,by rw[Qx _ zE];exact hp,fun j j1 _ _ _=>Qx _ j1.symm,cw,.inl ⟨rfl,rfl⟩,?_⟩;by_cases hg:g=0
  ·exact .inl ⟨hg,hg,by simp[Zd]⟩
  exact .inr ⟨hg,by rw[if_neg hg],fun h=>absurd h hg⟩
 rintro f' mm ⟨al,rt,a,e,B',L',f7,fc,rfl,wv,gi,gr,gp,go,ha,bn,hS⟩;by_cases ah:(al.length:Int)<c
 ·by_cases he:e=0
  ·subst he;have QW:∀v y,Qf (B'.set id v++[y]) id=v:=fun v y=>by rw[Qi (by simp;omega),Xj _ zE]
   have hX:∀w y z,(B'.set id w++[y]).set B'.length z=B'.set id w++[z]:=fun w y z=>by
    rw[zzch _ _ zd];simp
   have hX0:∀w y z,(B'.set id w++[y]).set id z=B'.set id z++[y]:=fun w y z=>by
    rw[zzfv _ _ (by simp;omega),zzhp]
   have hL:∀w y,Qf (B'.set id w++[y]) B'.length=y:=fun w y=>by
    have:=Xt (B'.set id w) [y] 0;rw[zzcf]at this;simpa using this
   have gp':∀w y,Qf (B'.set id w++[y]) p=[I n0,I n1,I n2,I n3,I n4,I n5,.sl rt (al.map Qe)]:=fun w y=>by rw[Qi (by simp;omega),Qx _ zE];exact gp
   have rj:IntKind.i64.wrap ((al.length:Int)+1)=(al.length:Int)+1:=by rw[Qh]<;>omega
   have hp':p<B'.length:=zE
   have dc:id<B'.length:=zE
   simp[f7,ah,ML,e0,e5,gi];refine Ko ha hs dc gi fun x1 a1 f1 Im ha1=>?_;simp[e0,e5];refine Ko ha1 hs (by simp;omega) (QW _ _) fun x2 a2 f2 Q0 ha2=>?_;simp[e0,e5,hX,hX0,hL,gp',rj]
   have fin:∀w y z,B.length<=((B'.set id w++[y]).set p z).length/\Qf ((B'.set id w++[y]).set p z) id=w/\Qf ((B'.set id w++[y]).set p z) r=[I 0,I 0,I 0,I 0,I 0,I 0,.sl .nil []]/\Qf ((B'.set id w++[y]).set p z) p=z/\
     ∀j,¬j=id->¬j=r->¬j=p->j<B.length->Qf ((B'.set id w++[y]).set p z) j=Qf B j:=fun w y z=>
    ⟨by simp;omega,by rw[Qx _ zE];exact QW _ _,by rw[Qx _ zE,Qi (by simp;omega),Qx _ zE];exact gr,Xj _ (by simp;omega),
     fun j j1 j2 j3 j4=>by rw[Qx _ (fun h=>j3 h.symm),Qi (by simp;omega),Qx _ (fun h=>j1 h.symm)];exact go j j1 j2 j3 j4⟩
   obtain⟨rfl,rfl⟩|⟨aK,k,rfl,tI⟩:=bn
   ·simp[gp'];obtain⟨t1,t2,t3,t4,t5⟩:=fin [.str s,I a2,I f2] [I x1,I x2] [I n0,I n1,I n2,I n3,I n4,I n5,.sl (.own L'.length 2) [[I x1,I x2]]];exact⟨zE,ag (by repeat(first|exact Qa _ _|refine Qb _ rfl ?_)),[(x1,x2)],zd,by simp at ah |-;omega,.own L'.length 2,a2,f2,_,_,⟨rfl,rfl⟩,t1,t2,t3,t4,t5,ha2,.inr ⟨zd,_,rfl,zd⟩,hS.step zE Im Q0⟩
   simp[gp'];obtain⟨t1,t2,t3,t4,t5⟩:=fin [.str s,I a2,I f2] [I x1,I x2] [I n0,I n1,I n2,I n3,I n4,I n5,.sl (.own k 2) (al.map Qe++[[I x1,I x2]])];have qu:=(zza.1 tI).1;refine⟨⟨tI,?_,zE⟩,zE,ag (by repeat(first|exact Qa _ _|refine Qb _ rfl ?_)),⟨al++[(x1,x2)],zd,by simp;omega,.own k 2,a2,f2,_,_,⟨rfl,rfl⟩,t1,t2,t3,by rw[t4];simp[Qe],t5,ha2,.inr ⟨zd,_,rfl,by simp[qu]⟩,hS.step zE Im Q0⟩,zE⟩;rintro row (⟨u,v,_,rfl⟩|rfl)<;>rfl
  have yK:r<B'.length:=zE
  simp[f7,ah,ML,e0,e4,e5,gi,gp,gr,yK,he];exact hQ _ _ _ al rt a e (by simp[e4]) (Nm wv) (by rw[Qx _ zE];exact gi) (Xj _ yK) (fun j j1 j2 j3 j4=>by rw[Qx _ j2.symm];exact go j j1 j2 j3 j4) ha bn ⟨c,d,g,hc,c1,fc,fun h=>absurd h he,hS⟩
 have yK:r<B'.length:=zE
 simp[f7,ah,ML,e0,e4,e5,gi,gp,gr,yK];exact hQ _ _ _ al rt a e (by simp[e4]) (Nm wv) (by rw[Qx _ zE];exact gi) (Xj _ yK) (fun j j1 j2 j3 j4=>by rw[Qx _ j2.symm];exact go j j1 j2 j3 j4) ha bn ⟨c,d,g,hc,c1,fc,fun _=>zE,hS⟩
def EnR(l:P2)(a:Nat)(e:Int)(ns:Pi)(al:List Sp)(a':Nat)(e':Int):Prop:=
 ∃b f c d g,nX l 6 a e=(ns,b,f)/\ctR l b f=(c,d,g)/\0<=c/\al.length<=7/\(e'=0->al.length=c.toNat)/\AlS g l (dF (2*c.toNat) l d) c.toNat al a' e'
def agr{M:X2}{L:P2}{st:Nat->LS}{ln:Nat}{K:UV}{a id:Nat}{e:Int}(ha:a<=s.size)(hs:s.size<=1000000)(aL:id<M.length)(hr:Qf M id=[.str s,I a,I e])
  (
   hK:∀(B':X2)(L':P2)(n0 n1 n2 n3 n4 n5:Int)(al:List Sp)(rt:Rt)(a':Nat)(e':Int),M.length<=B'.length->Qf B' id=[.str s,I a',I e']->(∀j,j≠id->j<M.length->Qf B' j=Qf M j)->a'<=s.size->(al=[]/\rt=.nil\/al≠[]/\∃k,rt=.own k 2/\L'[k]?=some al.length)->
   EnR (aU s) a e [n0,n1,n2,n3,n4,n5] al a' e'->K (.agg [I n0,I n1,I n2,I n3,I n4,I n5,.sl rt (al.map Qe)]) ⟨B',L',st,ln⟩):aF Tryz.prog gl Y 42 [.ptr id 0,I 110] ⟨M,L,st,ln⟩ K:=by
 refine Xn akt (fun _ _ _=>.gd false .junk) zd ?_;rw[agp];simp[au3];refine Ko ha hs (by simp;omega) (by rw[Qi aL];exact hr) fun n0 a0 e0 h0 b0=>?_;simp;obtain⟨l0,r0,p0,z0,o0⟩:=aa4 (M:=M) [I 0,I 0,I 0,I 0,I 0,I 0,.sl .nil []] [.str s,I a0,I e0] [I n0,I 0,I 0,I 0,I 0,I 0,.sl .nil []] aL;generalize(M++[[I 0,I 0,I 0,I 0,I 0,I 0,.sl .nil []]]).set id [.str s,I a0,I e0]++[[I n0,I 0,I 0,I 0,I 0,I 0,.sl .nil []]]=B at*
 unfold ajO;refine Yr (id:=id) (pb:=M.length+1) (fun _ _=>rfl) zE zE zd zd ⟨zE,zE,zE⟩ r0 p0 zd b0 hs fun n1 a1 e1 B1 h1 b1 l1 r1 p1 o1=>?_;refine Yr (id:=id) (pb:=M.length+1) (fun _ _=>rfl) zE zE zd zd ⟨zE,zE,zE⟩ r1 p1 zd b1 hs fun n2 a2 e2 B2 h2 b2 l2 r2 p2 o2=>?_;refine Yr (id:=id) (pb:=M.length+1) (fun _ _=>rfl) zE zE zd zd ⟨zE,zE,zE⟩ r2 p2 zd b2 hs fun n3 a3 e3 B3 h3 b3 l3 r3 p3 o3=>?_;refine Yr (id:=id) (pb:=M.length+1) (fun _ _=>rfl) zE zE zd zd ⟨zE,zE,zE⟩ r3 p3 zd b3 hs fun n4 a4 e4 B4 h4 b4 l4 r4 p4 o4=>?_;refine Yr (id:=id) (pb:=M.length+1) (fun _ _=>rfl) zE zE zd zd ⟨zE,zE,zE⟩ r4 p4 zd b4 hs fun n5 a5 e5 B5 h5 b5 l5 r5 p5 o5=>?_;simp only[zzdn,zzfl]at p5;have sA:nX (aU s) 6 a e=([n0,n1,n2,n3,n4,n5],a5,e5):=by simp[nX,h0,h1,h2,h3,h4,h5]
 have aa6:∀j,j≠id->j≠M.length+1->Qf B5 j=Qf B j:=fun j x y=>by rw[o5 j x y,o4 j x y,o3 j x y,o2 j x y,o1 j x y]
 refine an7 (r:=M.length) (p:=M.length+1) b5 hs aL zE zE r5 (by rw[aa6 _ zE zE];exact z0) p5 zd zd zd zd fun E' B' L' al rt a' e' q1 q2 q3 q4 q5 q6 q7 q8=>?_;have hl:M.length<B'.length:=zE
 simp[apu,q1,q4,hl];obtain⟨c,d,g,y1,y2,y3,y4,y5⟩:=q8;exact hK _ _ _ _ _ _ _ _ al rt a' e' zE q3 (fun j j1 j2=>by rw[q5 j j1 zE zE zE,aa6 j j1 zE];exact o0 j j1 j2) q6 q7 ⟨a5,e5,c,d,g,sA,y1,y2,by have:=(aba y1).2.1;omega,y4,y5⟩
end
