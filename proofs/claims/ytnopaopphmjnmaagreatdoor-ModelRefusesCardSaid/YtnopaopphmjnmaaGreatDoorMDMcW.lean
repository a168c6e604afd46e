import Derived.Test.YtnopaopphmjnmaaGreatDoorMDMcS
import Derived.Test.YtnopaopphmjnmaaGreatDoorMDMcU
set_option linter.all false
set_option maxRecDepth 100000
set_option maxHeartbeats 64000000
namespace Go.Proofs.YtnopaopphmjnmaaGreatDoor
noncomputable section
open Go Go.Abs
def akU:SC:=(⟨_,fun _=>by cbv⟩:Kt [1,0,1,1,1,1,0,1,0] IM).1 agO
theorem aaV:IM=akU:=rfl
def HH(f:Int):Nat->FuncId->List AV->AV:=fun d fn l=>if fn=48 then(match l with
 |[.sl _ rows,_]=>Tt f (zJ f (rows.map dEv))
 |_=>.junk)else if fn=999999 then .junk else .gd false .junk
def Pc(f:Int):∀L:List bD,zJ f (L.map Sj)=(zJ f L).map Sj
 |[]=>rfl
 |e::r=>by
  rw[zzay,zJ,zJ];have h:Wt f (Sj e)=Wt f e:=rfl;rw[h];split
  ·rfl
  exact Pc f r
def SG(f:Int)(x:Option bD):Tt f (x.map Sj)=Tt f x:=by cases x<;>rfl
def agT(f:Int)(d:Nat)(L:List bD):HH f d 48 [.sl .ro (L.map Qf),I f]=Tt f (zJ f L):=by
 show Tt f (zJ f ((L.map Qf).map dEv))=_;rw[O2,Pc,SG]
structure MoK (M:Md):Prop where
 os:∀o∈M.os,0<=o.2/\o.2<=1000000000000
 n:∀l∈M.ps,l.length=M.os.length+1
 lo:M.os.length<=900
 ev:∀l∈M.ps,∀g∈l,g.ev.length<=1000000000/\∀e∈g.ev,Uf e/\e.al.length<=1000
def lE{M:Md}{c:Int}{l:List Pg}(h:Hw M c=some l):l∈M.ps:=by
 unfold Hw at h;cases ha:af c M.pl with
 |none=>rw[ha]at h;cases h
 |some i=>rw[ha]at h;exact zzac h
def qb(Y:YT)(m:AM)(md:Nat)(M:Md)(pid aQ:Nat)(bh:List Rt)(bO:Rt)(z:List AV)(c r f:Int)(h:ic m.boxes md M pid aQ bh bO z)(hM:MoK M)(aT:∀rt∈bh,rt=.full\/∃k,rt=.own k 18)
  (hf:f<=9223372036854775807)(K:AV->AM->Prop)
  (hK:∀ex lx SB SD,K (.sl .ro ((Ve M c r f).map Vs)) ⟨m.boxes++ex,m.lens++lx,SB,SD⟩):
  an Tryz.prog aq Y 23 [.ptr md 0,I c,I r,I f] m K:=by
 obtain⟨mb,ml,ms,mn⟩:=m;refine an.wk ?_;have hB:∀ex,ic (mb++ex) md M pid aQ bh bO z:=fun ex=>h.ext ex;have kc:=fun ex K h0 h1=>Hy Y ⟨mb++ex,ml,ms,mn⟩ md M pid aQ bh bO z c (hB ex) K h0 h1;have kv:=fun ex K hK=>aup Y ⟨mb++ex,ml,ms,mn⟩ md M pid aQ bh bO z f (hB ex) hM.os K hK;have hK':∀ex SB SD,K (.sl .ro ((Ve M c r f).map Vs)) ⟨mb++ex,ml,SB,SD⟩:=fun ex SB SD=>by simpa using hK ex [] SB SD
 refine Xe TE (HH f) (by simp) ?_;rw[aaV];simp[akU];refine kc _ _ (fun hn=>?_) (fun l hl rt aoo=>?_)
 ·have ha:Ve M c r f=[]:=by unfold Ve;rw[hn]
  rw[ha]at hK';simp[IN];exact⟨_,Wk.sl _ _,hK' _ _ _⟩
 have fG:∃ce,sX rt ce:=by
  rcases aT rt aoo with rfl|⟨k,rfl⟩
  ·exact⟨_,fun m d x=>rfl⟩
  exact⟨_,sX.own _ _⟩
 cases l with
 |nil=>
  have ha:Ve M c r f=[]:=by unfold Ve;rw[hl]
  rw[ha]at hK';simp[IN];exact⟨_,Wk.sl _ _,hK' _ _ _⟩
 |cons g l=>
  have aa:Qh ((g::l).map Qo) 0=Qo g:=rfl;simp only[zzay]at aa;by_cases h1:r<0
  ·have ha:Ve M c r f=[]:=by unfold Ve;rw[hl];simp only;rw[if_pos (.inl h1)]
   rw[ha]at hK';simp[IN,h1];exact⟨_,Wk.sl _ _,hK' _ _ _⟩
  by_cases h2:g.p.rg<=r
  ·have ha:Ve M c r f=[]:=by unfold Ve;rw[hl];simp only;rw[if_pos (.inr h2)]
   rw[ha]at hK';simp[IN,h1,h2,Qo,Qc];exact⟨_,Wk.sl _ _,hK' _ _ _⟩
  have ha:Ve M c r f=sh0::(Yi (yt f M.os) (tZ f M.os)).flatMap (j6 r f (g::l)):=by unfold Ve;rw[hl];simp only;rw[if_neg (by omega)]
  rw[ha]at hK;have dK:=lE hl;have hn:=hM.n _ dK;have N3:=hM.lo;have hc:=DC f M.os;have me:=(Mj f M.os).1;have hz:¬((l.length:Int)+1=0):=by omega
  simp[IN,h1,h2,Qo,Qc,hz,HH];refine kv _ _ ?_;simp only[zzba,zzae,zzah,zzai,zzbd,zzcf];show vc Tryz.prog aq (HH f) Y agO ⟨Zb 96 _,⟨fH mb r f rt (g::l) .full [sh0] [[I (yt f M.os)],[I (tZ f M.os)]],ml,ms,mn⟩⟩ _;clear kc kv hK' hB h;refine agP Y (HH f) ?_ _ mb ml ms mn r f (yt f M.os) (tZ f M.os) rt (g::l) _ ?_ ?_ ?_ ?_ ?_ ?_ ?_ ?_ ?_ ?_ ?_ ?_ ?_
  ·exact fun _ _=>rfl
  ·exact agT f
  ·simp
  ·simp
  ·simp
  ·simp
  ·simp
  ·omega
  ·omega
  ·omega
  ·exact hM.ev _ dK
  ·exact hf
  ·omega
  intro fe bx dg SB SD hp;obtain⟨⟨lx,rfl⟩,_⟩:=hp;simp[fH];exact⟨_,Wk.sl _ _,by simpa[fH]using hK _ lx SB SD⟩
open Go Go.Abs
def dJ(c:Int):Pl:=⟨c,25,1,0,[],0,1,200,1,[⟨1,5,300,0,0⟩,⟨2,2,20,0,0⟩,⟨3,4,100,0,0⟩],[⟨1,2,20,0,0,0,[]⟩,⟨2,3,40,20,50,0,[]⟩],[],[⟨1,2,0,1000,255,0,0,0⟩,⟨1,3,0,1000,255,0,0,0⟩]⟩
def yy:Pl:={dJ 0 with ens:=[⟨1,2,20,0,0,0,[]⟩]}
def bP:Pg:=⟨dJ 0,[⟨1,2,0,20,0,1,[],false⟩,⟨2,3,20,40,0,1,[],false⟩,⟨0,1,60,140,0,1,[],true⟩],[],0,[],0⟩
def HI:Pg:=⟨yy,[⟨1,2,0,20,0,1,[],false⟩,⟨2,3,20,10,0,1,[],false⟩,⟨0,1,30,170,0,1,[],true⟩],[],0,[],1⟩
def iH(n:Int):Od:=⟨n,0,30,2,2,0,lg,nP,nQ⟩
def aop(fr a:Int):Vw fr a a=[]:=by rw[Vw,if_neg (by omega)]
def auv{fr t a:Int}(h:a<t)(h2:t-a<=fr):Vw fr t a=[(a,t-a)]:=by
 have hN:Uq fr t a=t-a:=by unfold Uq;rw[if_pos (by omega)];omega
 rw[Vw,if_pos h,hN,show a+(t-a)=t by omega,aop]
def akV:qp (dJ 0)=true:=by cbv
def auw:qp yy=true:=by cbv
def auy:Uy (dJ 0) [1,2] [] [] 0 (-1)=some [(1,0),(2,20)]:=by rw[<- DK];cbv
def akW:Ht (dJ 0)=some [(1,0),(2,20)]:=by unfold Ht;rw[if_neg (by rw[akV];decide)];exact auy
def ayC:F5 (dJ 0) ⟨1,2,20,0,0,0,[]⟩ 0=⟨1,2,0,20,0,1,[],false⟩:=by cbv
def ayD:F5 (dJ 0) ⟨2,3,40,20,50,0,[]⟩ 20=⟨2,3,20,40,0,1,[],false⟩:=by cbv
def auz:jx (dJ 0) [(1,0),(2,20)] 0=bP.ev:=by
 have h1:pe (dJ 0) (1,0) 0=some ⟨1,2,20,0,0,0,[]⟩:=by cbv
 have h2:pe (dJ 0) (2,20) 20=some ⟨2,3,40,20,50,0,[]⟩:=by cbv
 have hf:Yb (dJ 0)=300:=by cbv
 have hl:(dJ 0).ln=200:=rfl;rw[jx,if_neg (by rw[hl];omega),zA,h1];simp only[hf,aop,zzce,zzah];rw[show(0:Int)+20=20 from rfl,zA,h2];simp only[hf,aop,zzce,zzah];rw[show(20:Int)+40=60 from rfl,zA,hf,hl,auv (by omega) (by omega),ayC,ayD];rfl
def auA:yq (dJ 0)=bP:=by unfold yq;rw[akW];simp only;rw[auz];rfl
def auB:Jz (dJ 0)=0:=by unfold Jz;rw[if_neg (by rw[akV];decide),akW]
def DL:Bs [dJ 0]=some ⟨[(0,0)],[[bP]],[]⟩:=by
 unfold Bs;rw[if_neg (by simp),jZ,if_neg (by rw[auB];simp[md0,dJ,af]),jZ,auA];rfl
def aaW(n:Int)(h:0<=n/\n<=200):Xr (iH n)=true:=by
 unfold Xr;rw[if_neg (by simp[iH];omega),if_neg (by simp[iH]),if_neg (by simp[iH]),if_neg (by simp[iH])];simp[iH,okB,Jg,Jm,eL,lg,nP,nQ,eB]
def aoq:Dy (cT bP) 30 (Yd 30 (cT bP).ev []) (iH 1)=some (yy,0):=by
 unfold Dy;rw[if_neg (by simp[cT,bP,dJ])];have hb:sV (cT bP) 30 (Yd 30 (cT bP).ev []) (iH 1)=some (yy,0):=by cbv
 have hm:Dx (cT bP) 30 (Yd 30 (cT bP).ev []) (iH 1) yy 0=true:=by cbv
 rw[hb];simp only;rw[if_pos (by rw[auw,hm];rfl)]
def Mo:Jv (cT bP) (Yd 30 (cT bP).ev []) yy.ens=[]:=by cbv
def aor:Zc (cT bP) (iH 1)=HI:=by
 have hc:LJ (cT bP) (iH 1)=true:=by
  unfold LJ;rw[aaW 1 (by omega)];rfl
 have dz:pZ (cT bP) 30 (Yd 30 (cT bP).ev []) (iH 1) yy 0=none:=by cbv
 have he:Kh (cT bP) 30 (Yd 30 (cT bP).ev []) (iH 1) yy 0=30:=by unfold Kh;rw[dz]
 have h1:Jy (cT bP) 30 (Yd 30 (cT bP).ev []) (iH 1) yy 0=[⟨1,2,0,20,0,1,[],false⟩,⟨2,3,20,10,0,1,[],false⟩]:=by unfold Jy;rw[dz];cbv
 have hk:sY (cT bP) 30 (Yd 30 (cT bP).ev []) (iH 1) yy 0=[]:=by unfold sY;rw[Mo];rfl
 have hs:Yq (cT bP) 30 (Yd 30 (cT bP).ev []) (iH 1) yy 0=[]:=by unfold Yq;rw[Mo,hk];rfl
 have hd:OY (cT bP) 30 (Yd 30 (cT bP).ev []) (iH 1) yy 0=[]:=by unfold OY;rw[Mo,hk];rfl
 have hf:Yb yy=300:=by cbv
 have hl:yy.ln=200:=rfl
 have hb:gZ (cT bP) 30 (Yd 30 (cT bP).ev []) (iH 1) yy 0=[⟨0,1,30,170,0,1,[],true⟩]:=by
  unfold gZ;rw[hs,he,jx,if_neg (by rw[hl];omega),zA,hf,hl,auv (by omega) (by omega)];rfl
 unfold Zc;rw[if_neg (by rw[hc];decide),if_neg (by simp[iH])];have hx:Dy (cT bP) (iH 1).fr (Yd (iH 1).fr (cT bP).ev []) (iH 1)=some (yy,0):=aoq;rw[hx];simp only;show yp (cT bP) (iH 1) (Yd 30 (cT bP).ev []) yy 0=HI;unfold yp;show({cT bP with p:=yy,ev:=Jy (cT bP) 30 _ _ yy 0++gZ (cT bP) 30 _ _ yy 0,dr:=dd (Wl ((cT bP).dr++OY (cT bP) 30 _ _ yy 0)),ve:=(cT bP).ve+1}:Pg)=HI;rw[h1,hb,hd];have hsd:Wl ([]:List Int)=[]:=by unfold Wl;simp
 show({cT bP with p:=yy,ev:=_,dr:=dd (Wl []),ve:=_}:Pg)=HI;rw[hsd];rfl
def c9:Md:=⟨[(0,0)],[[bP,HI]],[(1,30)]⟩
def DM:j4 ⟨[(0,0)],[[bP]],[]⟩ (iH 1)=some c9:=by
 unfold j4 DF;rw[aaW 1 (by omega)];simp[iH,Ub,c9];exact aor
def aaX:j4 c9 (iH 3)=none:=by
 unfold j4 DF;rw[aaW 3 (by omega)];simp[iH,c9]
def agU:Yi 0 1=[0,1]:=by
 rw[Yi,if_pos (by omega),Yi,if_pos (by omega),Yi,if_neg (by omega)];rfl
def agV:Yi 1 1=[1]:=by
 rw[Yi,if_pos (by omega),Yi,if_neg (by omega)]
def ayE:yt 37 c9.os=0:=by cbv
def auC:yt 38 c9.os=1:=by cbv
def ayF:yt 32 c9.os=0:=by cbv
def ayG:tZ 37 c9.os=1:=by cbv
def auD:tZ 38 c9.os=1:=by cbv
def ayH:tZ 32 c9.os=1:=by cbv
def aaY:Hw c9 0=some [bP,HI]:=by cbv
def auE:Ve c9 0 0 32=[(0,0,0),(3,12,0),(1,2,1)]:=by
 unfold Ve;rw[aaY];simp only;rw[if_neg (by simp[bP,dJ]),ayF,ayH,agU];cbv
def aaZ:Ve c9 0 0 38=[(0,0,0),(1,8,1)]:=by
 unfold Ve;rw[aaY];simp only;rw[if_neg (by simp[bP,dJ]),auC,auD,agV];cbv
def ayI:Ve c9 0 1 32=[]:=by
 unfold Ve;rw[aaY];simp only;rw[if_pos (by simp[bP,dJ])]
open Go Go.Abs
def auF(l:List Sp)(h:l.length<=8796093022208):Pure Tryz.prog aq 85 [.sl .ro (l.map Qe)] (.sl .ro (l.map Qe)):=by
 cases l with
 |nil=>
  refine Vk (r:=.sl .ro []) (Qz (r:=.sl .nil []) (Qn IW (fun _ _ _=>.junk) (by simp) (by simp[ab8,ab9])) (Wk.sl _ _)) ?_;have:∃rt,Pure Tryz.prog aq 85 [.sl .nn []] (.sl rt []):=⟨.ro,Qn IW (fun _ _ _=>.junk) (by simp) (by simp[ab8,ab9])⟩;obtain⟨rt,h⟩:=this;exact Qz h (Wk.sl _ _)
 |cons x r=>
  refine Qn IW (fun _ _ _=>.junk) (by simp) ?_;simp[ab8,ab9];simp at h;refine⟨⟨rfl,?_⟩,by omega⟩;rintro row a b _ rfl;rfl
def auG(l:List It)(h:l.length<=1000000000):Pure Tryz.prog aq 86 [.sl .ro (l.map Qm)] (.sl .ro (l.map Qm)):=by
 cases l with
 |nil=>
  refine Vk (r:=.sl .ro []) (Qz (r:=.sl .nil []) (Qn IX (fun _ _ _=>.junk) (by simp) (by simp[acd,ace])) (Wk.sl _ _)) ?_;have:∃rt,Pure Tryz.prog aq 86 [.sl .nn []] (.sl rt []):=⟨.ro,Qn IX (fun _ _ _=>.junk) (by simp) (by simp[acd,ace])⟩;obtain⟨rt,h⟩:=this;exact Qz h (Wk.sl _ _)
 |cons x r=>
  refine Qn IX (fun _ _ _=>.junk) (by simp) ?_;simp[acd,ace];simp at h;exact⟨⟨rfl,fun _ _=>rfl⟩,by omega⟩
def auH(l:List Bk)(h:l.length<=1000000000):Pure Tryz.prog aq 89 [.sl .ro (l.map Xa)] (.sl .ro (l.map Xa)):=by
 cases l with
 |nil=>
  refine Vk (r:=.sl .ro []) (Qz (r:=.sl .nil []) (Qn I1 (fun _ _ _=>.junk) (by simp) (by simp[acj,ack])) (Wk.sl _ _)) ?_;have:∃rt,Pure Tryz.prog aq 89 [.sl .nn []] (.sl rt []):=⟨.ro,Qn I1 (fun _ _ _=>.junk) (by simp) (by simp[acj,ack])⟩;obtain⟨rt,h⟩:=this;exact Qz h (Wk.sl _ _)
 |cons x r=>
  refine Qn I1 (fun _ _ _=>.junk) (by simp) ?_;simp[acj,ack];simp at h;exact⟨⟨rfl,fun _ _=>rfl⟩,by omega⟩
def auI(l:List Cl)(h:l.length<=1000000000):Pure Tryz.prog aq 90 [.sl .ro (l.map Qg)] (.sl .ro (l.map Qg)):=by
 cases l with
 |nil=>
  refine Vk (r:=.sl .ro []) (Qz (r:=.sl .nil []) (Qn I2 (fun _ _ _=>.junk) (by simp) (by simp[acm,acn])) (Wk.sl _ _)) ?_;have:∃rt,Pure Tryz.prog aq 90 [.sl .nn []] (.sl rt []):=⟨.ro,Qn I2 (fun _ _ _=>.junk) (by simp) (by simp[acm,acn])⟩;obtain⟨rt,h⟩:=this;exact Qz h (Wk.sl _ _)
 |cons x r=>
  refine Qn I2 (fun _ _ _=>.junk) (by simp) ?_;simp[acm,acn];simp at h;exact⟨⟨rfl,fun _ _=>rfl⟩,by omega⟩
def auJ(l:List Cue)(h:l.length<=1000000000):Pure Tryz.prog aq 92 [.sl .ro (l.map Qj)] (.sl .ro (l.map Qj)):=by
 cases l with
 |nil=>
  refine Vk (r:=.sl .ro []) (Qz (r:=.sl .nil []) (Qn I4 (fun _ _ _=>.junk) (by simp) (by simp[acq,acr])) (Wk.sl _ _)) ?_;have:∃rt,Pure Tryz.prog aq 92 [.sl .nn []] (.sl rt []):=⟨.ro,Qn I4 (fun _ _ _=>.junk) (by simp) (by simp[acq,acr])⟩;obtain⟨rt,h⟩:=this;exact Qz h (Wk.sl _ _)
 |cons x r=>
  refine Qn I4 (fun _ _ _=>.junk) (by simp) ?_;simp[acq,acr];simp at h;exact⟨⟨rfl,fun _ _=>rfl⟩,by omega⟩
def auK(l:List Int)(h:l.length<=1000000000):Pure Tryz.prog aq 93 [.sl .ro (l.map Qy)] (.sl .ro (l.map Qy)):=by
 cases l with
 |nil=>
  refine Vk (r:=.sl .ro []) (Qz (r:=.sl .nil []) (Qn qu (fun _ _ _=>.junk) (by simp) (by simp[I5,I6])) (Wk.sl _ _)) ?_;have:∃rt,Pure Tryz.prog aq 93 [.sl .nn []] (.sl rt []):=⟨.ro,Qn qu (fun _ _ _=>.junk) (by simp) (by simp[I5,I6])⟩;obtain⟨rt,h⟩:=this;exact Qz h (Wk.sl _ _)
 |cons x r=>
  refine Qn qu (fun _ _ _=>.junk) (by simp) ?_;simp[I5,I6];simp at h;exact⟨⟨rfl,fun _ _=>rfl⟩,by omega⟩
def Pd:Nat->FuncId->List AV->AV:=fun d f _=>if f=999999 then(if d=7 then .aK 0 []else .junk)else .junk
def aos(Y:YT)(rows:List (List AV))(h:∀r∈rows,r.length=7)(hl:rows.length<=1000000000)(aJ:rows≠[])(m:AM)(K:AV->AM->Prop)(hK:K (.bs m.boxes.length 0 rows.length 7) {m with boxes:=m.boxes++[rows.flatten]}):
  an Tryz.prog aq Y 87 [.sl .ro rows] m K:=by
 obtain⟨x,r,rfl⟩:=zzev aJ;refine Xe IY Pd (by simp) ?_;simp[acf,acg,Pd];simp at h hK hl;exact⟨⟨by omega,h⟩,hK⟩
def aot:Pure Tryz.prog aq 87 [.sl .ro []] (.sl .ro []):=by
 refine Vk (r:=.sl .ro []) (Qz (r:=.sl .nil []) (Qn IY (fun _ _ _=>.junk) (by simp) (by simp[acf,acg])) (Wk.sl _ _)) ?_;have:∃rt,Pure Tryz.prog aq 87 [.sl .nn []] (.sl rt []):=⟨.ro,Qn IY (fun _ _ _=>.junk) (by simp) (by simp[acf,acg])⟩;obtain⟨rt,h⟩:=this;exact Qz h (Wk.sl _ _)
def aa0(Y:YT)(rows:List (List AV))(h:∀r∈rows,r.length=7)(hl:rows.length<=1000000000)(aJ:rows≠[])(m:AM)(K:AV->AM->Prop)(hK:K (.bs m.boxes.length 0 rows.length 7) {m with boxes:=m.boxes++[rows.flatten]}):
  an Tryz.prog aq Y 91 [.sl .ro rows] m K:=by
 obtain⟨x,r,rfl⟩:=zzev aJ;refine Xe I3 Pd (by simp) ?_;simp[aco,acp,Pd];simp at h hK hl;exact⟨⟨by omega,h⟩,hK⟩
def aou:Pure Tryz.prog aq 91 [.sl .ro []] (.sl .ro []):=by
 refine Vk (r:=.sl .ro []) (Qz (r:=.sl .nil []) (Qn I3 (fun _ _ _=>.junk) (by simp) (by simp[aco,acp])) (Wk.sl _ _)) ?_;have:∃rt,Pure Tryz.prog aq 91 [.sl .nn []] (.sl rt []):=⟨.ro,Qn I3 (fun _ _ _=>.junk) (by simp) (by simp[aco,acp])⟩;obtain⟨rt,h⟩:=this;exact Qz h (Wk.sl _ _)
def Bx:SC:=(⟨_,by cbv⟩:tJ [1,1,1,1,1,1] PN).1
def aov:SC:=(⟨_,fun _=>by cbv⟩:Kt [1,1,1,1,1,1] PN).1 Bx
theorem agW:PN=aov:=rfl
def oo(g:Pg)(V V2:AV):List AV:=[I g.p.ch,I g.p.nu,I g.p.de,I g.p.of,.sl .ro (g.p.sh.map Qe),I g.p.ep,I g.p.rg,I g.p.ln,I g.p.fi,.sl .ro (g.p.aL.map Qm),V,.sl .ro (g.p.bks.map Xa),.sl .ro (g.p.cls.map Qg),V2,.sl .ro (g.cu.map Qj),I g.ed,.sl .ro (g.dr.map Qy),I g.ve]
def Mp(g:Pg):Nat->FuncId->List AV->AV:=fun _ f l=>if f=87 then(if g.p.ens=[]then .sl .ro []else .gd false .junk)else if f=91 then(if g.ev=[]then .sl .ro []else .gd false .junk)else l.headD .junk
def EnW(g:Pg)(V:AV)(W:List (List AV)):Prop:=(g.p.ens=[]/\V=.sl .ro []/\W=[])\/(g.p.ens≠[]/\V=.bs 2 0 g.p.ens.length 7/\W=[(g.p.ens.map Qd).flatten])
def ayJ(g:Pg)(W:List (List AV))(V:AV)(W2:List (List AV)):Prop:=(g.ev=[]/\V=.sl .ro []/\W2=W)\/(g.ev≠[]/\V=.bs (W.length+2) 0 g.ev.length 7/\W2=W++[(g.ev.map Qf).flatten])
def HJ{F:List AV}{k:Nat}{x:AV}(h:F[k]?=some x):F.set k x=F:=by
 apply zzcj;intro j;by_cases hj:k=j
 ·subst hj;rw[h,zzaz (zza.1 h).1]
 rw[zzbe hj]
def HK(g:Pg)(h:PgC g)(Y:YT)(E:List (Nat×AV))(V:AV)(W:List (List AV))(hW:EnW g V W)(Q:Exit->AS->Prop)
  (e1:Abs.look E 1=.ptr 0 0)(e2:Abs.look E 2=.ptr 1 0)(e3:Abs.look E 3=.ptr 0 0)
  (hQ:∀E' V2 W2,Abs.look E' 2=.ptr 1 0->ayJ g W V2 W2->Q .ret ⟨Zb 106 E',⟨oo g V V2::oo g V V2::W2,[],fun _=>.gone,0⟩⟩):
  vc Tryz.prog aq (Mp g) Y Bx ⟨Zb 106 E,⟨oo g V (.sl .ro (g.ev.map Qf))::eP::W,[],fun _=>.gone,0⟩⟩ Q:=by
 obtain⟨⟨h1,h2,h3,h4,h5,h6⟩,h7,h8,h9,kS⟩:=h;have Rb:=auH g.p.bks (by omega);have Ot:=auI g.p.cls (by omega);have k92:=auJ g.cu (by omega);have k93:=auK g.dr (by omega);have hsz:=Qar (f:=Qf) (sz:=7) (fun _=>rfl) g.ev;by_cases hn:g.ev=[]
 ·have k91:=aou;have hQ:=fun E' h=>hQ E' _ _ h (.inl ⟨hn,rfl,rfl⟩);obtain⟨_,rfl,rfl⟩|⟨_,rfl,rfl⟩:=hW
  ·simp[Bx,oo,eP,Mp,hn,e1,e3];refine⟨Rb,Ot,k91,?_⟩;refine Qi lW (fun f m=>f 81=I 0/\m=⟨oo g (.sl .ro []) (.sl .ro [])::[eP],[],fun _=>.gone,0⟩) (fun f _=>0) ?_ ?_
   ·exact⟨by simp,by simp[oo,eP]⟩
   rintro f m ⟨f81,rfl⟩;simp[f81,lW,oo,eP,Mp,e1,e2];refine⟨k92,k93,?_⟩;refine hQ _ ?_;simp[e2]
  simp[Bx,oo,eP,Mp,hn,e1,e3];refine⟨Rb,Ot,k91,?_⟩;refine Qi lW (fun f m=>f 81=I 0/\m=⟨oo g (.bs 2 0 g.p.ens.length 7) (.sl .ro [])::eP::[(g.p.ens.map Qd).flatten],[],fun _=>.gone,0⟩) (fun f _=>0) ?_ ?_
  ·exact⟨by simp,by simp[oo,eP]⟩
  rintro f m ⟨f81,rfl⟩;simp[f81,lW,oo,eP,Mp,e1,e2];refine⟨k92,k93,?_⟩;refine hQ _ ?_;simp[e2]
 have aJ:g.ev.map Qf≠[]:=by simpa using hn
 have hQ:=fun E' h=>hQ E' _ _ h (.inr ⟨hn,rfl,rfl⟩);obtain⟨F,hF⟩:∃F,(g.ev.map Qf).flatten=F:=⟨_,rfl⟩;have IJ:F.length=g.ev.length*7:=by rw[<- hF,Ww hsz];simp
 rw[hF]at hQ
 have step:∀(i:Nat)(e:bD),g.ev[i]?=some e->(∃r,F.drop (i*7+6)=.sl .ro (e.al.map Qe)::r)/\F.set (i*7+6) (.sl .ro (e.al.map Qe))=F:=by
  intro i e he;obtain⟨⟨r,hd⟩,cc⟩:=kZ hsz (i:=i) (row:=Qf e) (by simp[he]);rw[hF]at hd cc
  have h7:F[i*7+6]?=some (.sl .ro (e.al.map Qe)):=by
   have:=congrArg (fun l=>l[6]?) hd;simpa[Qf]using this
  obtain⟨p1,p2⟩:=zza.1 h7;exact⟨⟨F.drop (i*7+6+1),by rw[zzaf p1,p2]⟩,HJ h7⟩
 obtain⟨_,rfl,rfl⟩|⟨_,rfl,rfl⟩:=hW
 ·simp[Bx,oo,eP,Mp,hn,e1,e3];refine⟨Rb,Ot,aa0 _ _ hsz (by simpa using by omega) aJ _ _ ?_⟩;simp;rw[hF];refine Qi lW (fun f m=>∃i:Nat,f 81=I i/\i<=g.ev.length/\m=⟨oo g (.sl .ro []) (.bs 2 0 g.ev.length 7)::eP::[F],[],fun _=>.gone,0⟩) (fun f _=>g.ev.length-(numOf (f 81)).toNat) ?_ ?_
  ·exact⟨0,by simp,by omega,by simp[oo,eP]⟩
  rintro f m ⟨i,f81,hi,rfl⟩;rcases zzaa i g.ev.length with ai|bw
  ·obtain⟨e,he⟩:=aP ai;have ah:(i:Int)<(g.ev.length:Int):=by omega
   have hw:=bH i (by omega);obtain⟨⟨r,hd⟩,hs6⟩:=step i e he;have Ra:min 1 (g.ev.length*7-(i*7+6))=1:=by omega
   have k88:=Ur e.al (kS e (zzac he));simp[f81,lW,oo,ah,hd,hs6,IJ,hw,Mp,e1];refine⟨k88,by omega,aN,⟨i+1,by simp,by omega⟩,by omega⟩
  obtain rfl:i=g.ev.length:=by omega
  simp[f81,lW,oo,eP,Mp,e1,e2];refine⟨k92,k93,?_⟩;refine hQ _ ?_;simp[e2]
 simp[Bx,oo,eP,Mp,hn,e1,e3];refine⟨Rb,Ot,aa0 _ _ hsz (by simpa using by omega) aJ _ _ ?_⟩;simp;rw[hF];refine Qi lW (fun f m=>∃i:Nat,f 81=I i/\i<=g.ev.length/\m=⟨oo g (.bs 2 0 g.p.ens.length 7) (.bs 3 0 g.ev.length 7)::eP::[(g.p.ens.map Qd).flatten,F],[],fun _=>.gone,0⟩) (fun f _=>g.ev.length-(numOf (f 81)).toNat) ?_ ?_
 ·exact⟨0,by simp,by omega,by simp[oo,eP]⟩
 rintro f m ⟨i,f81,hi,rfl⟩;rcases zzaa i g.ev.length with ai|bw
 ·obtain⟨e,he⟩:=aP ai;have ah:(i:Int)<(g.ev.length:Int):=by omega
  have hw:=bH i (by omega);obtain⟨⟨r,hd⟩,hs6⟩:=step i e he;have Ra:min 1 (g.ev.length*7-(i*7+6))=1:=by omega
  have k88:=Ur e.al (kS e (zzac he));simp[f81,lW,oo,ah,hd,hs6,IJ,hw,Mp,e1];refine⟨k88,by omega,aN,⟨i+1,by simp,by omega⟩,by omega⟩
 obtain rfl:i=g.ev.length:=by omega
 simp[f81,lW,oo,eP,Mp,e1,e2];refine⟨k92,k93,?_⟩;refine hQ _ ?_;simp[e2]
def SH(g:Pg)(h:PgC g):Pure Tryz.prog aq 44 [.agg (Qo g)] (.agg (Qo g)):=by
 have h0:=h;obtain⟨⟨h1,h2,h3,h4,h5,h6⟩,h7,h8,h9,kS⟩:=h;have k85:=auF g.p.sh (by omega);have k86:=auG g.p.aL (by omega);have hsz:=Qar (f:=Qd) (sz:=7) (fun _=>rfl) g.p.ens;have auL:=Qar (f:=Qf) (sz:=7) (fun _=>rfl) g.ev;obtain⟨F2,qm⟩:∃F,(g.ev.map Qf).flatten=F:=⟨_,rfl⟩;have agX:Zg F2=true:=by rw[<- qm];exact fh (fun _=>rfl) _
 have auM:aV 7 g.ev.length F2=g.ev.map Qf:=by have:=Jk auL;rw[qm]at this;simpa using this
 have auN:F2.length=g.ev.length*7:=by rw[<- qm,Ww auL];simp
 have auO:∀m,F2.map (bF m 4)=F2:=fun m=>Zk m 3 agX;obtain⟨F,hF⟩:∃F,(g.p.ens.map Qd).flatten=F:=⟨_,rfl⟩;have bT:Zg F=true:=by rw[<- hF];exact fh (fun _=>rfl) _
 have jg:aV 7 g.p.ens.length F=g.p.ens.map Qd:=by have:=Jk hsz;rw[hF]at this;simpa using this
 have IJ:F.length=g.p.ens.length*7:=by rw[<- hF,Ww hsz];simp
 have zK:∀m,F.map (bF m 4)=F:=fun m=>Zk m 3 bT;refine Qn alC (Mp g) (by simp) ?_;rw[agW];by_cases hn:g.p.ens=[]
 ·simp[aov,Qo,Qc,Mp,hn];refine⟨k85,k86,aot,?_⟩;refine Qi Eh (fun f m=>f 38=I 0/\m=⟨oo g (.sl .ro []) (.sl .ro (g.ev.map Qf))::[eP],[],fun _=>.gone,0⟩) (fun f _=>0) ?_ ?_
  ·exact⟨by simp,by simp[oo,eP]⟩
  rintro f m ⟨f38,rfl⟩;simp[f38,Eh];refine HK g h0 Y0 _ (.sl .ro []) [] (.inl ⟨hn,rfl,rfl⟩) _ (by simp) (by simp) (by simp) ?_;intro E' V2 W2 f2 FK;obtain⟨r6,rfl,rfl⟩|⟨r6,rfl,rfl⟩:=FK
  ·simp[TM,f2,oo,r6]
  rw[qm];simp[TM,f2,oo,auM,auN,auO]
 have aJ:g.p.ens.map Qd≠[]:=by simpa using hn
 have step:∀(i:Nat)(e:En),g.p.ens[i]?=some e->(∃r,F.drop (i*7+6)=.sl .ro (e.al.map Qe)::r)/\F.set (i*7+6) (.sl .ro (e.al.map Qe))=F:=by
  intro i e he;obtain⟨⟨r,hd⟩,cc⟩:=kZ hsz (i:=i) (row:=Qd e) (by simp[he]);rw[hF]at hd cc
  have h7:F[i*7+6]?=some (.sl .ro (e.al.map Qe)):=by
   have:=congrArg (fun l=>l[6]?) hd;simpa[Qd]using this
  obtain⟨p1,p2⟩:=zza.1 h7;exact⟨⟨F.drop (i*7+6+1),by rw[zzaf p1,p2]⟩,HJ h7⟩
 simp[aov,Qo,Qc,Mp,hn];refine⟨k85,k86,aos _ _ hsz (by simpa using by omega) aJ _ _ ?_⟩;simp;rw[hF];refine Qi Eh (fun f m=>∃i:Nat,f 38=I i/\i<=g.p.ens.length/\m=⟨oo g (.bs 2 0 g.p.ens.length 7) (.sl .ro (g.ev.map Qf))::eP::[F],[],fun _=>.gone,0⟩) (fun f _=>g.p.ens.length-(numOf (f 38)).toNat) ?_ ?_
 ·exact⟨0,by simp,by omega,by simp[oo,eP]⟩
 rintro f m ⟨i,f38,hi,rfl⟩;rcases zzaa i g.p.ens.length with ai|bw
 ·obtain⟨e,he⟩:=aP ai;have ah:(i:Int)<(g.p.ens.length:Int):=by omega
  have hw:=bH i (by omega);obtain⟨⟨r,hd⟩,hs6⟩:=step i e he;have Ra:min 1 (g.p.ens.length*7-(i*7+6))=1:=by omega
  have k88:=Ur e.al (h6 e (zzac he));simp[f38,Eh,oo,ah,hd,hs6,IJ,hw,Mp];refine⟨k88,by omega,aN,⟨i+1,by simp,by omega⟩,by omega⟩
 obtain rfl:i=g.p.ens.length:=by omega
 simp[f38,Eh];refine HK g h0 Y0 _ (.bs 2 0 g.p.ens.length 7) [F] (.inr ⟨hn,rfl,by rw[hF]⟩) _ (by simp) (by simp) (by simp) ?_;intro E' V2 W2 f2 FK;obtain⟨r6,rfl,rfl⟩|⟨r6,rfl,rfl⟩:=FK
 ·simp[TM,f2,oo,r6,jg,IJ,zK]
 rw[qm];simp[TM,f2,oo,auM,auN,auO,jg,IJ,zK]
open Go Go.Abs
def zM(x:Sh):List Sh->Nat->Int
 |[],_=> -1
 |a::r,i=>if x=a then i else zM x r (i+1)
def HL(x:Sh):∀(L:List Sh)(i:Nat),(0<=zM x L i)=(x∈L)
 |[],i=>by simp[zM]
 |a::r,i=>by
  unfold zM;by_cases h:x=a
  ·rw[if_pos h];simp[h]
  rw[if_neg h,HL x r (i+1)];simp[h]
def aa1(L:List Sh)(x:Sh)(hl:L.length<=1000000000):Pure Tryz.prog aq 111 [.sl .ro (L.map Vs),.agg (Vs x)] (I (zM x L 0)):=by
 obtain⟨x1,x2,x3⟩:=x;refine Qn acw (fun _ _ _=>.junk) (by simp) ?_;simp[ahC,Vs];refine Qi BM (fun f m=>∃i:Nat,f 8=I i/\i<=L.length/\zM (x1,x2,x3) (L.drop i) i=zM (x1,x2,x3) L 0/\m=⟨[[I x1,I x2,I x3]],[],fun _=>.gone,0⟩) (fun f _=>L.length-(numOf (f 8)).toNat) ?_ ?_
 ·exact⟨0,by simp,by omega,by simp,rfl⟩
 rintro f m ⟨i,f8,hi,hr,rfl⟩;rcases zzaa i L.length with ai|bw
 ·obtain⟨a,ha⟩:=aP ai;have hd:L.drop i=a::L.drop (i+1):=by rw[zzaf ai,(zza.1 ha).2]
  obtain⟨a1,a2,a3⟩:=a;have aa:Qh (L.map Vs) i=[I a1,I a2,I a3]:=Qr (by simp[ha,Vs]);have ah:(i:Int)<(L.length:Int):=by omega
  have hw:=bH i (by omega);rw[hd,zM]at hr;by_cases hP:(x1,x2,x3)=(a1,a2,a3)
  ·rw[if_pos hP]at hr;obtain⟨rfl,rfl,rfl⟩:x1=a1/\x2=a2/\x3=a3:=by simpa using hP
   simp[f8,BM,TX,ah,aa];exact hr
  rw[if_neg hP]at hr;have hP':¬(x1=a1/\x2=a2/\x3=a3):=by simpa using hP
  have hb:(x1==a1&&(x2==a2&&x3==a3))=false:=by
   cases hq:(x1==a1&&(x2==a2&&x3==a3))with
   |false=>rfl
   |true=>simp at hq;exact absurd hq hP'
  simp[f8,BM,ah,aa,hw,hb];refine⟨aN,⟨i+1,by simp,by omega,hr⟩,by omega⟩
 obtain rfl:i=L.length:=by omega
 rw[zzbo,zM]at hr;simp[f8,BM,TX];exact hr
def Mq(L:List Sh)(x:Sh)(hl:L.length<=1000000000):Pure Tryz.prog aq 54 [.sl .ro (L.map Vs),.agg (Vs x)] (.bool (decide (x∈L))):=by
 have k:=aa1 L x hl;obtain⟨x1,x2,x3⟩:=x;simp only[Vs]at k;refine Qn alH (fun _ _ _=>I (zM (x1,x2,x3) L 0)) (by simp) ?_;simp[apU,apV,Vs];refine⟨k,?_⟩;simp[<- HL (x1,x2,x3) L 0]
def SI(M:Md)(c r f:Int)(s:Sh):Bool:=if s.1=0/\s.2.1=0 then decide (Ve M c r f≠[])else decide (s∈Ve M c r f)
def yz(M:Md)(hM:MoK M)(c r f:Int):(Ve M c r f).length<=10000000:=by
 unfold Ve;cases hl:Hw M c with
 |none=>simp
 |some l=>
  cases l with
  |nil=>simp
  |cons g l=>
   simp only;split
   ·simp
   have dK:=lE hl;have h1:=aaP r f (g::l) (fun g hg e he=>((hM.ev _ dK g hg).2 e he).2) (Yi (yt f M.os) (tZ f M.os)) (Yi (yt f M.os) (tZ f M.os)).length;have hc:=DC f M.os;have me:=(Mj f M.os).1;have h2:(Yi (yt f M.os) (tZ f M.os)).length<=1000:=yw 1000 _ (by have:=hM.lo;omega);unfold Mn at h1;rw[zzbn]at h1;omega
def Pe(Y:YT)(m:AM)(md:Nat)(M:Md)(pid aQ:Nat)(bh:List Rt)(bO:Rt)(z:List AV)(c r f:Int)(s:Sh)(h:ic m.boxes md M pid aQ bh bO z)(hM:MoK M)(aT:∀rt∈bh,rt=.full\/∃k,rt=.own k 18)
  (hf:f<=9223372036854775807)(K:AV->AM->Prop)
  (hK:∀ex lx SB SD,K (.bool (SI M c r f s)) ⟨m.boxes++ex,m.lens++lx,SB,SD⟩):
  an Tryz.prog aq Y 27 [.ptr md 0,I c,I r,I f,.agg (Vs s)] m K:=by
 obtain⟨mb,ml,ms,mn⟩:=m;have hB:∀ex,ic (mb++ex) md M pid aQ bh bO z:=fun ex=>h.ext ex;have ka:=fun ex K hK=>qb Y ⟨mb++ex,ml,ms,mn⟩ md M pid aQ bh bO z c r f (hB ex) hM aT hf K hK;have kc:=Mq (Ve M c r f) s (by have:=yz M hM c r f;omega);have aI:=yz M hM c r f;obtain⟨s1,s2,s3⟩:=s;simp only[Vs]at kc;refine Xe TG (fun _ fn _=>if fn=54 then .bool (decide ((s1,s2,s3)∈Ve M c r f))else .gd false .junk) (by simp) ?_;simp[aln,Vs];refine ka _ _ fun ex lx SB SD=>?_;have hK:=fun gX=>hK ([I s1,I s2,I s3]::(ex++gX)) lx SB SD;simp only[SI]at hK;generalize Ve M c r f=al at*
 by_cases h1:s1=0
 ·by_cases h2:s2=0
  ·cases al with
   |nil=>
    simp[h1,h2,PI]at hK |-
    simpa using hK []
   |cons a t=>
    simp[h1,h2,PI]at hK |-
    simpa using hK []
  simp[h1,h2,PI]at hK kc |-
  exact⟨kc,by simpa using hK []⟩
 simp[h1,PI]at hK kc |-
 exact⟨kc,by simpa using hK []⟩
end
end Go.Proofs.YtnopaopphmjnmaaGreatDoor
