import Derived.Test.YtnopaopphmjnmaaGreatDoorMLMcS
import Derived.Test.YtnopaopphmjnmaaGreatDoorMLMcU
set_option linter.all false
set_option maxRecDepth 100000
set_option maxHeartbeats 64000000
namespace Go.Proofs.YtnopaopphmjnmaaGreatDoor
noncomputable section
open Go Go.Abs
def akh:SC:=(⟨_,fun _=>by cbv⟩:uw [1,0,1,1,1,1,0,1,0] PA).1 ago
theorem aaE:PA=akh:=rfl
def HE(f:Int):Nat->FuncId->List AV->AV:=fun d fn l=>if fn=48 then(match l with
 |[.sl _ rows,_]=>Tx f (y9 f (rows.map dEv))
 |_=>.junk)else if fn=999999 then .junk else .gd false .junk
def O3(f:Int):∀L:List bD,y9 f (L.map Sk)=(y9 f L).map Sk
 |[]=>rfl
 |e::r=>by
  rw[zzaz,y9,y9];have h:Wv f (Sk e)=Wv f e:=rfl;rw[h];split
  ·rfl
  exact O3 f r
def SG(f:Int)(x:Option bD):Tx f (x.map Sk)=Tx f x:=by cases x<;>rfl
def agu(f:Int)(d:Nat)(L:List bD):HE f d 48 [.sl .ro (L.map Qf),I f]=Tx f (y9 f L):=by
 show Tx f (y9 f ((L.map Qf).map dEv))=_;rw[O4,O3,SG]
structure MoK (M:Md):Prop where
 os:∀o∈M.os,0<=o.2/\o.2<=1000000000000
 n:∀l∈M.ps,l.length=M.os.length+1
 lo:M.os.length<=900
 ev:∀l∈M.ps,∀g∈l,g.ev.length<=1000000000/\∀e∈g.ev,Uh e/\e.al.length<=1000
def lJ{M:Md}{c:Int}{l:List Pg}(h:Ka M c=some l):l∈M.ps:=by
 unfold Ka at h;cases ha:af c M.pl with
 |none=>rw[ha]at h;cases h
 |some i=>rw[ha]at h;exact zzad h
def j7(Y:YT)(m:AM)(md:Nat)(M:Md)(pid aQ:Nat)(bh:List Rt)(bO:Rt)(z:List AV)(c r f:Int)(h:gm m.boxes md M pid aQ bh bO z)(hM:MoK M)(aR:∀rt∈bh,rt=.full\/∃k,rt=.own k 18)
  (hf:f<=9223372036854775807)(K:AV->AM->Prop)
  (hK:∀ex lx SA SB,K (.sl .ro ((Zp M c r f).map Zo)) ⟨m.boxes++ex,m.lens++lx,SA,SB⟩):
  an Tryz.prog az Y 23 [.ptr md 0,I c,I r,I f] m K:=by
 obtain⟨mb,ml,ms,mn⟩:=m;refine an.wk ?_;have hB:∀ex,gm (mb++ex) md M pid aQ bh bO z:=fun ex=>h.ext ex;have kc:=fun ex K h0 h1=>Ht Y ⟨mb++ex,ml,ms,mn⟩ md M pid aQ bh bO z c (hB ex) K h0 h1;have kv:=fun ex K hK=>atk Y ⟨mb++ex,ml,ms,mn⟩ md M pid aQ bh bO z f (hB ex) hM.os K hK;have hK':∀ex SA SB,K (.sl .ro ((Zp M c r f).map Zo)) ⟨mb++ex,ml,SA,SB⟩:=fun ex SA SB=>by simpa using hK ex [] SA SB
 refine Xe akH (HE f) (by simp) ?_;rw[aaE];simp[akh];refine kc _ _ (fun hn=>?_) (fun l hl rt anv=>?_)
 ·have ha:Zp M c r f=[]:=by unfold Zp;rw[hn]
  rw[ha]at hK';simp[PB];exact⟨_,Wk.sl _ _,hK' _ _ _⟩
 have fH:∃ce,s5 rt ce:=by
  rcases aR rt anv with rfl|⟨k,rfl⟩
  ·exact⟨_,fun m d x=>rfl⟩
  exact⟨_,s5.own _ _⟩
 cases l with
 |nil=>
  have ha:Zp M c r f=[]:=by unfold Zp;rw[hl]
  rw[ha]at hK';simp[PB];exact⟨_,Wk.sl _ _,hK' _ _ _⟩
 |cons g l=>
  have ah:Qh ((g::l).map Qo) 0=Qo g:=rfl;simp only[zzaz]at ah;by_cases h1:r<0
  ·have ha:Zp M c r f=[]:=by unfold Zp;rw[hl];simp only;rw[if_pos (.inl h1)]
   rw[ha]at hK';simp[PB,h1];exact⟨_,Wk.sl _ _,hK' _ _ _⟩
  by_cases h2:g.p.rg<=r
  ·have ha:Zp M c r f=[]:=by unfold Zp;rw[hl];simp only;rw[if_pos (.inr h2)]
   rw[ha]at hK';simp[PB,h1,h2,Qo,Qb];exact⟨_,Wk.sl _ _,hK' _ _ _⟩
  have ha:Zp M c r f=sh0::(Vs (qv f M.os) (Je f M.os)).flatMap (iG r f (g::l)):=by unfold Zp;rw[hl];simp only;rw[if_neg (by omega)]
  rw[ha]at hK;have dH:=lJ hl;have hn:=hM.n _ dH;have NX:=hM.lo;have hc:=DI f M.os;have oy:=(L8 f M.os).1;have hz:¬((l.length:Int)+1=0):=by omega
  simp[PB,h1,h2,Qo,Qb,hz,HE];refine kv _ _ ?_;simp only[zzaw,zzae,zzai,zzah,zzbb,zzch];show vc Tryz.prog az (HE f) Y ago ⟨Zf 96 _,⟨fI mb r f rt (g::l) .full [sh0] [[I (qv f M.os)],[I (Je f M.os)]],ml,ms,mn⟩⟩ _;clear kc kv hK' hB h;refine agp Y (HE f) ?_ _ mb ml ms mn r f (qv f M.os) (Je f M.os) rt (g::l) _ ?_ ?_ ?_ ?_ ?_ ?_ ?_ ?_ ?_ ?_ ?_ ?_ ?_
  ·exact fun _ _=>rfl
  ·exact agu f
  ·simp
  ·simp
  ·simp
  ·simp
  ·simp
  ·omega
  ·omega
  ·omega
  ·exact hM.ev _ dH
  ·exact hf
  ·omega
  intro eY bx dx SA SB hp;obtain⟨⟨lx,rfl⟩,_⟩:=hp;simp[fI];exact⟨_,Wk.sl _ _,by simpa[fI]using hK _ lx SA SB⟩
open Go Go.Abs
def iJ(c:Int):Pl:=⟨c,25,1,0,[],0,1,200,1,[⟨1,5,300,0,0⟩,⟨2,2,20,0,0⟩,⟨3,4,100,0,0⟩],[⟨1,2,20,0,0,0,[]⟩,⟨2,3,40,20,50,0,[]⟩],[],[⟨1,2,0,1000,255,0,0,0⟩,⟨1,3,0,1000,255,0,0,0⟩]⟩
def yI:Pl:={iJ 0 with ens:=[⟨1,2,20,0,0,0,[]⟩]}
def bP:Pg:=⟨iJ 0,[⟨1,2,0,20,0,1,[],false⟩,⟨2,3,20,40,0,1,[],false⟩,⟨0,1,60,140,0,1,[],true⟩],[],0,[],0⟩
def HF:Pg:=⟨yI,[⟨1,2,0,20,0,1,[],false⟩,⟨2,3,20,10,0,1,[],false⟩,⟨0,1,30,170,0,1,[],true⟩],[],0,[],1⟩
def iK(n:Int):Od:=⟨n,0,30,2,2,0,lD,nZ,oa⟩
def anw(fr a:Int):Vz fr a a=[]:=by rw[Vz,if_neg (by omega)]
def atq{fr t a:Int}(h:a<t)(h2:t-a<=fr):Vz fr t a=[(a,t-a)]:=by
 have hN:Us fr t a=t-a:=by unfold Us;rw[if_pos (by omega)];omega
 rw[Vz,if_pos h,hN,show a+(t-a)=t by omega,anw]
def aki:nU (iJ 0)=true:=by cbv
def atr:nU yI=true:=by cbv
def att:Jk (iJ 0) [1,2] [] [] 0 (-1)=some [(1,0),(2,20)]:=by rw[<- O5];cbv
def akj:IV (iJ 0)=some [(1,0),(2,20)]:=by unfold IV;rw[if_neg (by rw[aki];decide)];exact att
def axw:zJ (iJ 0) ⟨1,2,20,0,0,0,[]⟩ 0=⟨1,2,0,20,0,1,[],false⟩:=by cbv
def axx:zJ (iJ 0) ⟨2,3,40,20,50,0,[]⟩ 20=⟨2,3,20,40,0,1,[],false⟩:=by cbv
def atu:A9 (iJ 0) [(1,0),(2,20)] 0=bP.ev:=by
 have h1:mP (iJ 0) (1,0) 0=some ⟨1,2,20,0,0,0,[]⟩:=by cbv
 have h2:mP (iJ 0) (2,20) 20=some ⟨2,3,40,20,50,0,[]⟩:=by cbv
 have hf:Yi (iJ 0)=300:=by cbv
 have hl:(iJ 0).ln=200:=rfl;rw[A9,if_neg (by rw[hl];omega),uG,h1];simp only[hf,anw,zzcf,zzai];rw[show(0:Int)+20=20 from rfl,uG,h2];simp only[hf,anw,zzcf,zzai];rw[show(20:Int)+40=60 from rfl,uG,hf,hl,atq (by omega) (by omega),axw,axx];rfl
def atv:Js (iJ 0)=bP:=by unfold Js;rw[akj];simp only;rw[atu];rfl
def atw:uU (iJ 0)=0:=by unfold uU;rw[if_neg (by rw[aki];decide),akj]
def DQ:mg [iJ 0]=some ⟨[(0,0)],[[bP]],[]⟩:=by
 unfold mg;rw[if_neg (by simp),me,if_neg (by rw[atw];simp[md0,iJ,af]),me,atv];rfl
def aaF(n:Int)(h:0<=n/\n<=200):Xx (iK n)=true:=by
 unfold Xx;rw[if_neg (by simp[iK];omega),if_neg (by simp[iK]),if_neg (by simp[iK]),if_neg (by simp[iK])];simp[iK,okB,Ji,Jq,eG,lD,nZ,oa,eB]
def anx:Bv (cQ bP) 30 (Yg 30 (cQ bP).ev []) (iK 1)=some (yI,0):=by
 unfold Bv;rw[if_neg (by simp[cQ,bP,iJ])];have hb:sY (cQ bP) 30 (Yg 30 (cQ bP).ev []) (iK 1)=some (yI,0):=by cbv
 have hm:DF (cQ bP) 30 (Yg 30 (cQ bP).ev []) (iK 1) yI 0=true:=by cbv
 rw[hb];simp only;rw[if_pos (by rw[atr,hm];rfl)]
def Mg:Kc (cQ bP) (Yg 30 (cQ bP).ev []) yI.ens=[]:=by cbv
def anz:Xz (cQ bP) (iK 1)=HF:=by
 have hc:Lv (cQ bP) (iK 1)=true:=by
  unfold Lv;rw[aaF 1 (by omega)];rfl
 have dz:lZ (cQ bP) 30 (Yg 30 (cQ bP).ev []) (iK 1) yI 0=none:=by cbv
 have he:Kk (cQ bP) 30 (Yg 30 (cQ bP).ev []) (iK 1) yI 0=30:=by unfold Kk;rw[dz]
 have h1:Jp (cQ bP) 30 (Yg 30 (cQ bP).ev []) (iK 1) yI 0=[⟨1,2,0,20,0,1,[],false⟩,⟨2,3,20,10,0,1,[],false⟩]:=by unfold Jp;rw[dz];cbv
 have hk:tc (cQ bP) 30 (Yg 30 (cQ bP).ev []) (iK 1) yI 0=[]:=by unfold tc;rw[Mg];rfl
 have hs:Yu (cQ bP) 30 (Yg 30 (cQ bP).ev []) (iK 1) yI 0=[]:=by unfold Yu;rw[Mg,hk];rfl
 have hd:OR (cQ bP) 30 (Yg 30 (cQ bP).ev []) (iK 1) yI 0=[]:=by unfold OR;rw[Mg,hk];rfl
 have hf:Yi yI=300:=by cbv
 have hl:yI.ln=200:=rfl
 have hb:ig (cQ bP) 30 (Yg 30 (cQ bP).ev []) (iK 1) yI 0=[⟨0,1,30,170,0,1,[],true⟩]:=by
  unfold ig;rw[hs,he,A9,if_neg (by rw[hl];omega),uG,hf,hl,atq (by omega) (by omega)];rfl
 unfold Xz;rw[if_neg (by rw[hc];decide),if_neg (by simp[iK])];have hx:Bv (cQ bP) (iK 1).fr (Yg (iK 1).fr (cQ bP).ev []) (iK 1)=some (yI,0):=anx;rw[hx];simp only;show oo (cQ bP) (iK 1) (Yg 30 (cQ bP).ev []) yI 0=HF;unfold oo;show({cQ bP with p:=yI,ev:=Jp (cQ bP) 30 _ _ yI 0++ig (cQ bP) 30 _ _ yI 0,dr:=dd (Wn ((cQ bP).dr++OR (cQ bP) 30 _ _ yI 0)),ve:=(cQ bP).ve+1}:Pg)=HF;rw[h1,hb,hd];have hsd:Wn ([]:List Int)=[]:=by unfold Wn;simp
 show({cQ bP with p:=yI,ev:=_,dr:=dd (Wn []),ve:=_}:Pg)=HF;rw[hsd];rfl
def cW:Md:=⟨[(0,0)],[[bP,HF]],[(1,30)]⟩
def DR:DP ⟨[(0,0)],[[bP]],[]⟩ (iK 1)=some cW:=by
 unfold DP HD;rw[aaF 1 (by omega)];simp[iK,Yh,cW];exact anz
def aaG:DP cW (iK 3)=none:=by
 unfold DP HD;rw[aaF 3 (by omega)];simp[iK,cW]
def agv:Vs 0 1=[0,1]:=by
 rw[Vs,if_pos (by omega),Vs,if_pos (by omega),Vs,if_neg (by omega)];rfl
def agw:Vs 1 1=[1]:=by
 rw[Vs,if_pos (by omega),Vs,if_neg (by omega)]
def axy:qv 37 cW.os=0:=by cbv
def atx:qv 38 cW.os=1:=by cbv
def axz:qv 32 cW.os=0:=by cbv
def axA:Je 37 cW.os=1:=by cbv
def aty:Je 38 cW.os=1:=by cbv
def axB:Je 32 cW.os=1:=by cbv
def aaH:Ka cW 0=some [bP,HF]:=by cbv
def atz:Zp cW 0 0 32=[(0,0,0),(3,12,0),(1,2,1)]:=by
 unfold Zp;rw[aaH];simp only;rw[if_neg (by simp[bP,iJ]),axz,axB,agv];cbv
def aaI:Zp cW 0 0 38=[(0,0,0),(1,8,1)]:=by
 unfold Zp;rw[aaH];simp only;rw[if_neg (by simp[bP,iJ]),atx,aty,agw];cbv
def axC:Zp cW 0 1 32=[]:=by
 unfold Zp;rw[aaH];simp only;rw[if_pos (by simp[bP,iJ])]
open Go Go.Abs
def atA(l:List Sp)(h:l.length<=8796093022208):Pure Tryz.prog az 85 [.sl .ro (l.map Qe)] (.sl .ro (l.map Qe)):=by
 cases l with
 |nil=>
  refine Vm (r:=.sl .ro []) (Qz (r:=.sl .nil []) (Qn I4 (fun _ _ _=>.junk) (by simp) (by simp[abW,abX])) (Wk.sl _ _)) ?_;have:∃rt,Pure Tryz.prog az 85 [.sl .nn []] (.sl rt []):=⟨.ro,Qn I4 (fun _ _ _=>.junk) (by simp) (by simp[abW,abX])⟩;obtain⟨rt,h⟩:=this;exact Qz h (Wk.sl _ _)
 |cons x r=>
  refine Qn I4 (fun _ _ _=>.junk) (by simp) ?_;simp[abW,abX];simp at h;refine⟨⟨rfl,?_⟩,by omega⟩;rintro row a b _ rfl;rfl
def atB(l:List It)(h:l.length<=1000000000):Pure Tryz.prog az 86 [.sl .ro (l.map Qm)] (.sl .ro (l.map Qm)):=by
 cases l with
 |nil=>
  refine Vm (r:=.sl .ro []) (Qz (r:=.sl .nil []) (Qn I5 (fun _ _ _=>.junk) (by simp) (by simp[abY,abZ])) (Wk.sl _ _)) ?_;have:∃rt,Pure Tryz.prog az 86 [.sl .nn []] (.sl rt []):=⟨.ro,Qn I5 (fun _ _ _=>.junk) (by simp) (by simp[abY,abZ])⟩;obtain⟨rt,h⟩:=this;exact Qz h (Wk.sl _ _)
 |cons x r=>
  refine Qn I5 (fun _ _ _=>.junk) (by simp) ?_;simp[abY,abZ];simp at h;exact⟨⟨rfl,fun _ _=>rfl⟩,by omega⟩
def atC(l:List Bk)(h:l.length<=1000000000):Pure Tryz.prog az 89 [.sl .ro (l.map Xg)] (.sl .ro (l.map Xg)):=by
 cases l with
 |nil=>
  refine Vm (r:=.sl .ro []) (Qz (r:=.sl .nil []) (Qn I8 (fun _ _ _=>.junk) (by simp) (by simp[ab4,ab5])) (Wk.sl _ _)) ?_;have:∃rt,Pure Tryz.prog az 89 [.sl .nn []] (.sl rt []):=⟨.ro,Qn I8 (fun _ _ _=>.junk) (by simp) (by simp[ab4,ab5])⟩;obtain⟨rt,h⟩:=this;exact Qz h (Wk.sl _ _)
 |cons x r=>
  refine Qn I8 (fun _ _ _=>.junk) (by simp) ?_;simp[ab4,ab5];simp at h;exact⟨⟨rfl,fun _ _=>rfl⟩,by omega⟩
def atD(l:List Cl)(h:l.length<=1000000000):Pure Tryz.prog az 90 [.sl .ro (l.map Qg)] (.sl .ro (l.map Qg)):=by
 cases l with
 |nil=>
  refine Vm (r:=.sl .ro []) (Qz (r:=.sl .nil []) (Qn I9 (fun _ _ _=>.junk) (by simp) (by simp[ab6,ab7])) (Wk.sl _ _)) ?_;have:∃rt,Pure Tryz.prog az 90 [.sl .nn []] (.sl rt []):=⟨.ro,Qn I9 (fun _ _ _=>.junk) (by simp) (by simp[ab6,ab7])⟩;obtain⟨rt,h⟩:=this;exact Qz h (Wk.sl _ _)
 |cons x r=>
  refine Qn I9 (fun _ _ _=>.junk) (by simp) ?_;simp[ab6,ab7];simp at h;exact⟨⟨rfl,fun _ _=>rfl⟩,by omega⟩
def atE(l:List Cue)(h:l.length<=1000000000):Pure Tryz.prog az 92 [.sl .ro (l.map Qj)] (.sl .ro (l.map Qj)):=by
 cases l with
 |nil=>
  refine Vm (r:=.sl .ro []) (Qz (r:=.sl .nil []) (Qn JA (fun _ _ _=>.junk) (by simp) (by simp[acd,ace])) (Wk.sl _ _)) ?_;have:∃rt,Pure Tryz.prog az 92 [.sl .nn []] (.sl rt []):=⟨.ro,Qn JA (fun _ _ _=>.junk) (by simp) (by simp[acd,ace])⟩;obtain⟨rt,h⟩:=this;exact Qz h (Wk.sl _ _)
 |cons x r=>
  refine Qn JA (fun _ _ _=>.junk) (by simp) ?_;simp[acd,ace];simp at h;exact⟨⟨rfl,fun _ _=>rfl⟩,by omega⟩
def atF(l:List Int)(h:l.length<=1000000000):Pure Tryz.prog az 93 [.sl .ro (l.map Qy)] (.sl .ro (l.map Qy)):=by
 cases l with
 |nil=>
  refine Vm (r:=.sl .ro []) (Qz (r:=.sl .nil []) (Qn qy (fun _ _ _=>.junk) (by simp) (by simp[JB,JC])) (Wk.sl _ _)) ?_;have:∃rt,Pure Tryz.prog az 93 [.sl .nn []] (.sl rt []):=⟨.ro,Qn qy (fun _ _ _=>.junk) (by simp) (by simp[JB,JC])⟩;obtain⟨rt,h⟩:=this;exact Qz h (Wk.sl _ _)
 |cons x r=>
  refine Qn qy (fun _ _ _=>.junk) (by simp) ?_;simp[JB,JC];simp at h;exact⟨⟨rfl,fun _ _=>rfl⟩,by omega⟩
def O6:Nat->FuncId->List AV->AV:=fun d f _=>if f=999999 then(if d=7 then .aJ 0 []else .junk)else .junk
def anA(Y:YT)(rows:List (List AV))(h:∀r∈rows,r.length=7)(hl:rows.length<=1000000000)(aK:rows≠[])(m:AM)(K:AV->AM->Prop)(hK:K (.bs m.boxes.length 0 rows.length 7) {m with boxes:=m.boxes++[rows.flatten]}):
  an Tryz.prog az Y 87 [.sl .ro rows] m K:=by
 obtain⟨x,r,rfl⟩:=zzez aK;refine Xe I6 O6 (by simp) ?_;simp[ab0,ab1,O6];simp at h hK hl;exact⟨⟨by omega,h⟩,hK⟩
def anB:Pure Tryz.prog az 87 [.sl .ro []] (.sl .ro []):=by
 refine Vm (r:=.sl .ro []) (Qz (r:=.sl .nil []) (Qn I6 (fun _ _ _=>.junk) (by simp) (by simp[ab0,ab1])) (Wk.sl _ _)) ?_;have:∃rt,Pure Tryz.prog az 87 [.sl .nn []] (.sl rt []):=⟨.ro,Qn I6 (fun _ _ _=>.junk) (by simp) (by simp[ab0,ab1])⟩;obtain⟨rt,h⟩:=this;exact Qz h (Wk.sl _ _)
def aaJ(Y:YT)(rows:List (List AV))(h:∀r∈rows,r.length=7)(hl:rows.length<=1000000000)(aK:rows≠[])(m:AM)(K:AV->AM->Prop)(hK:K (.bs m.boxes.length 0 rows.length 7) {m with boxes:=m.boxes++[rows.flatten]}):
  an Tryz.prog az Y 91 [.sl .ro rows] m K:=by
 obtain⟨x,r,rfl⟩:=zzez aK;refine Xe Jx O6 (by simp) ?_;simp[ab8,ab9,O6];simp at h hK hl;exact⟨⟨by omega,h⟩,hK⟩
def anC:Pure Tryz.prog az 91 [.sl .ro []] (.sl .ro []):=by
 refine Vm (r:=.sl .ro []) (Qz (r:=.sl .nil []) (Qn Jx (fun _ _ _=>.junk) (by simp) (by simp[ab8,ab9])) (Wk.sl _ _)) ?_;have:∃rt,Pure Tryz.prog az 91 [.sl .nn []] (.sl rt []):=⟨.ro,Qn Jx (fun _ _ _=>.junk) (by simp) (by simp[ab8,ab9])⟩;obtain⟨rt,h⟩:=this;exact Qz h (Wk.sl _ _)
def BC:SC:=(⟨_,by cbv⟩:tM [1,1,1,1,1,1] PG).1
def anD:SC:=(⟨_,fun _=>by cbv⟩:uw [1,1,1,1,1,1] PG).1 BC
theorem agx:PG=anD:=rfl
def oB(g:Pg)(V V2:AV):List AV:=[I g.p.ch,I g.p.nu,I g.p.de,I g.p.of,.sl .ro (g.p.sh.map Qe),I g.p.ep,I g.p.rg,I g.p.ln,I g.p.fi,.sl .ro (g.p.aL.map Qm),V,.sl .ro (g.p.bks.map Xg),.sl .ro (g.p.cls.map Qg),V2,.sl .ro (g.cu.map Qj),I g.ed,.sl .ro (g.dr.map Qy),I g.ve]
def Mh(g:Pg):Nat->FuncId->List AV->AV:=fun _ f l=>if f=87 then(if g.p.ens=[]then .sl .ro []else .gd false .junk)else if f=91 then(if g.ev=[]then .sl .ro []else .gd false .junk)else l.headD .junk
def EnW(g:Pg)(V:AV)(W:List (List AV)):Prop:=(g.p.ens=[]/\V=.sl .ro []/\W=[])\/(g.p.ens≠[]/\V=.bs 2 0 g.p.ens.length 7/\W=[(g.p.ens.map Qd).flatten])
def axD(g:Pg)(W:List (List AV))(V:AV)(W2:List (List AV)):Prop:=(g.ev=[]/\V=.sl .ro []/\W2=W)\/(g.ev≠[]/\V=.bs (W.length+2) 0 g.ev.length 7/\W2=W++[(g.ev.map Qf).flatten])
def HG{F:List AV}{k:Nat}{x:AV}(h:F[k]?=some x):F.set k x=F:=by
 apply zzcm;intro j;by_cases hj:k=j
 ·subst hj;rw[h,zzb (zza.1 h).1]
 rw[zzbe hj]
def HH(g:Pg)(h:PgC g)(Y:YT)(E:List (Nat×AV))(V:AV)(W:List (List AV))(hW:EnW g V W)(Q:Exit->AS->Prop)
  (e1:Abs.look E 1=.ptr 0 0)(e2:Abs.look E 2=.ptr 1 0)(e3:Abs.look E 3=.ptr 0 0)
  (hQ:∀E' V2 W2,Abs.look E' 2=.ptr 1 0->axD g W V2 W2->Q .ret ⟨Zf 106 E',⟨oB g V V2::oB g V V2::W2,[],fun _=>.gone,0⟩⟩):
  vc Tryz.prog az (Mh g) Y BC ⟨Zf 106 E,⟨oB g V (.sl .ro (g.ev.map Qf))::iE::W,[],fun _=>.gone,0⟩⟩ Q:=by
 obtain⟨⟨h1,h2,h3,h4,h5,h6⟩,h7,h8,h9,fU⟩:=h;have Q9:=atC g.p.bks (by omega);have Ol:=atD g.p.cls (by omega);have k92:=atE g.cu (by omega);have k93:=atF g.dr (by omega);have hsz:=Qav (f:=Qf) (sz:=7) (fun _=>rfl) g.ev;by_cases hn:g.ev=[]
 ·have k91:=anC;have hQ:=fun E' h=>hQ E' _ _ h (.inl ⟨hn,rfl,rfl⟩);obtain⟨_,rfl,rfl⟩|⟨_,rfl,rfl⟩:=hW
  ·simp[BC,oB,iE,Mh,hn,e1,e3];refine⟨Q9,Ol,k91,?_⟩;refine Qi mj (fun f m=>f 81=I 0/\m=⟨oB g (.sl .ro []) (.sl .ro [])::[iE],[],fun _=>.gone,0⟩) (fun f _=>0) ?_ ?_
   ·exact⟨by simp,by simp[oB,iE]⟩
   rintro f m ⟨f81,rfl⟩;simp[f81,mj,oB,iE,Mh,e1,e2];refine⟨k92,k93,?_⟩;refine hQ _ ?_;simp[e2]
  simp[BC,oB,iE,Mh,hn,e1,e3];refine⟨Q9,Ol,k91,?_⟩;refine Qi mj (fun f m=>f 81=I 0/\m=⟨oB g (.bs 2 0 g.p.ens.length 7) (.sl .ro [])::iE::[(g.p.ens.map Qd).flatten],[],fun _=>.gone,0⟩) (fun f _=>0) ?_ ?_
  ·exact⟨by simp,by simp[oB,iE]⟩
  rintro f m ⟨f81,rfl⟩;simp[f81,mj,oB,iE,Mh,e1,e2];refine⟨k92,k93,?_⟩;refine hQ _ ?_;simp[e2]
 have aK:g.ev.map Qf≠[]:=by simpa using hn
 have hQ:=fun E' h=>hQ E' _ _ h (.inr ⟨hn,rfl,rfl⟩);obtain⟨F,hF⟩:∃F,(g.ev.map Qf).flatten=F:=⟨_,rfl⟩;have IU:F.length=g.ev.length*7:=by rw[<- hF,Wy hsz];simp
 rw[hF]at hQ
 have step:∀(i:Nat)(e:bD),g.ev[i]?=some e->(∃r,F.drop (i*7+6)=.sl .ro (e.al.map Qe)::r)/\F.set (i*7+6) (.sl .ro (e.al.map Qe))=F:=by
  intro i e he;obtain⟨⟨r,hd⟩,cc⟩:=lz hsz (i:=i) (row:=Qf e) (by simp[he]);rw[hF]at hd cc
  have h7:F[i*7+6]?=some (.sl .ro (e.al.map Qe)):=by
   have:=congrArg (fun l=>l[6]?) hd;simpa[Qf]using this
  obtain⟨p1,p2⟩:=zza.1 h7;exact⟨⟨F.drop (i*7+6+1),by rw[zzaf p1,p2]⟩,HG h7⟩
 obtain⟨_,rfl,rfl⟩|⟨_,rfl,rfl⟩:=hW
 ·simp[BC,oB,iE,Mh,hn,e1,e3];refine⟨Q9,Ol,aaJ _ _ hsz (by simpa using by omega) aK _ _ ?_⟩;simp;rw[hF];refine Qi mj (fun f m=>∃i:Nat,f 81=I i/\i<=g.ev.length/\m=⟨oB g (.sl .ro []) (.bs 2 0 g.ev.length 7)::iE::[F],[],fun _=>.gone,0⟩) (fun f _=>g.ev.length-(numOf (f 81)).toNat) ?_ ?_
  ·exact⟨0,by simp,by omega,by simp[oB,iE]⟩
  rintro f m ⟨i,f81,hi,rfl⟩;rcases zzaa i g.ev.length with ai|bu
  ·obtain⟨e,he⟩:=aS ai;have aa:(i:Int)<(g.ev.length:Int):=by omega
   have hw:=bJ i (by omega);obtain⟨⟨r,hd⟩,hs6⟩:=step i e he;have Q8:min 1 (g.ev.length*7-(i*7+6))=1:=by omega
   have k88:=Ut e.al (fU e (zzad he));simp[f81,mj,oB,aa,hd,hs6,IU,hw,Mh,e1];refine⟨k88,by omega,aO,⟨i+1,by simp,by omega⟩,by omega⟩
  obtain rfl:i=g.ev.length:=by omega
  simp[f81,mj,oB,iE,Mh,e1,e2];refine⟨k92,k93,?_⟩;refine hQ _ ?_;simp[e2]
 simp[BC,oB,iE,Mh,hn,e1,e3];refine⟨Q9,Ol,aaJ _ _ hsz (by simpa using by omega) aK _ _ ?_⟩;simp;rw[hF];refine Qi mj (fun f m=>∃i:Nat,f 81=I i/\i<=g.ev.length/\m=⟨oB g (.bs 2 0 g.p.ens.length 7) (.bs 3 0 g.ev.length 7)::iE::[(g.p.ens.map Qd).flatten,F],[],fun _=>.gone,0⟩) (fun f _=>g.ev.length-(numOf (f 81)).toNat) ?_ ?_
 ·exact⟨0,by simp,by omega,by simp[oB,iE]⟩
 rintro f m ⟨i,f81,hi,rfl⟩;rcases zzaa i g.ev.length with ai|bu
 ·obtain⟨e,he⟩:=aS ai;have aa:(i:Int)<(g.ev.length:Int):=by omega
  have hw:=bJ i (by omega);obtain⟨⟨r,hd⟩,hs6⟩:=step i e he;have Q8:min 1 (g.ev.length*7-(i*7+6))=1:=by omega
  have k88:=Ut e.al (fU e (zzad he));simp[f81,mj,oB,aa,hd,hs6,IU,hw,Mh,e1];refine⟨k88,by omega,aO,⟨i+1,by simp,by omega⟩,by omega⟩
 obtain rfl:i=g.ev.length:=by omega
 simp[f81,mj,oB,iE,Mh,e1,e2];refine⟨k92,k93,?_⟩;refine hQ _ ?_;simp[e2]
def SH(g:Pg)(h:PgC g):Pure Tryz.prog az 44 [.agg (Qo g)] (.agg (Qo g)):=by
 have h0:=h;obtain⟨⟨h1,h2,h3,h4,h5,h6⟩,h7,h8,h9,fU⟩:=h;have k85:=atA g.p.sh (by omega);have k86:=atB g.p.aL (by omega);have hsz:=Qav (f:=Qd) (sz:=7) (fun _=>rfl) g.p.ens;have atG:=Qav (f:=Qf) (sz:=7) (fun _=>rfl) g.ev;obtain⟨F2,qs⟩:∃F,(g.ev.map Qf).flatten=F:=⟨_,rfl⟩;have agy:Zg F2=true:=by rw[<- qs];exact fe (fun _=>rfl) _
 have atH:aV 7 g.ev.length F2=g.ev.map Qf:=by have:=Jn atG;rw[qs]at this;simpa using this
 have atI:F2.length=g.ev.length*7:=by rw[<- qs,Wy atG];simp
 have atJ:∀m,F2.map (bF m 4)=F2:=fun m=>Zk m 3 agy;obtain⟨F,hF⟩:∃F,(g.p.ens.map Qd).flatten=F:=⟨_,rfl⟩;have bQ:Zg F=true:=by rw[<- hF];exact fe (fun _=>rfl) _
 have lS:aV 7 g.p.ens.length F=g.p.ens.map Qd:=by have:=Jn hsz;rw[hF]at this;simpa using this
 have IU:F.length=g.p.ens.length*7:=by rw[<- hF,Wy hsz];simp
 have zT:∀m,F.map (bF m 4)=F:=fun m=>Zk m 3 bQ;refine Qn akU (Mh g) (by simp) ?_;rw[agx];by_cases hn:g.p.ens=[]
 ·simp[anD,Qo,Qb,Mh,hn];refine⟨k85,k86,anB,?_⟩;refine Qi Eg (fun f m=>f 38=I 0/\m=⟨oB g (.sl .ro []) (.sl .ro (g.ev.map Qf))::[iE],[],fun _=>.gone,0⟩) (fun f _=>0) ?_ ?_
  ·exact⟨by simp,by simp[oB,iE]⟩
  rintro f m ⟨f38,rfl⟩;simp[f38,Eg];refine HH g h0 Y0 _ (.sl .ro []) [] (.inl ⟨hn,rfl,rfl⟩) _ (by simp) (by simp) (by simp) ?_;intro E' V2 W2 f2 FJ;obtain⟨qL,rfl,rfl⟩|⟨qL,rfl,rfl⟩:=FJ
  ·simp[TI,f2,oB,qL]
  rw[qs];simp[TI,f2,oB,atH,atI,atJ]
 have aK:g.p.ens.map Qd≠[]:=by simpa using hn
 have step:∀(i:Nat)(e:En),g.p.ens[i]?=some e->(∃r,F.drop (i*7+6)=.sl .ro (e.al.map Qe)::r)/\F.set (i*7+6) (.sl .ro (e.al.map Qe))=F:=by
  intro i e he;obtain⟨⟨r,hd⟩,cc⟩:=lz hsz (i:=i) (row:=Qd e) (by simp[he]);rw[hF]at hd cc
  have h7:F[i*7+6]?=some (.sl .ro (e.al.map Qe)):=by
   have:=congrArg (fun l=>l[6]?) hd;simpa[Qd]using this
  obtain⟨p1,p2⟩:=zza.1 h7;exact⟨⟨F.drop (i*7+6+1),by rw[zzaf p1,p2]⟩,HG h7⟩
 simp[anD,Qo,Qb,Mh,hn];refine⟨k85,k86,anA _ _ hsz (by simpa using by omega) aK _ _ ?_⟩;simp;rw[hF];refine Qi Eg (fun f m=>∃i:Nat,f 38=I i/\i<=g.p.ens.length/\m=⟨oB g (.bs 2 0 g.p.ens.length 7) (.sl .ro (g.ev.map Qf))::iE::[F],[],fun _=>.gone,0⟩) (fun f _=>g.p.ens.length-(numOf (f 38)).toNat) ?_ ?_
 ·exact⟨0,by simp,by omega,by simp[oB,iE]⟩
 rintro f m ⟨i,f38,hi,rfl⟩;rcases zzaa i g.p.ens.length with ai|bu
 ·obtain⟨e,he⟩:=aS ai;have aa:(i:Int)<(g.p.ens.length:Int):=by omega
  have hw:=bJ i (by omega);obtain⟨⟨r,hd⟩,hs6⟩:=step i e he;have Q8:min 1 (g.p.ens.length*7-(i*7+6))=1:=by omega
  have k88:=Ut e.al (h6 e (zzad he));simp[f38,Eg,oB,aa,hd,hs6,IU,hw,Mh];refine⟨k88,by omega,aO,⟨i+1,by simp,by omega⟩,by omega⟩
 obtain rfl:i=g.p.ens.length:=by omega
 simp[f38,Eg];refine HH g h0 Y0 _ (.bs 2 0 g.p.ens.length 7) [F] (.inr ⟨hn,rfl,by rw[hF]⟩) _ (by simp) (by simp) (by simp) ?_;intro E' V2 W2 f2 FJ;obtain⟨qL,rfl,rfl⟩|⟨qL,rfl,rfl⟩:=FJ
 ·simp[TI,f2,oB,qL,lS,IU,zT]
 rw[qs];simp[TI,f2,oB,atH,atI,atJ,lS,IU,zT]
open Go Go.Abs
def zY(x:Sh):List Sh->Nat->Int
 |[],_=> -1
 |a::r,i=>if x=a then i else zY x r (i+1)
def HI(x:Sh):∀(L:List Sh)(i:Nat),(0<=zY x L i)=(x∈L)
 |[],i=>by simp[zY]
 |a::r,i=>by
  unfold zY;by_cases h:x=a
  ·rw[if_pos h];simp[h]
  rw[if_neg h,HI x r (i+1)];simp[h]
def aaK(L:List Sh)(x:Sh)(hl:L.length<=1000000000):Pure Tryz.prog az 111 [.sl .ro (L.map Zo),.agg (Zo x)] (I (zY x L 0)):=by
 obtain⟨x1,x2,x3⟩:=x;refine Qn aci (fun _ _ _=>.junk) (by simp) ?_;simp[ahi,Zo];refine Qi BN (fun f m=>∃i:Nat,f 8=I i/\i<=L.length/\zY (x1,x2,x3) (L.drop i) i=zY (x1,x2,x3) L 0/\m=⟨[[I x1,I x2,I x3]],[],fun _=>.gone,0⟩) (fun f _=>L.length-(numOf (f 8)).toNat) ?_ ?_
 ·exact⟨0,by simp,by omega,by simp,rfl⟩
 rintro f m ⟨i,f8,hi,hr,rfl⟩;rcases zzaa i L.length with ai|bu
 ·obtain⟨a,ha⟩:=aS ai;have hd:L.drop i=a::L.drop (i+1):=by rw[zzaf ai,(zza.1 ha).2]
  obtain⟨a1,a2,a3⟩:=a;have ah:Qh (L.map Zo) i=[I a1,I a2,I a3]:=Qs (by simp[ha,Zo]);have aa:(i:Int)<(L.length:Int):=by omega
  have hw:=bJ i (by omega);rw[hd,zY]at hr;by_cases hP:(x1,x2,x3)=(a1,a2,a3)
  ·rw[if_pos hP]at hr;obtain⟨rfl,rfl,rfl⟩:x1=a1/\x2=a2/\x3=a3:=by simpa using hP
   simp[f8,BN,TR,aa,ah];exact hr
  rw[if_neg hP]at hr;have hP':¬(x1=a1/\x2=a2/\x3=a3):=by simpa using hP
  have hb:(x1==a1&&(x2==a2&&x3==a3))=false:=by
   cases hq:(x1==a1&&(x2==a2&&x3==a3))with
   |false=>rfl
   |true=>simp at hq;exact absurd hq hP'
  simp[f8,BN,aa,ah,hw,hb];refine⟨aO,⟨i+1,by simp,by omega,hr⟩,by omega⟩
 obtain rfl:i=L.length:=by omega
 rw[zzbo,zY]at hr;simp[f8,BN,TR];exact hr
def Mi(L:List Sh)(x:Sh)(hl:L.length<=1000000000):Pure Tryz.prog az 54 [.sl .ro (L.map Zo),.agg (Zo x)] (.bool (decide (x∈L))):=by
 have k:=aaK L x hl;obtain⟨x1,x2,x3⟩:=x;simp only[Zo]at k;refine Qn akZ (fun _ _ _=>I (zY (x1,x2,x3) L 0)) (by simp) ?_;simp[ao0,ao1,Zo];refine⟨k,?_⟩;simp[<- HI (x1,x2,x3) L 0]
def SI(M:Md)(c r f:Int)(s:Sh):Bool:=if s.1=0/\s.2.1=0 then decide (Zp M c r f≠[])else decide (s∈Zp M c r f)
def oq(M:Md)(hM:MoK M)(c r f:Int):(Zp M c r f).length<=10000000:=by
 unfold Zp;cases hl:Ka M c with
 |none=>simp
 |some l=>
  cases l with
  |nil=>simp
  |cons g l=>
   simp only;split
   ·simp
   have dH:=lJ hl;have h1:=aay r f (g::l) (fun g hg e he=>((hM.ev _ dH g hg).2 e he).2) (Vs (qv f M.os) (Je f M.os)) (Vs (qv f M.os) (Je f M.os)).length;have hc:=DI f M.os;have oy:=(L8 f M.os).1;have h2:(Vs (qv f M.os) (Je f M.os)).length<=1000:=yG 1000 _ (by have:=hM.lo;omega);unfold Mf at h1;rw[zzbs]at h1;omega
def O7(Y:YT)(m:AM)(md:Nat)(M:Md)(pid aQ:Nat)(bh:List Rt)(bO:Rt)(z:List AV)(c r f:Int)(s:Sh)(h:gm m.boxes md M pid aQ bh bO z)(hM:MoK M)(aR:∀rt∈bh,rt=.full\/∃k,rt=.own k 18)
  (hf:f<=9223372036854775807)(K:AV->AM->Prop)
  (hK:∀ex lx SA SB,K (.bool (SI M c r f s)) ⟨m.boxes++ex,m.lens++lx,SA,SB⟩):
  an Tryz.prog az Y 27 [.ptr md 0,I c,I r,I f,.agg (Zo s)] m K:=by
 obtain⟨mb,ml,ms,mn⟩:=m;have hB:∀ex,gm (mb++ex) md M pid aQ bh bO z:=fun ex=>h.ext ex;have ka:=fun ex K hK=>j7 Y ⟨mb++ex,ml,ms,mn⟩ md M pid aQ bh bO z c r f (hB ex) hM aR hf K hK;have kc:=Mi (Zp M c r f) s (by have:=oq M hM c r f;omega);have aH:=oq M hM c r f;obtain⟨s1,s2,s3⟩:=s;simp only[Zo]at kc;refine Xe akJ (fun _ fn _=>if fn=54 then .bool (decide ((s1,s2,s3)∈Zp M c r f))else .gd false .junk) (by simp) ?_;simp[aoP,Zo];refine ka _ _ fun ex lx SA SB=>?_;have hK:=fun gZ=>hK ([I s1,I s2,I s3]::(ex++gZ)) lx SA SB;simp only[SI]at hK;generalize Zp M c r f=al at*
 by_cases h1:s1=0
 ·by_cases h2:s2=0
  ·cases al with
   |nil=>
    simp[h1,h2,TE]at hK |-
    simpa using hK []
   |cons a t=>
    simp[h1,h2,TE]at hK |-
    simpa using hK []
  simp[h1,h2,TE]at hK kc |-
  exact⟨kc,by simpa using hK []⟩
 simp[h1,TE]at hK kc |-
 exact⟨kc,by simpa using hK []⟩
end
end Go.Proofs.YtnopaopphmjnmaaGreatDoor
