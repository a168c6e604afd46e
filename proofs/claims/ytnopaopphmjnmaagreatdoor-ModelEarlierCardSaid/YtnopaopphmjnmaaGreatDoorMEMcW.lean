import Derived.Test.YtnopaopphmjnmaaGreatDoorMEMcS
import Derived.Test.YtnopaopphmjnmaaGreatDoorMEMcU
set_option linter.all false
set_option maxRecDepth 100000
set_option maxHeartbeats 64000000
namespace Go.Proofs.YtnopaopphmjnmaaGreatDoor
noncomputable section
open Go Go.Abs
def akf:SC:=(⟨_,fun _=>by cbv⟩:uE [1,0,1,1,1,1,0,1,0] PN).1 agq
theorem aaF:PN=akf:=rfl
def HN(f:Int):Nat->FuncId->List AV->AV:=fun d fn l=>if fn=48 then(match l with
 |[.sl _ rows,_]=>Tt f (zV f (rows.map dEv))
 |_=>.junk)else if fn=999999 then .junk else .gd false .junk
def Pn(f:Int):∀L:List bE,zV f (L.map Sq)=(zV f L).map Sq
 |[]=>rfl
 |e::r=>by
  rw[zzay,zV,zV];have h:sV f (Sq e)=sV f e:=rfl;rw[h];split
  ·rfl
  exact Pn f r
def SH(f:Int)(x:Option bE):Tt f (x.map Sq)=Tt f x:=by cases x<;>rfl
def agw(f:Int)(d:Nat)(L:List bE):HN f d 48 [.sl .ro (L.map Qf),I f]=Tt f (zV f L):=by
 show Tt f (zV f ((L.map Qf).map dEv))=_;rw[Pc,Pn,SH]
structure MoK (M:Md):Prop where
 os:∀o∈M.os,0<=o.2/\o.2<=1000000000000
 n:∀l∈M.ps,l.length=M.os.length+1
 lo:M.os.length<=900
 ev:∀l∈M.ps,∀g∈l,g.ev.length<=1000000000/\∀e∈g.ev,Ul e/\e.al.length<=1000
def lQ{M:Md}{c:Int}{l:List Pg}(h:O8 M c=some l):l∈M.ps:=by
 unfold O8 at h;cases ha:af c M.pl with
 |none=>rw[ha]at h;cases h
 |some i=>rw[ha]at h;exact zzac h
def Qaj(Y:YT)(m:AM)(md:Nat)(M:Md)(pid aQ:Nat)(bn:List Rt)(bQ:Rt)(z:List AV)(c r f:Int)(h:gA m.boxes md M pid aQ bn bQ z)(hM:MoK M)(aS:∀rt∈bn,rt=.full\/∃k,rt=.own k 18)
  (hf:f<=9223372036854775807)(K:AV->AM->Prop)
  (hK:∀ex lx kK kL,K (.sl .ro ((Xt M c r f).map Zk)) ⟨m.boxes++ex,m.lens++lx,kK,kL⟩):
  an Tryz.prog az Y 23 [.ptr md 0,I c,I r,I f] m K:=by
 obtain⟨mb,ml,ms,mn⟩:=m;refine an.wk ?_;have hB:∀ex,gA (mb++ex) md M pid aQ bn bQ z:=fun ex=>h.ext ex;have kc:=fun ex K h0 h1=>HD Y ⟨mb++ex,ml,ms,mn⟩ md M pid aQ bn bQ z c (hB ex) K h0 h1;have kv:=fun ex K hK=>atu Y ⟨mb++ex,ml,ms,mn⟩ md M pid aQ bn bQ z f (hB ex) hM.os K hK;have hK':∀ex kK kL,K (.sl .ro ((Xt M c r f).map Zk)) ⟨mb++ex,ml,kK,kL⟩:=fun ex kK kL=>by simpa using hK ex [] kK kL
 refine Xe akH (HN f) (by simp) ?_;rw[aaF];simp[akf];refine kc _ _ (fun hn=>?_) (fun l hl rt anA=>?_)
 ·have ha:Xt M c r f=[]:=by unfold Xt;rw[hn]
  rw[ha]at hK';simp[PO];exact⟨_,Wk.sl _ _,hK' _ _ _⟩
 have fO:∃ce,th rt ce:=by
  rcases aS rt anA with rfl|⟨k,rfl⟩
  ·exact⟨_,fun m d x=>rfl⟩
  exact⟨_,th.own _ _⟩
 cases l with
 |nil=>
  have ha:Xt M c r f=[]:=by unfold Xt;rw[hl]
  rw[ha]at hK';simp[PO];exact⟨_,Wk.sl _ _,hK' _ _ _⟩
 |cons g l=>
  have ah:Qh ((g::l).map Qo) 0=Qo g:=rfl;simp only[zzay]at ah;by_cases h1:r<0
  ·have ha:Xt M c r f=[]:=by unfold Xt;rw[hl];simp only;rw[if_pos (.inl h1)]
   rw[ha]at hK';simp[PO,h1];exact⟨_,Wk.sl _ _,hK' _ _ _⟩
  by_cases h2:g.p.rg<=r
  ·have ha:Xt M c r f=[]:=by unfold Xt;rw[hl];simp only;rw[if_pos (.inr h2)]
   rw[ha]at hK';simp[PO,h1,h2,Qo,Qc];exact⟨_,Wk.sl _ _,hK' _ _ _⟩
  have ha:Xt M c r f=sh0::(Vv (fA f M.os) (Vw f M.os)).flatMap (iK r f (g::l)):=by unfold Xt;rw[hl];simp only;rw[if_neg (by omega)]
  rw[ha]at hK;have cU:=lQ hl;have hn:=hM.n _ cU;have Oa:=hM.lo;have hc:=DK f M.os;have oA:=(Mo f M.os).1;have hz:¬((l.length:Int)+1=0):=by omega
  simp[PO,h1,h2,Qo,Qc,hz,HN];refine kv _ _ ?_;simp only[zzax,zzae,zzaj,zzah,zzba,zzch];show vc Tryz.prog az (HN f) Y agq ⟨Ze 96 _,⟨fP mb r f rt (g::l) .full [sh0] [[I (fA f M.os)],[I (Vw f M.os)]],ml,ms,mn⟩⟩ _;clear kc kv hK' hB h;refine agr Y (HN f) ?_ _ mb ml ms mn r f (fA f M.os) (Vw f M.os) rt (g::l) _ ?_ ?_ ?_ ?_ ?_ ?_ ?_ ?_ ?_ ?_ ?_ ?_ ?_
  ·exact fun _ _=>rfl
  ·exact agw f
  ·simp
  ·simp
  ·simp
  ·simp
  ·simp
  ·omega
  ·omega
  ·omega
  ·exact hM.ev _ cU
  ·exact hf
  ·omega
  intro fk bx bX kK kL hp;obtain⟨⟨lx,rfl⟩,_⟩:=hp;simp[fP];exact⟨_,Wk.sl _ _,by simpa[fP]using hK _ lx kK kL⟩
open Go Go.Abs
def iO(c:Int):Pl:=⟨c,25,1,0,[],0,1,200,1,[⟨1,5,300,0,0⟩,⟨2,2,20,0,0⟩,⟨3,4,100,0,0⟩],[⟨1,2,20,0,0,0,[]⟩,⟨2,3,40,20,50,0,[]⟩],[],[⟨1,2,0,1000,255,0,0,0⟩,⟨1,3,0,1000,255,0,0,0⟩]⟩
def yL:Pl:={iO 0 with ens:=[⟨1,2,20,0,0,0,[]⟩]}
def bR:Pg:=⟨iO 0,[⟨1,2,0,20,0,1,[],false⟩,⟨2,3,20,40,0,1,[],false⟩,⟨0,1,60,140,0,1,[],true⟩],[],0,[],0⟩
def HO:Pg:=⟨yL,[⟨1,2,0,20,0,1,[],false⟩,⟨2,3,20,10,0,1,[],false⟩,⟨0,1,30,170,0,1,[],true⟩],[],0,[],1⟩
def iP(n:Int):Od:=⟨n,0,30,2,2,0,lI,oc,oe⟩
def anB(fr a:Int):Yd fr a a=[]:=by rw[Yd,if_neg (by omega)]
def atA{fr t a:Int}(h:a<t)(h2:t-a<=fr):Yd fr t a=[(a,t-a)]:=by
 have hN:Uy fr t a=t-a:=by unfold Uy;rw[if_pos (by omega)];omega
 rw[Yd,if_pos h,hN,show a+(t-a)=t by omega,anB]
def akg:sR (iO 0)=true:=by cbv
def atB:sR yL=true:=by cbv
def atC:Jp (iO 0) [1,2] [] [] 0 (-1)=some [(1,0),(2,20)]:=by rw[<- Po];cbv
def akh:I2 (iO 0)=some [(1,0),(2,20)]:=by unfold I2;rw[if_neg (by rw[akg];decide)];exact atC
def axD:Gb (iO 0) ⟨1,2,20,0,0,0,[]⟩ 0=⟨1,2,0,20,0,1,[],false⟩:=by cbv
def axE:Gb (iO 0) ⟨2,3,40,20,50,0,[]⟩ 20=⟨2,3,20,40,0,1,[],false⟩:=by cbv
def atD:jQ (iO 0) [(1,0),(2,20)] 0=bR.ev:=by
 have h1:pJ (iO 0) (1,0) 0=some ⟨1,2,20,0,0,0,[]⟩:=by cbv
 have h2:pJ (iO 0) (2,20) 20=some ⟨2,3,40,20,50,0,[]⟩:=by cbv
 have hf:Yj (iO 0)=300:=by cbv
 have hl:(iO 0).ln=200:=rfl;rw[jQ,if_neg (by rw[hl];omega),zM,h1];simp only[hf,anB,zzcg,zzaj];rw[show(0:Int)+20=20 from rfl,zM,h2];simp only[hf,anB,zzcg,zzaj];rw[show(20:Int)+40=60 from rfl,zM,hf,hl,atA (by omega) (by omega),axD,axE];rfl
def atE:iJ (iO 0)=bR:=by unfold iJ;rw[akh];simp only;rw[atD];rfl
def atF:kz (iO 0)=0:=by unfold kz;rw[if_neg (by rw[akg];decide),akh]
def DU:mw [iO 0]=some ⟨[(0,0)],[[bR]],[]⟩:=by
 unfold mw;rw[if_neg (by simp),uq,if_neg (by rw[atF];simp[md0,iO,af]),uq,atE];rfl
def aaG(n:Int)(h:0<=n/\n<=200):Xw (iP n)=true:=by
 unfold Xw;rw[if_neg (by simp[iP];omega),if_neg (by simp[iP]),if_neg (by simp[iP]),if_neg (by simp[iP])];simp[iP,okB,Jn,Jv,eS,lI,oc,oe,eB]
def anC:DH (dB bR) 30 (Yl 30 (dB bR).ev []) (iP 1)=some (yL,0):=by
 unfold DH;rw[if_neg (by simp[dB,bR,iO])];have hb:tf (dB bR) 30 (Yl 30 (dB bR).ev []) (iP 1)=some (yL,0):=by cbv
 have hm:DG (dB bR) 30 (Yl 30 (dB bR).ev []) (iP 1) yL 0=true:=by cbv
 rw[hb];simp only;rw[if_pos (by rw[atB,hm];rfl)]
def Mu:Kg (dB bR) (Yl 30 (dB bR).ev []) yL.ens=[]:=by cbv
def anD:Zr (dB bR) (iP 1)=HO:=by
 have hc:LM (dB bR) (iP 1)=true:=by
  unfold LM;rw[aaG 1 (by omega)];rfl
 have dA:qd (dB bR) 30 (Yl 30 (dB bR).ev []) (iP 1) yL 0=none:=by cbv
 have he:Kn (dB bR) 30 (Yl 30 (dB bR).ev []) (iP 1) yL 0=30:=by unfold Kn;rw[dA]
 have h1:Ki (dB bR) 30 (Yl 30 (dB bR).ev []) (iP 1) yL 0=[⟨1,2,0,20,0,1,[],false⟩,⟨2,3,20,10,0,1,[],false⟩]:=by unfold Ki;rw[dA];cbv
 have hk:tj (dB bR) 30 (Yl 30 (dB bR).ev []) (iP 1) yL 0=[]:=by unfold tj;rw[Mu];rfl
 have hs:Yy (dB bR) 30 (Yl 30 (dB bR).ev []) (iP 1) yL 0=[]:=by unfold Yy;rw[Mu,hk];rfl
 have hd:O6 (dB bR) 30 (Yl 30 (dB bR).ev []) (iP 1) yL 0=[]:=by unfold O6;rw[Mu,hk];rfl
 have hf:Yj yL=300:=by cbv
 have hl:yL.ln=200:=rfl
 have hb:iu (dB bR) 30 (Yl 30 (dB bR).ev []) (iP 1) yL 0=[⟨0,1,30,170,0,1,[],true⟩]:=by
  unfold iu;rw[hs,he,jQ,if_neg (by rw[hl];omega),zM,hf,hl,atA (by omega) (by omega)];rfl
 unfold Zr;rw[if_neg (by rw[hc];decide),if_neg (by simp[iP])];have hx:DH (dB bR) (iP 1).fr (Yl (iP 1).fr (dB bR).ev []) (iP 1)=some (yL,0):=anC;rw[hx];simp only;show yH (dB bR) (iP 1) (Yl 30 (dB bR).ev []) yL 0=HO;unfold yH;show({dB bR with p:=yL,ev:=Ki (dB bR) 30 _ _ yL 0++iu (dB bR) 30 _ _ yL 0,dr:=dd (Wt ((dB bR).dr++O6 (dB bR) 30 _ _ yL 0)),ve:=(dB bR).ve+1}:Pg)=HO;rw[h1,hb,hd];have hsd:Wt ([]:List Int)=[]:=by unfold Wt;simp
 show({dB bR with p:=yL,ev:=_,dr:=dd (Wt []),ve:=_}:Pg)=HO;rw[hsd];rfl
def di:Md:=⟨[(0,0)],[[bR,HO]],[(1,30)]⟩
def DV:DP ⟨[(0,0)],[[bR]],[]⟩ (iP 1)=some di:=by
 unfold DP DO;rw[aaG 1 (by omega)];simp[iP,Yt,di];exact anD
def aaH:DP di (iP 3)=none:=by
 unfold DP DO;rw[aaG 3 (by omega)];simp[iP,di]
def agx:Vv 0 1=[0,1]:=by
 rw[Vv,if_pos (by omega),Vv,if_pos (by omega),Vv,if_neg (by omega)];rfl
def agy:Vv 1 1=[1]:=by
 rw[Vv,if_pos (by omega),Vv,if_neg (by omega)]
def axF:fA 37 di.os=0:=by cbv
def atG:fA 38 di.os=1:=by cbv
def axG:fA 32 di.os=0:=by cbv
def axH:Vw 37 di.os=1:=by cbv
def atH:Vw 38 di.os=1:=by cbv
def axI:Vw 32 di.os=1:=by cbv
def aaI:O8 di 0=some [bR,HO]:=by cbv
def atI:Xt di 0 0 32=[(0,0,0),(3,12,0),(1,2,1)]:=by
 unfold Xt;rw[aaI];simp only;rw[if_neg (by simp[bR,iO]),axG,axI,agx];cbv
def aaJ:Xt di 0 0 38=[(0,0,0),(1,8,1)]:=by
 unfold Xt;rw[aaI];simp only;rw[if_neg (by simp[bR,iO]),atG,atH,agy];cbv
def axJ:Xt di 0 1 32=[]:=by
 unfold Xt;rw[aaI];simp only;rw[if_pos (by simp[bR,iO])]
open Go Go.Abs
def atJ(l:List Sp)(h:l.length<=8796093022208):Pure Tryz.prog az 85 [.sl .ro (l.map Qe)] (.sl .ro (l.map Qe)):=by
 cases l with
 |nil=>
  refine Vo (r:=.sl .ro []) (Xa (r:=.sl .nil []) (Qn JB (fun _ _ _=>.junk) (by simp) (by simp[abY,abZ])) (Wk.sl _ _)) ?_;have:∃rt,Pure Tryz.prog az 85 [.sl .nn []] (.sl rt []):=⟨.ro,Qn JB (fun _ _ _=>.junk) (by simp) (by simp[abY,abZ])⟩;obtain⟨rt,h⟩:=this;exact Xa h (Wk.sl _ _)
 |cons x r=>
  refine Qn JB (fun _ _ _=>.junk) (by simp) ?_;simp[abY,abZ];simp at h;refine⟨⟨rfl,?_⟩,by omega⟩;rintro row a b _ rfl;rfl
def atK(l:List It)(h:l.length<=1000000000):Pure Tryz.prog az 86 [.sl .ro (l.map Qm)] (.sl .ro (l.map Qm)):=by
 cases l with
 |nil=>
  refine Vo (r:=.sl .ro []) (Xa (r:=.sl .nil []) (Qn JC (fun _ _ _=>.junk) (by simp) (by simp[ab0,ab1])) (Wk.sl _ _)) ?_;have:∃rt,Pure Tryz.prog az 86 [.sl .nn []] (.sl rt []):=⟨.ro,Qn JC (fun _ _ _=>.junk) (by simp) (by simp[ab0,ab1])⟩;obtain⟨rt,h⟩:=this;exact Xa h (Wk.sl _ _)
 |cons x r=>
  refine Qn JC (fun _ _ _=>.junk) (by simp) ?_;simp[ab0,ab1];simp at h;exact⟨⟨rfl,fun _ _=>rfl⟩,by omega⟩
def atM(l:List Bk)(h:l.length<=1000000000):Pure Tryz.prog az 89 [.sl .ro (l.map Xh)] (.sl .ro (l.map Xh)):=by
 cases l with
 |nil=>
  refine Vo (r:=.sl .ro []) (Xa (r:=.sl .nil []) (Qn JF (fun _ _ _=>.junk) (by simp) (by simp[ab6,ab7])) (Wk.sl _ _)) ?_;have:∃rt,Pure Tryz.prog az 89 [.sl .nn []] (.sl rt []):=⟨.ro,Qn JF (fun _ _ _=>.junk) (by simp) (by simp[ab6,ab7])⟩;obtain⟨rt,h⟩:=this;exact Xa h (Wk.sl _ _)
 |cons x r=>
  refine Qn JF (fun _ _ _=>.junk) (by simp) ?_;simp[ab6,ab7];simp at h;exact⟨⟨rfl,fun _ _=>rfl⟩,by omega⟩
def atN(l:List Cl)(h:l.length<=1000000000):Pure Tryz.prog az 90 [.sl .ro (l.map Qg)] (.sl .ro (l.map Qg)):=by
 cases l with
 |nil=>
  refine Vo (r:=.sl .ro []) (Xa (r:=.sl .nil []) (Qn JG (fun _ _ _=>.junk) (by simp) (by simp[ab8,ab9])) (Wk.sl _ _)) ?_;have:∃rt,Pure Tryz.prog az 90 [.sl .nn []] (.sl rt []):=⟨.ro,Qn JG (fun _ _ _=>.junk) (by simp) (by simp[ab8,ab9])⟩;obtain⟨rt,h⟩:=this;exact Xa h (Wk.sl _ _)
 |cons x r=>
  refine Qn JG (fun _ _ _=>.junk) (by simp) ?_;simp[ab8,ab9];simp at h;exact⟨⟨rfl,fun _ _=>rfl⟩,by omega⟩
def atO(l:List Cue)(h:l.length<=1000000000):Pure Tryz.prog az 92 [.sl .ro (l.map Qi)] (.sl .ro (l.map Qi)):=by
 cases l with
 |nil=>
  refine Vo (r:=.sl .ro []) (Xa (r:=.sl .nil []) (Qn JI (fun _ _ _=>.junk) (by simp) (by simp[acf,acg])) (Wk.sl _ _)) ?_;have:∃rt,Pure Tryz.prog az 92 [.sl .nn []] (.sl rt []):=⟨.ro,Qn JI (fun _ _ _=>.junk) (by simp) (by simp[acf,acg])⟩;obtain⟨rt,h⟩:=this;exact Xa h (Wk.sl _ _)
 |cons x r=>
  refine Qn JI (fun _ _ _=>.junk) (by simp) ?_;simp[acf,acg];simp at h;exact⟨⟨rfl,fun _ _=>rfl⟩,by omega⟩
def atP(l:List Int)(h:l.length<=1000000000):Pure Tryz.prog az 93 [.sl .ro (l.map Qy)] (.sl .ro (l.map Qy)):=by
 cases l with
 |nil=>
  refine Vo (r:=.sl .ro []) (Xa (r:=.sl .nil []) (Qn qC (fun _ _ _=>.junk) (by simp) (by simp[JJ,JK])) (Wk.sl _ _)) ?_;have:∃rt,Pure Tryz.prog az 93 [.sl .nn []] (.sl rt []):=⟨.ro,Qn qC (fun _ _ _=>.junk) (by simp) (by simp[JJ,JK])⟩;obtain⟨rt,h⟩:=this;exact Xa h (Wk.sl _ _)
 |cons x r=>
  refine Qn qC (fun _ _ _=>.junk) (by simp) ?_;simp[JJ,JK];simp at h;exact⟨⟨rfl,fun _ _=>rfl⟩,by omega⟩
def Pp:Nat->FuncId->List AV->AV:=fun d f _=>if f=999999 then(if d=7 then .aJ 0 []else .junk)else .junk
def anE(Y:YT)(rows:List (List AV))(h:∀r∈rows,r.length=7)(hl:rows.length<=1000000000)(aK:rows≠[])(m:AM)(K:AV->AM->Prop)(hK:K (.bs m.boxes.length 0 rows.length 7) {m with boxes:=m.boxes++[rows.flatten]}):
  an Tryz.prog az Y 87 [.sl .ro rows] m K:=by
 obtain⟨x,r,rfl⟩:=zzez aK;refine Xe JD Pp (by simp) ?_;simp[ab2,ab3,Pp];simp at h hK hl;exact⟨⟨by omega,h⟩,hK⟩
def anF:Pure Tryz.prog az 87 [.sl .ro []] (.sl .ro []):=by
 refine Vo (r:=.sl .ro []) (Xa (r:=.sl .nil []) (Qn JD (fun _ _ _=>.junk) (by simp) (by simp[ab2,ab3])) (Wk.sl _ _)) ?_;have:∃rt,Pure Tryz.prog az 87 [.sl .nn []] (.sl rt []):=⟨.ro,Qn JD (fun _ _ _=>.junk) (by simp) (by simp[ab2,ab3])⟩;obtain⟨rt,h⟩:=this;exact Xa h (Wk.sl _ _)
def aaK(Y:YT)(rows:List (List AV))(h:∀r∈rows,r.length=7)(hl:rows.length<=1000000000)(aK:rows≠[])(m:AM)(K:AV->AM->Prop)(hK:K (.bs m.boxes.length 0 rows.length 7) {m with boxes:=m.boxes++[rows.flatten]}):
  an Tryz.prog az Y 91 [.sl .ro rows] m K:=by
 obtain⟨x,r,rfl⟩:=zzez aK;refine Xe JH Pp (by simp) ?_;simp[acd,ace,Pp];simp at h hK hl;exact⟨⟨by omega,h⟩,hK⟩
def anG:Pure Tryz.prog az 91 [.sl .ro []] (.sl .ro []):=by
 refine Vo (r:=.sl .ro []) (Xa (r:=.sl .nil []) (Qn JH (fun _ _ _=>.junk) (by simp) (by simp[acd,ace])) (Wk.sl _ _)) ?_;have:∃rt,Pure Tryz.prog az 91 [.sl .nn []] (.sl rt []):=⟨.ro,Qn JH (fun _ _ _=>.junk) (by simp) (by simp[acd,ace])⟩;obtain⟨rt,h⟩:=this;exact Xa h (Wk.sl _ _)
def BA:SC:=(⟨_,by cbv⟩:tW [1,1,1,1,1,1] PW).1
def anH:SC:=(⟨_,fun _=>by cbv⟩:uE [1,1,1,1,1,1] PW).1 BA
theorem agz:PW=anH:=rfl
def oD(g:Pg)(V V2:AV):List AV:=[I g.p.ch,I g.p.nu,I g.p.de,I g.p.of,.sl .ro (g.p.sh.map Qe),I g.p.ep,I g.p.rg,I g.p.ln,I g.p.fi,.sl .ro (g.p.aM.map Qm),V,.sl .ro (g.p.bks.map Xh),.sl .ro (g.p.cls.map Qg),V2,.sl .ro (g.cu.map Qi),I g.ed,.sl .ro (g.dr.map Qy),I g.ve]
def Mv(g:Pg):Nat->FuncId->List AV->AV:=fun _ f l=>if f=87 then(if g.p.ens=[]then .sl .ro []else .gd false .junk)else if f=91 then(if g.ev=[]then .sl .ro []else .gd false .junk)else l.headD .junk
def EnW(g:Pg)(V:AV)(W:List (List AV)):Prop:=(g.p.ens=[]/\V=.sl .ro []/\W=[])\/(g.p.ens≠[]/\V=.bs 2 0 g.p.ens.length 7/\W=[(g.p.ens.map Qd).flatten])
def axK(g:Pg)(W:List (List AV))(V:AV)(W2:List (List AV)):Prop:=(g.ev=[]/\V=.sl .ro []/\W2=W)\/(g.ev≠[]/\V=.bs (W.length+2) 0 g.ev.length 7/\W2=W++[(g.ev.map Qf).flatten])
def HP{F:List AV}{k:Nat}{x:AV}(h:F[k]?=some x):F.set k x=F:=by
 apply zzck;intro j;by_cases hj:k=j
 ·subst hj;rw[h,zzaz (zza.1 h).1]
 rw[zzbe hj]
def HQ(g:Pg)(h:PgC g)(Y:YT)(E:List (Nat×AV))(V:AV)(W:List (List AV))(hW:EnW g V W)(Q:Exit->AS->Prop)
  (e1:Abs.look E 1=.ptr 0 0)(e2:Abs.look E 2=.ptr 1 0)(e3:Abs.look E 3=.ptr 0 0)
  (hQ:∀E' V2 W2,Abs.look E' 2=.ptr 1 0->axK g W V2 W2->Q .ret ⟨Ze 106 E',⟨oD g V V2::oD g V V2::W2,[],fun _=>.gone,0⟩⟩):
  vc Tryz.prog az (Mv g) Y BA ⟨Ze 106 E,⟨oD g V (.sl .ro (g.ev.map Qf))::iH::W,[],fun _=>.gone,0⟩⟩ Q:=by
 obtain⟨⟨h1,h2,h3,h4,h5,h6⟩,h7,h8,h9,gi⟩:=h;have Ri:=atM g.p.bks (by omega);have OA:=atN g.p.cls (by omega);have k92:=atO g.cu (by omega);have k93:=atP g.dr (by omega);have hsz:=Qbb (f:=Qf) (sz:=7) (fun _=>rfl) g.ev;by_cases hn:g.ev=[]
 ·have k91:=anG;have hQ:=fun E' h=>hQ E' _ _ h (.inl ⟨hn,rfl,rfl⟩);obtain⟨_,rfl,rfl⟩|⟨_,rfl,rfl⟩:=hW
  ·simp[BA,oD,iH,Mv,hn,e1,e3];refine⟨Ri,OA,k91,?_⟩;refine Qj mA (fun f m=>f 81=I 0/\m=⟨oD g (.sl .ro []) (.sl .ro [])::[iH],[],fun _=>.gone,0⟩) (fun f _=>0) ?_ ?_
   ·exact⟨by simp,by simp[oD,iH]⟩
   rintro f m ⟨f81,rfl⟩;simp[f81,mA,oD,iH,Mv,e1,e2];refine⟨k92,k93,?_⟩;refine hQ _ ?_;simp[e2]
  simp[BA,oD,iH,Mv,hn,e1,e3];refine⟨Ri,OA,k91,?_⟩;refine Qj mA (fun f m=>f 81=I 0/\m=⟨oD g (.bs 2 0 g.p.ens.length 7) (.sl .ro [])::iH::[(g.p.ens.map Qd).flatten],[],fun _=>.gone,0⟩) (fun f _=>0) ?_ ?_
  ·exact⟨by simp,by simp[oD,iH]⟩
  rintro f m ⟨f81,rfl⟩;simp[f81,mA,oD,iH,Mv,e1,e2];refine⟨k92,k93,?_⟩;refine hQ _ ?_;simp[e2]
 have aK:g.ev.map Qf≠[]:=by simpa using hn
 have hQ:=fun E' h=>hQ E' _ _ h (.inr ⟨hn,rfl,rfl⟩);obtain⟨F,hF⟩:∃F,(g.ev.map Qf).flatten=F:=⟨_,rfl⟩;have I1:F.length=g.ev.length*7:=by rw[<- hF,Qad hsz];simp
 rw[hF]at hQ
 have step:∀(i:Nat)(e:bE),g.ev[i]?=some e->(∃r,F.drop (i*7+6)=.sl .ro (e.al.map Qe)::r)/\F.set (i*7+6) (.sl .ro (e.al.map Qe))=F:=by
  intro i e he;obtain⟨⟨r,hd⟩,cm⟩:=lF hsz (i:=i) (row:=Qf e) (by simp[he]);rw[hF]at hd cm
  have h7:F[i*7+6]?=some (.sl .ro (e.al.map Qe)):=by
   have:=congrArg (fun l=>l[6]?) hd;simpa[Qf]using this
  obtain⟨p1,p2⟩:=zza.1 h7;exact⟨⟨F.drop (i*7+6+1),by rw[zzaf p1,p2]⟩,HP h7⟩
 obtain⟨_,rfl,rfl⟩|⟨_,rfl,rfl⟩:=hW
 ·simp[BA,oD,iH,Mv,hn,e1,e3];refine⟨Ri,OA,aaK _ _ hsz (by simpa using by omega) aK _ _ ?_⟩;simp;rw[hF];refine Qj mA (fun f m=>∃i:Nat,f 81=I i/\i<=g.ev.length/\m=⟨oD g (.sl .ro []) (.bs 2 0 g.ev.length 7)::iH::[F],[],fun _=>.gone,0⟩) (fun f _=>g.ev.length-(numOf (f 81)).toNat) ?_ ?_
  ·exact⟨0,by simp,by omega,by simp[oD,iH]⟩
  rintro f m ⟨i,f81,hi,rfl⟩;rcases zzaa i g.ev.length with ai|bu
  ·obtain⟨e,he⟩:=aR ai;have aa:(i:Int)<(g.ev.length:Int):=by omega
   have hw:=bK i (by omega);obtain⟨⟨r,hd⟩,hs6⟩:=step i e he;have Rh:min 1 (g.ev.length*7-(i*7+6))=1:=by omega
   have k88:=Ja e.al (gi e (zzac he));simp[f81,mA,oD,aa,hd,hs6,I1,hw,Mv,e1];refine⟨k88,by omega,aO,⟨i+1,by simp,by omega⟩,by omega⟩
  obtain rfl:i=g.ev.length:=by omega
  simp[f81,mA,oD,iH,Mv,e1,e2];refine⟨k92,k93,?_⟩;refine hQ _ ?_;simp[e2]
 simp[BA,oD,iH,Mv,hn,e1,e3];refine⟨Ri,OA,aaK _ _ hsz (by simpa using by omega) aK _ _ ?_⟩;simp;rw[hF];refine Qj mA (fun f m=>∃i:Nat,f 81=I i/\i<=g.ev.length/\m=⟨oD g (.bs 2 0 g.p.ens.length 7) (.bs 3 0 g.ev.length 7)::iH::[(g.p.ens.map Qd).flatten,F],[],fun _=>.gone,0⟩) (fun f _=>g.ev.length-(numOf (f 81)).toNat) ?_ ?_
 ·exact⟨0,by simp,by omega,by simp[oD,iH]⟩
 rintro f m ⟨i,f81,hi,rfl⟩;rcases zzaa i g.ev.length with ai|bu
 ·obtain⟨e,he⟩:=aR ai;have aa:(i:Int)<(g.ev.length:Int):=by omega
  have hw:=bK i (by omega);obtain⟨⟨r,hd⟩,hs6⟩:=step i e he;have Rh:min 1 (g.ev.length*7-(i*7+6))=1:=by omega
  have k88:=Ja e.al (gi e (zzac he));simp[f81,mA,oD,aa,hd,hs6,I1,hw,Mv,e1];refine⟨k88,by omega,aO,⟨i+1,by simp,by omega⟩,by omega⟩
 obtain rfl:i=g.ev.length:=by omega
 simp[f81,mA,oD,iH,Mv,e1,e2];refine⟨k92,k93,?_⟩;refine hQ _ ?_;simp[e2]
def SI(g:Pg)(h:PgC g):Pure Tryz.prog az 44 [.agg (Qo g)] (.agg (Qo g)):=by
 have h0:=h;obtain⟨⟨h1,h2,h3,h4,h5,h6⟩,h7,h8,h9,gi⟩:=h;have k85:=atJ g.p.sh (by omega);have k86:=atK g.p.aM (by omega);have hsz:=Qbb (f:=Qd) (sz:=7) (fun _=>rfl) g.p.ens;have atQ:=Qbb (f:=Qf) (sz:=7) (fun _=>rfl) g.ev;obtain⟨F2,qx⟩:∃F,(g.ev.map Qf).flatten=F:=⟨_,rfl⟩;have agB:Zg F2=true:=by rw[<- qx];exact fu (fun _=>rfl) _
 have atS:aV 7 g.ev.length F2=g.ev.map Qf:=by have:=Ju atQ;rw[qx]at this;simpa using this
 have atT:F2.length=g.ev.length*7:=by rw[<- qx,Qad atQ];simp
 have atU:∀m,F2.map (bF m 4)=F2:=fun m=>Zm m 3 agB;obtain⟨F,hF⟩:∃F,(g.p.ens.map Qd).flatten=F:=⟨_,rfl⟩;have bV:Zg F=true:=by rw[<- hF];exact fu (fun _=>rfl) _
 have lX:aV 7 g.p.ens.length F=g.p.ens.map Qd:=by have:=Ju hsz;rw[hF]at this;simpa using this
 have I1:F.length=g.p.ens.length*7:=by rw[<- hF,Qad hsz];simp
 have zW:∀m,F.map (bF m 4)=F:=fun m=>Zm m 3 bV;refine Qn akU (Mv g) (by simp) ?_;rw[agz];by_cases hn:g.p.ens=[]
 ·simp[anH,Qo,Qc,Mv,hn];refine⟨k85,k86,anF,?_⟩;refine Qj Ek (fun f m=>f 38=I 0/\m=⟨oD g (.sl .ro []) (.sl .ro (g.ev.map Qf))::[iH],[],fun _=>.gone,0⟩) (fun f _=>0) ?_ ?_
  ·exact⟨by simp,by simp[oD,iH]⟩
  rintro f m ⟨f38,rfl⟩;simp[f38,Ek];refine HQ g h0 Y0 _ (.sl .ro []) [] (.inl ⟨hn,rfl,rfl⟩) _ (by simp) (by simp) (by simp) ?_;intro E' V2 W2 f2 FR;obtain⟨nA,rfl,rfl⟩|⟨nA,rfl,rfl⟩:=FR
  ·simp[TG,f2,oD,nA]
  rw[qx];simp[TG,f2,oD,atS,atT,atU]
 have aK:g.p.ens.map Qd≠[]:=by simpa using hn
 have step:∀(i:Nat)(e:En),g.p.ens[i]?=some e->(∃r,F.drop (i*7+6)=.sl .ro (e.al.map Qe)::r)/\F.set (i*7+6) (.sl .ro (e.al.map Qe))=F:=by
  intro i e he;obtain⟨⟨r,hd⟩,cm⟩:=lF hsz (i:=i) (row:=Qd e) (by simp[he]);rw[hF]at hd cm
  have h7:F[i*7+6]?=some (.sl .ro (e.al.map Qe)):=by
   have:=congrArg (fun l=>l[6]?) hd;simpa[Qd]using this
  obtain⟨p1,p2⟩:=zza.1 h7;exact⟨⟨F.drop (i*7+6+1),by rw[zzaf p1,p2]⟩,HP h7⟩
 simp[anH,Qo,Qc,Mv,hn];refine⟨k85,k86,anE _ _ hsz (by simpa using by omega) aK _ _ ?_⟩;simp;rw[hF];refine Qj Ek (fun f m=>∃i:Nat,f 38=I i/\i<=g.p.ens.length/\m=⟨oD g (.bs 2 0 g.p.ens.length 7) (.sl .ro (g.ev.map Qf))::iH::[F],[],fun _=>.gone,0⟩) (fun f _=>g.p.ens.length-(numOf (f 38)).toNat) ?_ ?_
 ·exact⟨0,by simp,by omega,by simp[oD,iH]⟩
 rintro f m ⟨i,f38,hi,rfl⟩;rcases zzaa i g.p.ens.length with ai|bu
 ·obtain⟨e,he⟩:=aR ai;have aa:(i:Int)<(g.p.ens.length:Int):=by omega
  have hw:=bK i (by omega);obtain⟨⟨r,hd⟩,hs6⟩:=step i e he;have Rh:min 1 (g.p.ens.length*7-(i*7+6))=1:=by omega
  have k88:=Ja e.al (h6 e (zzac he));simp[f38,Ek,oD,aa,hd,hs6,I1,hw,Mv];refine⟨k88,by omega,aO,⟨i+1,by simp,by omega⟩,by omega⟩
 obtain rfl:i=g.p.ens.length:=by omega
 simp[f38,Ek];refine HQ g h0 Y0 _ (.bs 2 0 g.p.ens.length 7) [F] (.inr ⟨hn,rfl,by rw[hF]⟩) _ (by simp) (by simp) (by simp) ?_;intro E' V2 W2 f2 FR;obtain⟨nA,rfl,rfl⟩|⟨nA,rfl,rfl⟩:=FR
 ·simp[TG,f2,oD,nA,lX,I1,zW]
 rw[qx];simp[TG,f2,oD,atS,atT,atU,lX,I1,zW]
open Go Go.Abs
def z6(x:Sh):List Sh->Nat->Int
 |[],_=> -1
 |a::r,i=>if x=a then i else z6 x r (i+1)
def HR(x:Sh):∀(L:List Sh)(i:Nat),(0<=z6 x L i)=(x∈L)
 |[],i=>by simp[z6]
 |a::r,i=>by
  unfold z6;by_cases h:x=a
  ·rw[if_pos h];simp[h]
  rw[if_neg h,HR x r (i+1)];simp[h]
def aaL(L:List Sh)(x:Sh)(hl:L.length<=1000000000):Pure Tryz.prog az 111 [.sl .ro (L.map Zk),.agg (Zk x)] (I (z6 x L 0)):=by
 obtain⟨x1,x2,x3⟩:=x;refine Qn ack (fun _ _ _=>.junk) (by simp) ?_;simp[ahg,Zk];refine Qj BQ (fun f m=>∃i:Nat,f 8=I i/\i<=L.length/\z6 (x1,x2,x3) (L.drop i) i=z6 (x1,x2,x3) L 0/\m=⟨[[I x1,I x2,I x3]],[],fun _=>.gone,0⟩) (fun f _=>L.length-(numOf (f 8)).toNat) ?_ ?_
 ·exact⟨0,by simp,by omega,by simp,rfl⟩
 rintro f m ⟨i,f8,hi,hr,rfl⟩;rcases zzaa i L.length with ai|bu
 ·obtain⟨a,ha⟩:=aR ai;have hd:L.drop i=a::L.drop (i+1):=by rw[zzaf ai,(zza.1 ha).2]
  obtain⟨a1,a2,a3⟩:=a;have ah:Qh (L.map Zk) i=[I a1,I a2,I a3]:=Qs (by simp[ha,Zk]);have aa:(i:Int)<(L.length:Int):=by omega
  have hw:=bK i (by omega);rw[hd,z6]at hr;by_cases hP:(x1,x2,x3)=(a1,a2,a3)
  ·rw[if_pos hP]at hr;obtain⟨rfl,rfl,rfl⟩:x1=a1/\x2=a2/\x3=a3:=by simpa using hP
   simp[f8,BQ,TP,aa,ah];exact hr
  rw[if_neg hP]at hr;have hP':¬(x1=a1/\x2=a2/\x3=a3):=by simpa using hP
  have hb:(x1==a1&&(x2==a2&&x3==a3))=false:=by
   cases hq:(x1==a1&&(x2==a2&&x3==a3))with
   |false=>rfl
   |true=>simp at hq;exact absurd hq hP'
  simp[f8,BQ,aa,ah,hw,hb];refine⟨aO,⟨i+1,by simp,by omega,hr⟩,by omega⟩
 obtain rfl:i=L.length:=by omega
 rw[zzbo,z6]at hr;simp[f8,BQ,TP];exact hr
def Mw(L:List Sh)(x:Sh)(hl:L.length<=1000000000):Pure Tryz.prog az 54 [.sl .ro (L.map Zk),.agg (Zk x)] (.bool (decide (x∈L))):=by
 have k:=aaL L x hl;obtain⟨x1,x2,x3⟩:=x;simp only[Zk]at k;refine Qn akZ (fun _ _ _=>I (z6 (x1,x2,x3) L 0)) (by simp) ?_;simp[ao7,ao8,Zk];refine⟨k,?_⟩;simp[<- HR (x1,x2,x3) L 0]
def SJ(M:Md)(c r f:Int)(s:Sh):Bool:=if s.1=0/\s.2.1=0 then decide (Xt M c r f≠[])else decide (s∈Xt M c r f)
def Qer(M:Md)(hM:MoK M)(c r f:Int):(Xt M c r f).length<=10000000:=by
 unfold Xt;cases hl:O8 M c with
 |none=>simp
 |some l=>
  cases l with
  |nil=>simp
  |cons g l=>
   simp only;split
   ·simp
   have cU:=lQ hl;have h1:=aay r f (g::l) (fun g hg e he=>((hM.ev _ cU g hg).2 e he).2) (Vv (fA f M.os) (Vw f M.os)) (Vv (fA f M.os) (Vw f M.os)).length;have hc:=DK f M.os;have oA:=(Mo f M.os).1;have h2:(Vv (fA f M.os) (Vw f M.os)).length<=1000:=yJ 1000 _ (by have:=hM.lo;omega);unfold Ms at h1;rw[zzbs]at h1;omega
def Pq(Y:YT)(m:AM)(md:Nat)(M:Md)(pid aQ:Nat)(bn:List Rt)(bQ:Rt)(z:List AV)(c r f:Int)(s:Sh)(h:gA m.boxes md M pid aQ bn bQ z)(hM:MoK M)(aS:∀rt∈bn,rt=.full\/∃k,rt=.own k 18)
  (hf:f<=9223372036854775807)(K:AV->AM->Prop)
  (hK:∀ex lx kK kL,K (.bool (SJ M c r f s)) ⟨m.boxes++ex,m.lens++lx,kK,kL⟩):
  an Tryz.prog az Y 27 [.ptr md 0,I c,I r,I f,.agg (Zk s)] m K:=by
 obtain⟨mb,ml,ms,mn⟩:=m;have hB:∀ex,gA (mb++ex) md M pid aQ bn bQ z:=fun ex=>h.ext ex;have ka:=fun ex K hK=>Qaj Y ⟨mb++ex,ml,ms,mn⟩ md M pid aQ bn bQ z c r f (hB ex) hM aS hf K hK;have kc:=Mw (Xt M c r f) s (by have:=Qer M hM c r f;omega);have aH:=Qer M hM c r f;obtain⟨s1,s2,s3⟩:=s;simp only[Zk]at kc;refine Xe akJ (fun _ fn _=>if fn=54 then .bool (decide ((s1,s2,s3)∈Xt M c r f))else .gd false .junk) (by simp) ?_;simp[aoW,Zk];refine ka _ _ fun ex lx kK kL=>?_;have hK:=fun iq=>hK ([I s1,I s2,I s3]::(ex++iq)) lx kK kL;simp only[SJ]at hK;generalize Xt M c r f=al at*
 by_cases h1:s1=0
 ·by_cases h2:s2=0
  ·cases al with
   |nil=>
    simp[h1,h2,TC]at hK |-
    simpa using hK []
   |cons a t=>
    simp[h1,h2,TC]at hK |-
    simpa using hK []
  simp[h1,h2,TC]at hK kc |-
  exact⟨kc,by simpa using hK []⟩
 simp[h1,TC]at hK kc |-
 exact⟨kc,by simpa using hK []⟩
end
end Go.Proofs.YtnopaopphmjnmaaGreatDoor
