import Derived.Test.YtnopaopphmjnmaaGreatDoorMQMcS
import Derived.Test.YtnopaopphmjnmaaGreatDoorMQMcU
set_option linter.all false
set_option maxRecDepth 100000
set_option maxHeartbeats 64000000
namespace Go.Proofs.YtnopaopphmjnmaaGreatDoor
noncomputable section
open Go Go.Abs
def ak0:SC:=(⟨_,fun _=>by cbv⟩:Kq [1,0,1,1,1,1,0,1,0] QS).1 ag3
theorem abn:QS=ak0:=rfl
def Iw(f:Int):Nat->FuncId->List AV->AV:=fun d fn l=>if fn=48 then(match l with
 |[.sl _ rows,_]=>UE f (zy f (rows.map dEv))
 |_=>.junk)else if fn=999999 then .junk else .gd false .junk
def PW(f:Int):∀L:List bE,zy f (L.map Td)=(zy f L).map Td
 |[]=>rfl
 |e::r=>by
  rw[zzay,zy,zy];have h:th f (Td e)=th f e:=rfl;rw[h];split
  ·rfl
  exact PW f r
def Tr(f:Int)(x:Option bE):UE f (x.map Td)=UE f x:=by cases x<;>rfl
def ag8(f:Int)(d:Nat)(L:List bE):Iw f d 48 [.sl .ro (L.map Qe),I f]=UE f (zy f L):=by
 show UE f (zy f ((L.map Qe).map dEv))=_;rw[PK,PW,Tr]
structure MoK (M:Md):Prop where
 os:∀o∈M.os,0<=o.2/\o.2<=1000000000000
 n:∀l∈M.ps,l.length=M.os.length+1
 lo:M.os.length<=900
 ev:∀l∈M.ps,∀g∈l,g.ev.length<=1000000000/\∀e∈g.ev,Ul e/\e.al.length<=1000
def lS{M:Md}{c:Int}{l:List Pg}(h:Yx M c=some l):l∈M.ps:=by
 unfold Yx at h;cases ha:af c M.pl with
 |none=>rw[ha]at h;cases h
 |some i=>rw[ha]at h;exact zzac h
def kP(Y:YT)(m:AM)(md:Nat)(M:Md)(pid aQ:Nat)(aV:List Rt)(bI:Rt)(z:List AV)(c r f:Int)(h:gD m.boxes md M pid aQ aV bI z)(hM:MoK M)(aT:∀rt∈aV,rt=.full\/∃k,rt=.own k 18)
  (hf:f<=9223372036854775807)(K:AV->AM->Prop)
  (hK:∀ex lx Aq Ar,K (.sl .ro ((Zi M c r f).map Vj)) ⟨m.boxes++ex,m.lens++lx,Aq,Ar⟩):
  an Tryz.prog aA Y 23 [.ptr md 0,I c,I r,I f] m K:=by
 obtain⟨mb,ml,ms,mn⟩:=m;refine an.wk ?_;have hB:∀ex,gD (mb++ex) md M pid aQ aV bI z:=fun ex=>h.ext ex;have kc:=fun ex K h0 h1=>Ig Y ⟨mb++ex,ml,ms,mn⟩ md M pid aQ aV bI z c (hB ex) K h0 h1;have kv:=fun ex K hK=>auA Y ⟨mb++ex,ml,ms,mn⟩ md M pid aQ aV bI z f (hB ex) hM.os K hK;have hK':∀ex Aq Ar,K (.sl .ro ((Zi M c r f).map Vj)) ⟨mb++ex,ml,Aq,Ar⟩:=fun ex Aq Ar=>by simpa using hK ex [] Aq Ar
 refine Xd alw (Iw f) zd ?_;rw[abn];simp[ak0];refine kc _ _ (fun hn=>?_) (fun l hl rt aor=>?_)
 ·have ha:Zi M c r f=[]:=by unfold Zi;rw[hn]
  rw[ha]at hK';simp[QT];exact⟨_,Wk.sl _ _,hK' _ _ _⟩
 have fS:∃ce,tH rt ce:=by
  rcases aT rt aor with rfl|⟨k,rfl⟩
  ·exact⟨_,fun m d x=>rfl⟩
  exact⟨_,tH.own _ _⟩
 cases l with
 |nil=>
  have ha:Zi M c r f=[]:=by unfold Zi;rw[hl]
  rw[ha]at hK';simp[QT];exact⟨_,Wk.sl _ _,hK' _ _ _⟩
 |cons g l=>
  have ah:Qh ((g::l).map Qm) 0=Qm g:=rfl;simp only[zzay]at ah;by_cases h1:r<0
  ·have ha:Zi M c r f=[]:=by unfold Zi;rw[hl];simp only;rw[if_pos (.inl h1)]
   rw[ha]at hK';simp[QT,h1];exact⟨_,Wk.sl _ _,hK' _ _ _⟩
  by_cases h2:g.p.rg<=r
  ·have ha:Zi M c r f=[]:=by unfold Zi;rw[hl];simp only;rw[if_pos (.inr h2)]
   rw[ha]at hK';simp[QT,h1,h2,Qm,Qa];exact⟨_,Wk.sl _ _,hK' _ _ _⟩
  have ha:Zi M c r f=sh0::(Yg (uE f M.os) (Wo f M.os)).flatMap (iO r f (g::l)):=by unfold Zi;rw[hl];simp only;rw[if_neg zE]
  rw[ha]at hK;have dU:=lS hl;have hn:=hM.n _ dU;have JJ:=hM.lo;have hc:=Ec f M.os;have kW:=(MQ f M.os).1;have hz:¬((l.length:Int)+1=0):=zE
  simp[QT,h1,h2,Qm,Qa,hz,Iw];refine kv _ _ ?_;simp only[zzb,zzad,zzah,zzai,zzbe,zzcf];show vc Tryz.prog aA (Iw f) Y ag3 ⟨Xv 96 _,⟨fT mb r f rt (g::l) .full [sh0] [[I (uE f M.os)],[I (Wo f M.os)]],ml,ms,mn⟩⟩ _;clear kc kv hK' hB h;refine ag4 Y (Iw f) ?_ _ mb ml ms mn r f (uE f M.os) (Wo f M.os) rt (g::l) _ ?_ ?_ ?_ ?_ ?_ ?_ ?_ ?_ ?_ ?_ ?_ ?_ ?_
  ·exact fun _ _=>rfl
  ·exact ag8 f
  ·simp
  ·simp
  ·simp
  ·simp
  ·simp
  ·omega
  ·omega
  ·omega
  ·exact hM.ev _ dU
  ·exact hf
  ·omega
  intro fB bx cM Aq Ar hp;obtain⟨⟨lx,rfl⟩,_⟩:=hp;simp[fT];exact⟨_,Wk.sl _ _,by simpa[fT]using hK _ lx Aq Ar⟩
open Go Go.Abs
def iT(c:Int):Pl:=⟨c,25,1,0,[],0,1,200,1,[⟨1,5,300,0,0⟩,⟨2,2,20,0,0⟩,⟨3,4,100,0,0⟩],[⟨1,2,20,0,0,0,[]⟩,⟨2,3,40,20,50,0,[]⟩],[],[⟨1,2,0,1000,255,0,0,0⟩,⟨1,3,0,1000,255,0,0,0⟩]⟩
def yZ:Pl:={iT 0 with ens:=[⟨1,2,20,0,0,0,[]⟩]}
def bS:Pg:=⟨iT 0,[⟨1,2,0,20,0,1,[],false⟩,⟨2,3,20,40,0,1,[],false⟩,⟨0,1,60,140,0,1,[],true⟩],[],0,[],0⟩
def Iy:Pg:=⟨yZ,[⟨1,2,0,20,0,1,[],false⟩,⟨2,3,20,10,0,1,[],false⟩,⟨0,1,30,170,0,1,[],true⟩],[],0,[],1⟩
def iU(n:Int):Od:=⟨n,0,30,2,2,0,lJ,og,oh⟩
def aos(fr a:Int):Yc fr a a=[]:=by rw[Yc,if_neg zE]
def auG{fr t a:Int}(h:a<t)(h2:t-a<=fr):Yc fr t a=[(a,t-a)]:=by
 have hN:Uy fr t a=t-a:=by unfold Uy;rw[if_pos zE];omega
 rw[Yc,if_pos h,hN,show a+(t-a)=t by omega,aos]
def ak1:oa (iT 0)=true:=by cbv
def auH:oa yZ=true:=by cbv
def auI:Jq (iT 0) [1,2] [] [] 0 (-1)=some [(1,0),(2,20)]:=by rw[<- PX];cbv
def ak2:J2 (iT 0)=some [(1,0),(2,20)]:=by unfold J2;rw[if_neg (by rw[ak1];decide)];exact auI
def ayT:z8 (iT 0) ⟨1,2,20,0,0,0,[]⟩ 0=⟨1,2,0,20,0,1,[],false⟩:=by cbv
def ayU:z8 (iT 0) ⟨2,3,40,20,50,0,[]⟩ 20=⟨2,3,20,40,0,1,[],false⟩:=by cbv
def auJ:DC (iT 0) [(1,0),(2,20)] 0=bS.ev:=by
 have h1:mU (iT 0) (1,0) 0=some ⟨1,2,20,0,0,0,[]⟩:=by cbv
 have h2:mU (iT 0) (2,20) 20=some ⟨2,3,40,20,50,0,[]⟩:=by cbv
 have hf:Yk (iT 0)=300:=by cbv
 have hl:(iT 0).ln=200:=rfl;rw[DC,if_neg (by rw[hl];omega),uY,h1];simp only[hf,aos,zzcc,zzah];rw[show(0:Int)+20=20 from rfl,uY,h2];simp only[hf,aos,zzcc,zzah];rw[show(20:Int)+40=60 from rfl,uY,hf,hl,auG zE zE,ayT,ayU];rfl
def auK:uD (iT 0)=bS:=by unfold uD;rw[ak2];simp only;rw[auJ];rfl
def auL:zD (iT 0)=0:=by unfold zD;rw[if_neg (by rw[ak1];decide),ak2]
def Em:mw [iT 0]=some ⟨[(0,0)],[[bS]],[]⟩:=by
 unfold mw;rw[if_neg zd,mq,if_neg (by rw[auL];simp[md0,iT,af]),mq,auK];rfl
def abo(n:Int)(h:0<=n/\n<=200):Xy (iU n)=true:=by
 unfold Xy;rw[if_neg (by simp[iU];omega),if_neg (by simp[iU]),if_neg (by simp[iU]),if_neg (by simp[iU])];simp[iU,okB,Jo,Jy,eX,lJ,og,oh,eB]
def aot:yR (cr bS) 30 (Vb 30 (cr bS).ev []) (iU 1)=some (yZ,0):=by
 unfold yR;rw[if_neg (by simp[cr,bS,iT])];have hb:Wq (cr bS) 30 (Vb 30 (cr bS).ev []) (iU 1)=some (yZ,0):=by cbv
 have hm:D7 (cr bS) 30 (Vb 30 (cr bS).ev []) (iU 1) yZ 0=true:=by cbv
 rw[hb];simp only;rw[if_pos (by rw[auH,hm];rfl)]
def MU:Kk (cr bS) (Vb 30 (cr bS).ev []) yZ.ens=[]:=by cbv
def aou:Xw (cr bS) (iU 1)=Iy:=by
 have hc:Kv (cr bS) (iU 1)=true:=by
  unfold Kv;rw[abo 1 zE];rfl
 have dH:mj (cr bS) 30 (Vb 30 (cr bS).ev []) (iU 1) yZ 0=none:=by cbv
 have he:Ku (cr bS) 30 (Vb 30 (cr bS).ev []) (iU 1) yZ 0=30:=by unfold Ku;rw[dH]
 have h1:Jw (cr bS) 30 (Vb 30 (cr bS).ev []) (iU 1) yZ 0=[⟨1,2,0,20,0,1,[],false⟩,⟨2,3,20,10,0,1,[],false⟩]:=by unfold Jw;rw[dH];cbv
 have hk:tI (cr bS) 30 (Vb 30 (cr bS).ev []) (iU 1) yZ 0=[]:=by unfold tI;rw[MU];rfl
 have hs:Yy (cr bS) 30 (Vb 30 (cr bS).ev []) (iU 1) yZ 0=[]:=by unfold Yy;rw[MU,hk];rfl
 have hd:PG (cr bS) 30 (Vb 30 (cr bS).ev []) (iU 1) yZ 0=[]:=by unfold PG;rw[MU,hk];rfl
 have hf:Yk yZ=300:=by cbv
 have hl:yZ.ln=200:=rfl
 have hb:iw (cr bS) 30 (Vb 30 (cr bS).ev []) (iU 1) yZ 0=[⟨0,1,30,170,0,1,[],true⟩]:=by
  unfold iw;rw[hs,he,DC,if_neg (by rw[hl];omega),uY,hf,hl,auG zE zE];rfl
 unfold Xw;rw[if_neg (by rw[hc];decide),if_neg (by simp[iU])];have hx:yR (cr bS) (iU 1).fr (Vb (iU 1).fr (cr bS).ev []) (iU 1)=some (yZ,0):=aot;rw[hx];simp only;show kK (cr bS) (iU 1) (Vb 30 (cr bS).ev []) yZ 0=Iy;unfold kK;show({cr bS with p:=yZ,ev:=Jw (cr bS) 30 _ _ yZ 0++iw (cr bS) 30 _ _ yZ 0,dr:=dd (Ww ((cr bS).dr++PG (cr bS) 30 _ _ yZ 0)),ve:=(cr bS).ve+1}:Pg)=Iy;rw[h1,hb,hd];have hsd:Ww ([]:List Int)=[]:=by unfold Ww;simp
 show({cr bS with p:=yZ,ev:=_,dr:=dd (Ww []),ve:=_}:Pg)=Iy;rw[hsd];rfl
def dx:Md:=⟨[(0,0)],[[bS,Iy]],[(1,30)]⟩
def Eo:zF ⟨[(0,0)],[[bS]],[]⟩ (iU 1)=some dx:=by
 unfold zF Ao;rw[abo 1 zE];simp[iU,Vv,dx];exact aou
def abp:zF dx (iU 3)=none:=by
 unfold zF Ao;rw[abo 3 zE];simp[iU,dx]
def ag9:Yg 0 1=[0,1]:=by
 rw[Yg,if_pos zE,Yg,if_pos zE,Yg,if_neg zE];rfl
def aha:Yg 1 1=[1]:=by
 rw[Yg,if_pos zE,Yg,if_neg zE]
def ayV:uE 37 dx.os=0:=by cbv
def auM:uE 38 dx.os=1:=by cbv
def ayW:uE 32 dx.os=0:=by cbv
def ayX:Wo 37 dx.os=1:=by cbv
def auN:Wo 38 dx.os=1:=by cbv
def ayY:Wo 32 dx.os=1:=by cbv
def abq:Yx dx 0=some [bS,Iy]:=by cbv
def auO:Zi dx 0 0 32=[(0,0,0),(3,12,0),(1,2,1)]:=by
 unfold Zi;rw[abq];simp only;rw[if_neg (by simp[bS,iT]),ayW,ayY,ag9];cbv
def abr:Zi dx 0 0 38=[(0,0,0),(1,8,1)]:=by
 unfold Zi;rw[abq];simp only;rw[if_neg (by simp[bS,iT]),auM,auN,aha];cbv
def ayZ:Zi dx 0 1 32=[]:=by
 unfold Zi;rw[abq];simp only;rw[if_pos (by simp[bS,iT])]
open Go Go.Abs
def auP(l:List Sp)(h:l.length<=8796093022208):Pure Tryz.prog aA 85 [.sl .ro (l.map Qf)] (.sl .ro (l.map Qf)):=by
 cases l with
 |nil=>
  refine Vo (r:=.sl .ro []) (Xa (r:=.sl .nil []) (Qo KA (fun _ _ _=>.junk) zd (by simp[acF,acG])) (Wk.sl _ _)) ?_;have:∃rt,Pure Tryz.prog aA 85 [.sl .nn []] (.sl rt []):=⟨.ro,Qo KA (fun _ _ _=>.junk) zd (by simp[acF,acG])⟩;obtain⟨rt,h⟩:=this;exact Xa h (Wk.sl _ _)
 |cons x r=>
  refine Qo KA (fun _ _ _=>.junk) zd ?_;simp[acF,acG];simp at h;refine⟨⟨rfl,?_⟩,zE⟩;rintro row a b _ rfl;rfl
def auQ(l:List It)(h:l.length<=1000000000):Pure Tryz.prog aA 86 [.sl .ro (l.map Qn)] (.sl .ro (l.map Qn)):=by
 cases l with
 |nil=>
  refine Vo (r:=.sl .ro []) (Xa (r:=.sl .nil []) (Qo KB (fun _ _ _=>.junk) zd (by simp[acH,acI])) (Wk.sl _ _)) ?_;have:∃rt,Pure Tryz.prog aA 86 [.sl .nn []] (.sl rt []):=⟨.ro,Qo KB (fun _ _ _=>.junk) zd (by simp[acH,acI])⟩;obtain⟨rt,h⟩:=this;exact Xa h (Wk.sl _ _)
 |cons x r=>
  refine Qo KB (fun _ _ _=>.junk) zd ?_;simp[acH,acI];simp at h;exact⟨⟨rfl,fun _ _=>rfl⟩,zE⟩
def auR(l:List Bk)(h:l.length<=1000000000):Pure Tryz.prog aA 89 [.sl .ro (l.map Xg)] (.sl .ro (l.map Xg)):=by
 cases l with
 |nil=>
  refine Vo (r:=.sl .ro []) (Xa (r:=.sl .nil []) (Qo KE (fun _ _ _=>.junk) zd (by simp[acN,acO])) (Wk.sl _ _)) ?_;have:∃rt,Pure Tryz.prog aA 89 [.sl .nn []] (.sl rt []):=⟨.ro,Qo KE (fun _ _ _=>.junk) zd (by simp[acN,acO])⟩;obtain⟨rt,h⟩:=this;exact Xa h (Wk.sl _ _)
 |cons x r=>
  refine Qo KE (fun _ _ _=>.junk) zd ?_;simp[acN,acO];simp at h;exact⟨⟨rfl,fun _ _=>rfl⟩,zE⟩
def auS(l:List Cl)(h:l.length<=1000000000):Pure Tryz.prog aA 90 [.sl .ro (l.map Qg)] (.sl .ro (l.map Qg)):=by
 cases l with
 |nil=>
  refine Vo (r:=.sl .ro []) (Xa (r:=.sl .nil []) (Qo KF (fun _ _ _=>.junk) zd (by simp[acP,acQ])) (Wk.sl _ _)) ?_;have:∃rt,Pure Tryz.prog aA 90 [.sl .nn []] (.sl rt []):=⟨.ro,Qo KF (fun _ _ _=>.junk) zd (by simp[acP,acQ])⟩;obtain⟨rt,h⟩:=this;exact Xa h (Wk.sl _ _)
 |cons x r=>
  refine Qo KF (fun _ _ _=>.junk) zd ?_;simp[acP,acQ];simp at h;exact⟨⟨rfl,fun _ _=>rfl⟩,zE⟩
def auT(l:List Cue)(h:l.length<=1000000000):Pure Tryz.prog aA 92 [.sl .ro (l.map Qi)] (.sl .ro (l.map Qi)):=by
 cases l with
 |nil=>
  refine Vo (r:=.sl .ro []) (Xa (r:=.sl .nil []) (Qo KH (fun _ _ _=>.junk) zd (by simp[acT,acU])) (Wk.sl _ _)) ?_;have:∃rt,Pure Tryz.prog aA 92 [.sl .nn []] (.sl rt []):=⟨.ro,Qo KH (fun _ _ _=>.junk) zd (by simp[acT,acU])⟩;obtain⟨rt,h⟩:=this;exact Xa h (Wk.sl _ _)
 |cons x r=>
  refine Qo KH (fun _ _ _=>.junk) zd ?_;simp[acT,acU];simp at h;exact⟨⟨rfl,fun _ _=>rfl⟩,zE⟩
def auU(l:List Int)(h:l.length<=1000000000):Pure Tryz.prog aA 93 [.sl .ro (l.map Qy)] (.sl .ro (l.map Qy)):=by
 cases l with
 |nil=>
  refine Vo (r:=.sl .ro []) (Xa (r:=.sl .nil []) (Qo qK (fun _ _ _=>.junk) zd (by simp[KI,KJ])) (Wk.sl _ _)) ?_;have:∃rt,Pure Tryz.prog aA 93 [.sl .nn []] (.sl rt []):=⟨.ro,Qo qK (fun _ _ _=>.junk) zd (by simp[KI,KJ])⟩;obtain⟨rt,h⟩:=this;exact Xa h (Wk.sl _ _)
 |cons x r=>
  refine Qo qK (fun _ _ _=>.junk) zd ?_;simp[KI,KJ];simp at h;exact⟨⟨rfl,fun _ _=>rfl⟩,zE⟩
def PY:Nat->FuncId->List AV->AV:=fun d f _=>if f=999999 then(if d=7 then .aL 0 []else .junk)else .junk
def aov(Y:YT)(rows:List (List AV))(h:∀r∈rows,r.length=7)(hl:rows.length<=1000000000)(aM:rows≠[])(m:AM)(K:AV->AM->Prop)(hK:K (.bs m.boxes.length 0 rows.length 7) {m with boxes:=m.boxes++[rows.flatten]}):
  an Tryz.prog aA Y 87 [.sl .ro rows] m K:=by
 obtain⟨x,r,rfl⟩:=zzfe aM;refine Xd KC PY zd ?_;simp[acJ,acK,PY];simp at h hK hl;exact⟨⟨zE,h⟩,hK⟩
def aow:Pure Tryz.prog aA 87 [.sl .ro []] (.sl .ro []):=by
 refine Vo (r:=.sl .ro []) (Xa (r:=.sl .nil []) (Qo KC (fun _ _ _=>.junk) zd (by simp[acJ,acK])) (Wk.sl _ _)) ?_;have:∃rt,Pure Tryz.prog aA 87 [.sl .nn []] (.sl rt []):=⟨.ro,Qo KC (fun _ _ _=>.junk) zd (by simp[acJ,acK])⟩;obtain⟨rt,h⟩:=this;exact Xa h (Wk.sl _ _)
def abt(Y:YT)(rows:List (List AV))(h:∀r∈rows,r.length=7)(hl:rows.length<=1000000000)(aM:rows≠[])(m:AM)(K:AV->AM->Prop)(hK:K (.bs m.boxes.length 0 rows.length 7) {m with boxes:=m.boxes++[rows.flatten]}):
  an Tryz.prog aA Y 91 [.sl .ro rows] m K:=by
 obtain⟨x,r,rfl⟩:=zzfe aM;refine Xd KG PY zd ?_;simp[acR,acS,PY];simp at h hK hl;exact⟨⟨zE,h⟩,hK⟩
def aox:Pure Tryz.prog aA 91 [.sl .ro []] (.sl .ro []):=by
 refine Vo (r:=.sl .ro []) (Xa (r:=.sl .nil []) (Qo KG (fun _ _ _=>.junk) zd (by simp[acR,acS])) (Wk.sl _ _)) ?_;have:∃rt,Pure Tryz.prog aA 91 [.sl .nn []] (.sl rt []):=⟨.ro,Qo KG (fun _ _ _=>.junk) zd (by simp[acR,acS])⟩;obtain⟨rt,h⟩:=this;exact Xa h (Wk.sl _ _)
def BW:SC:=(⟨_,by cbv⟩:uf [1,1,1,1,1,1] Q0).1
def aoy:SC:=(⟨_,fun _=>by cbv⟩:Kq [1,1,1,1,1,1] Q0).1 BW
theorem ahb:Q0=aoy:=rfl
def oI(g:Pg)(V V2:AV):List AV:=[I g.p.ch,I g.p.nu,I g.p.de,I g.p.of,.sl .ro (g.p.sh.map Qf),I g.p.ep,I g.p.rg,I g.p.ln,I g.p.fi,.sl .ro (g.p.aN.map Qn),V,.sl .ro (g.p.bks.map Xg),.sl .ro (g.p.cls.map Qg),V2,.sl .ro (g.cu.map Qi),I g.ed,.sl .ro (g.dr.map Qy),I g.ve]
def MV(g:Pg):Nat->FuncId->List AV->AV:=fun _ f l=>if f=87 then(if g.p.ens=[]then .sl .ro []else .gd false .junk)else if f=91 then(if g.ev=[]then .sl .ro []else .gd false .junk)else l.headD .junk
def EnW(g:Pg)(V:AV)(W:List (List AV)):Prop:=(g.p.ens=[]/\V=.sl .ro []/\W=[])\/(g.p.ens≠[]/\V=.bs 2 0 g.p.ens.length 7/\W=[(g.p.ens.map Qd).flatten])
def ay0(g:Pg)(W:List (List AV))(V:AV)(W2:List (List AV)):Prop:=(g.ev=[]/\V=.sl .ro []/\W2=W)\/(g.ev≠[]/\V=.bs (W.length+2) 0 g.ev.length 7/\W2=W++[(g.ev.map Qe).flatten])
def Iz{F:List AV}{k:Nat}{x:AV}(h:F[k]?=some x):F.set k x=F:=by
 apply zzcm;intro j;by_cases hj:k=j
 ·subst hj;rw[h,zzba (zza.1 h).1]
 rw[zzbf hj]
def IA(g:Pg)(h:PgC g)(Y:YT)(E:List (Nat×AV))(V:AV)(W:List (List AV))(hW:EnW g V W)(Q:Exit->AS->Prop)
  (e1:Abs.look E 1=.ptr 0 0)(e2:Abs.look E 2=.ptr 1 0)(e3:Abs.look E 3=.ptr 0 0)
  (hQ:∀E' V2 W2,Abs.look E' 2=.ptr 1 0->ay0 g W V2 W2->Q .ret ⟨Xv 106 E',⟨oI g V V2::oI g V V2::W2,[],fun _=>.gone,0⟩⟩):
  vc Tryz.prog aA (MV g) Y BW ⟨Xv 106 E,⟨oI g V (.sl .ro (g.ev.map Qe))::iL::W,[],fun _=>.gone,0⟩⟩ Q:=by
 obtain⟨⟨h1,h2,h3,h4,h5,h6⟩,h7,h8,h9,gq⟩:=h;have RY:=auR g.p.bks zE;have O8:=auS g.p.cls zE;have k92:=auT g.cu zE;have k93:=auU g.dr zE;have hsz:=Qbb (f:=Qe) (sz:=7) (fun _=>rfl) g.ev;by_cases hn:g.ev=[]
 ·have k91:=aox;have hQ:=fun E' h=>hQ E' _ _ h (.inl ⟨hn,rfl,rfl⟩);obtain⟨_,rfl,rfl⟩|⟨_,rfl,rfl⟩:=hW
  ·simp[BW,oI,iL,MV,hn,e1,e3];refine⟨RY,O8,k91,?_⟩;refine Qk mA (fun f m=>f 81=I 0/\m=⟨oI g (.sl .ro []) (.sl .ro [])::[iL],[],fun _=>.gone,0⟩) (fun f _=>0) ?_ ?_
   ·exact⟨zd,by simp[oI,iL]⟩
   rintro f m ⟨f81,rfl⟩;simp[f81,mA,oI,iL,MV,e1,e2];refine⟨k92,k93,?_⟩;refine hQ _ ?_;simp[e2]
  simp[BW,oI,iL,MV,hn,e1,e3];refine⟨RY,O8,k91,?_⟩;refine Qk mA (fun f m=>f 81=I 0/\m=⟨oI g (.bs 2 0 g.p.ens.length 7) (.sl .ro [])::iL::[(g.p.ens.map Qd).flatten],[],fun _=>.gone,0⟩) (fun f _=>0) ?_ ?_
  ·exact⟨zd,by simp[oI,iL]⟩
  rintro f m ⟨f81,rfl⟩;simp[f81,mA,oI,iL,MV,e1,e2];refine⟨k92,k93,?_⟩;refine hQ _ ?_;simp[e2]
 have aM:g.ev.map Qe≠[]:=by simpa using hn
 have hQ:=fun E' h=>hQ E' _ _ h (.inr ⟨hn,rfl,rfl⟩);obtain⟨F,hF⟩:∃F,(g.ev.map Qe).flatten=F:=⟨_,rfl⟩;have J1:F.length=g.ev.length*7:=by rw[<- hF,Qae hsz];simp
 rw[hF]at hQ
 have step:∀(i:Nat)(e:bE),g.ev[i]?=some e->(∃r,F.drop (i*7+6)=.sl .ro (e.al.map Qf)::r)/\F.set (i*7+6) (.sl .ro (e.al.map Qf))=F:=by
  intro i e he;obtain⟨⟨r,hd⟩,ct⟩:=lG hsz (i:=i) (row:=Qe e) (by simp[he]);rw[hF]at hd ct
  have h7:F[i*7+6]?=some (.sl .ro (e.al.map Qf)):=by
   have:=congrArg (fun l=>l[6]?) hd;simpa[Qe]using this
  obtain⟨p1,p2⟩:=zza.1 h7;exact⟨⟨F.drop (i*7+6+1),by rw[zzaf p1,p2]⟩,Iz h7⟩
 obtain⟨_,rfl,rfl⟩|⟨_,rfl,rfl⟩:=hW
 ·simp[BW,oI,iL,MV,hn,e1,e3];refine⟨RY,O8,abt _ _ hsz (by simpa using by omega) aM _ _ ?_⟩;simp;rw[hF];refine Qk mA (fun f m=>∃i:Nat,f 81=I i/\i<=g.ev.length/\m=⟨oI g (.sl .ro []) (.bs 2 0 g.ev.length 7)::iL::[F],[],fun _=>.gone,0⟩) (fun f _=>g.ev.length-(numOf (f 81)).toNat) ?_ ?_
  ·exact⟨0,zd,zE,by simp[oI,iL]⟩
  rintro f m ⟨i,f81,hi,rfl⟩;rcases zzaa i g.ev.length with ai|bz
  ·obtain⟨e,he⟩:=aU ai;have aa:(i:Int)<(g.ev.length:Int):=zE
   have hw:=bM i zE;obtain⟨⟨r,hd⟩,hs6⟩:=step i e he;have RX:min 1 (g.ev.length*7-(i*7+6))=1:=zE
   have k88:=Uz e.al (gq e (zzac he));simp[f81,mA,oI,aa,hd,hs6,J1,hw,MV,e1];refine⟨k88,zE,aP,⟨i+1,zd,zE⟩,zE⟩
  obtain rfl:i=g.ev.length:=zE
  simp[f81,mA,oI,iL,MV,e1,e2];refine⟨k92,k93,?_⟩;refine hQ _ ?_;simp[e2]
 simp[BW,oI,iL,MV,hn,e1,e3];refine⟨RY,O8,abt _ _ hsz (by simpa using by omega) aM _ _ ?_⟩;simp;rw[hF];refine Qk mA (fun f m=>∃i:Nat,f 81=I i/\i<=g.ev.length/\m=⟨oI g (.bs 2 0 g.p.ens.length 7) (.bs 3 0 g.ev.length 7)::iL::[(g.p.ens.map Qd).flatten,F],[],fun _=>.gone,0⟩) (fun f _=>g.ev.length-(numOf (f 81)).toNat) ?_ ?_
 ·exact⟨0,zd,zE,by simp[oI,iL]⟩
 rintro f m ⟨i,f81,hi,rfl⟩;rcases zzaa i g.ev.length with ai|bz
 ·obtain⟨e,he⟩:=aU ai;have aa:(i:Int)<(g.ev.length:Int):=zE
  have hw:=bM i zE;obtain⟨⟨r,hd⟩,hs6⟩:=step i e he;have RX:min 1 (g.ev.length*7-(i*7+6))=1:=zE
  have k88:=Uz e.al (gq e (zzac he));simp[f81,mA,oI,aa,hd,hs6,J1,hw,MV,e1];refine⟨k88,zE,aP,⟨i+1,zd,zE⟩,zE⟩
 obtain rfl:i=g.ev.length:=zE
 simp[f81,mA,oI,iL,MV,e1,e2];refine⟨k92,k93,?_⟩;refine hQ _ ?_;simp[e2]
def Ts(g:Pg)(h:PgC g):Pure Tryz.prog aA 44 [.agg (Qm g)] (.agg (Qm g)):=by
 have h0:=h;obtain⟨⟨h1,h2,h3,h4,h5,h6⟩,h7,h8,h9,gq⟩:=h;have k85:=auP g.p.sh zE;have k86:=auQ g.p.aN zE;have hsz:=Qbb (f:=Qd) (sz:=7) (fun _=>rfl) g.p.ens;have auV:=Qbb (f:=Qe) (sz:=7) (fun _=>rfl) g.ev;obtain⟨F2,qF⟩:∃F,(g.ev.map Qe).flatten=F:=⟨_,rfl⟩;have agO:Zj F2=true:=by rw[<- qF];exact fD (fun _=>rfl) _
 have auW:bh 7 g.ev.length F2=g.ev.map Qe:=by have:=Ju auV;rw[qF]at this;simpa using this
 have auX:F2.length=g.ev.length*7:=by rw[<- qF,Qae auV];simp
 have auY:∀m,F2.map (bJ m 4)=F2:=fun m=>Zp m 3 agO;obtain⟨F,hF⟩:∃F,(g.p.ens.map Qd).flatten=F:=⟨_,rfl⟩;have bZ:Zj F=true:=by rw[<- hF];exact fD (fun _=>rfl) _
 have fQ:bh 7 g.p.ens.length F=g.p.ens.map Qd:=by have:=Ju hsz;rw[hF]at this;simpa using this
 have J1:F.length=g.p.ens.length*7:=by rw[<- hF,Qae hsz];simp
 have Aj:∀m,F.map (bJ m 4)=F:=fun m=>Zp m 3 bZ;refine Qo alN (MV g) zd ?_;rw[ahb];by_cases hn:g.p.ens=[]
 ·simp[aoy,Qm,Qa,MV,hn];refine⟨k85,k86,aow,?_⟩;refine Qk EU (fun f m=>f 38=I 0/\m=⟨oI g (.sl .ro []) (.sl .ro (g.ev.map Qe))::[iL],[],fun _=>.gone,0⟩) (fun f _=>0) ?_ ?_
  ·exact⟨zd,by simp[oI,iL]⟩
  rintro f m ⟨f38,rfl⟩;simp[f38,EU];refine IA g h0 Y0 _ (.sl .ro []) [] (.inl ⟨hn,rfl,rfl⟩) _ zd zd zd ?_;intro E' V2 W2 f2 Gs;obtain⟨qY,rfl,rfl⟩|⟨qY,rfl,rfl⟩:=Gs
  ·simp[UQ,f2,oI,qY]
  rw[qF];simp[UQ,f2,oI,auW,auX,auY]
 have aM:g.p.ens.map Qd≠[]:=by simpa using hn
 have step:∀(i:Nat)(e:En),g.p.ens[i]?=some e->(∃r,F.drop (i*7+6)=.sl .ro (e.al.map Qf)::r)/\F.set (i*7+6) (.sl .ro (e.al.map Qf))=F:=by
  intro i e he;obtain⟨⟨r,hd⟩,ct⟩:=lG hsz (i:=i) (row:=Qd e) (by simp[he]);rw[hF]at hd ct
  have h7:F[i*7+6]?=some (.sl .ro (e.al.map Qf)):=by
   have:=congrArg (fun l=>l[6]?) hd;simpa[Qd]using this
  obtain⟨p1,p2⟩:=zza.1 h7;exact⟨⟨F.drop (i*7+6+1),by rw[zzaf p1,p2]⟩,Iz h7⟩
 simp[aoy,Qm,Qa,MV,hn];refine⟨k85,k86,aov _ _ hsz (by simpa using by omega) aM _ _ ?_⟩;simp;rw[hF];refine Qk EU (fun f m=>∃i:Nat,f 38=I i/\i<=g.p.ens.length/\m=⟨oI g (.bs 2 0 g.p.ens.length 7) (.sl .ro (g.ev.map Qe))::iL::[F],[],fun _=>.gone,0⟩) (fun f _=>g.p.ens.length-(numOf (f 38)).toNat) ?_ ?_
 ·exact⟨0,zd,zE,by simp[oI,iL]⟩
 rintro f m ⟨i,f38,hi,rfl⟩;rcases zzaa i g.p.ens.length with ai|bz
 ·obtain⟨e,he⟩:=aU ai;have aa:(i:Int)<(g.p.ens.length:Int):=zE
  have hw:=bM i zE;obtain⟨⟨r,hd⟩,hs6⟩:=step i e he;have RX:min 1 (g.p.ens.length*7-(i*7+6))=1:=zE
  have k88:=Uz e.al (h6 e (zzac he));simp[f38,EU,oI,aa,hd,hs6,J1,hw,MV];refine⟨k88,zE,aP,⟨i+1,zd,zE⟩,zE⟩
 obtain rfl:i=g.p.ens.length:=zE
 simp[f38,EU];refine IA g h0 Y0 _ (.bs 2 0 g.p.ens.length 7) [F] (.inr ⟨hn,rfl,by rw[hF]⟩) _ zd zd zd ?_;intro E' V2 W2 f2 Gs;obtain⟨qY,rfl,rfl⟩|⟨qY,rfl,rfl⟩:=Gs
 ·simp[UQ,f2,oI,qY,fQ,J1,Aj]
 rw[qF];simp[UQ,f2,oI,auW,auX,auY,fQ,J1,Aj]
open Go Go.Abs
def As(x:Sh):List Sh->Nat->Int
 |[],_=> -1
 |a::r,i=>if x=a then i else As x r (i+1)
def IB(x:Sh):∀(L:List Sh)(i:Nat),(0<=As x L i)=(x∈L)
 |[],i=>by simp[As]
 |a::r,i=>by
  unfold As;by_cases h:x=a
  ·rw[if_pos h];simp[h]
  rw[if_neg h,IB x r (i+1)];simp[h]
def abu(L:List Sh)(x:Sh)(hl:L.length<=1000000000):Pure Tryz.prog aA 111 [.sl .ro (L.map Vj),.agg (Vj x)] (I (As x L 0)):=by
 obtain⟨x1,x2,x3⟩:=x;refine Qo acY (fun _ _ _=>.junk) zd ?_;simp[ahX,Vj];refine Qk Cm (fun f m=>∃i:Nat,f 8=I i/\i<=L.length/\As (x1,x2,x3) (L.drop i) i=As (x1,x2,x3) L 0/\m=⟨[[I x1,I x2,I x3]],[],fun _=>.gone,0⟩) (fun f _=>L.length-(numOf (f 8)).toNat) ?_ ?_
 ·exact⟨0,zd,zE,zd,rfl⟩
 rintro f m ⟨i,f8,hi,hr,rfl⟩;rcases zzaa i L.length with ai|bz
 ·obtain⟨a,ha⟩:=aU ai;have hd:L.drop i=a::L.drop (i+1):=by rw[zzaf ai,(zza.1 ha).2]
  obtain⟨a1,a2,a3⟩:=a;have ah:Qh (L.map Vj) i=[I a1,I a2,I a3]:=Qt (by simp[ha,Vj]);have aa:(i:Int)<(L.length:Int):=zE
  have hw:=bM i zE;rw[hd,As]at hr;by_cases hP:(x1,x2,x3)=(a1,a2,a3)
  ·rw[if_pos hP]at hr;obtain⟨rfl,rfl,rfl⟩:x1=a1/\x2=a2/\x3=a3:=by simpa using hP
   simp[f8,Cm,U1,aa,ah];exact hr
  rw[if_neg hP]at hr;have hP':¬(x1=a1/\x2=a2/\x3=a3):=by simpa using hP
  have hb:(x1==a1&&(x2==a2&&x3==a3))=false:=by
   cases hq:(x1==a1&&(x2==a2&&x3==a3))with
   |false=>rfl
   |true=>simp at hq;exact absurd hq hP'
  simp[f8,Cm,aa,ah,hw,hb];refine⟨aP,⟨i+1,zd,zE,hr⟩,zE⟩
 obtain rfl:i=L.length:=zE
 rw[zzbn,As]at hr;simp[f8,Cm,U1];exact hr
def MW(L:List Sh)(x:Sh)(hl:L.length<=1000000000):Pure Tryz.prog aA 54 [.sl .ro (L.map Vj),.agg (Vj x)] (.bool (decide (x∈L))):=by
 have k:=abu L x hl;obtain⟨x1,x2,x3⟩:=x;simp only[Vj]at k;refine Qo alS (fun _ _ _=>I (As (x1,x2,x3) L 0)) zd ?_;simp[ap0,ap1,Vj];refine⟨k,?_⟩;simp[<- IB (x1,x2,x3) L 0]
def Tt(M:Md)(c r f:Int)(s:Sh):Bool:=if s.1=0/\s.2.1=0 then decide (Zi M c r f≠[])else decide (s∈Zi M c r f)
def oA(M:Md)(hM:MoK M)(c r f:Int):(Zi M c r f).length<=10000000:=by
 unfold Zi;cases hl:Yx M c with
 |none=>simp
 |some l=>
  cases l with
  |nil=>simp
  |cons g l=>
   simp only;split
   ·simp
   have dU:=lS hl;have h1:=abi r f (g::l) (fun g hg e he=>((hM.ev _ dU g hg).2 e he).2) (Yg (uE f M.os) (Wo f M.os)) (Yg (uE f M.os) (Wo f M.os)).length;have hc:=Ec f M.os;have kW:=(MQ f M.os).1;have h2:(Yg (uE f M.os) (Wo f M.os)).length<=1000:=yX 1000 _ (by have:=hM.lo;omega);unfold MT at h1;rw[zzbu]at h1;omega
def PZ(Y:YT)(m:AM)(md:Nat)(M:Md)(pid aQ:Nat)(aV:List Rt)(bI:Rt)(z:List AV)(c r f:Int)(s:Sh)(h:gD m.boxes md M pid aQ aV bI z)(hM:MoK M)(aT:∀rt∈aV,rt=.full\/∃k,rt=.own k 18)
  (hf:f<=9223372036854775807)(K:AV->AM->Prop)
  (hK:∀ex lx Aq Ar,K (.bool (Tt M c r f s)) ⟨m.boxes++ex,m.lens++lx,Aq,Ar⟩):
  an Tryz.prog aA Y 27 [.ptr md 0,I c,I r,I f,.agg (Vj s)] m K:=by
 obtain⟨mb,ml,ms,mn⟩:=m;have hB:∀ex,gD (mb++ex) md M pid aQ aV bI z:=fun ex=>h.ext ex;have ka:=fun ex K hK=>kP Y ⟨mb++ex,ml,ms,mn⟩ md M pid aQ aV bI z c r f (hB ex) hM aT hf K hK;have kc:=MW (Zi M c r f) s (by have:=oA M hM c r f;omega);have aH:=oA M hM c r f;obtain⟨s1,s2,s3⟩:=s;simp only[Vj]at kc;refine Xd aly (fun _ fn _=>if fn=54 then .bool (decide ((s1,s2,s3)∈Zi M c r f))else .gd false .junk) zd ?_;simp[apP,Vj];refine ka _ _ fun ex lx Aq Ar=>?_;have hK:=fun ir=>hK ([I s1,I s2,I s3]::(ex++ir)) lx Aq Ar;simp only[Tt]at hK;generalize Zi M c r f=al at*
 by_cases h1:s1=0
 ·by_cases h2:s2=0
  ·cases al with
   |nil=>
    simp[h1,h2,UM]at hK |-
    simpa using hK []
   |cons a t=>
    simp[h1,h2,UM]at hK |-
    simpa using hK []
  simp[h1,h2,UM]at hK kc |-
  exact⟨kc,by simpa using hK []⟩
 simp[h1,UM]at hK kc |-
 exact⟨kc,by simpa using hK []⟩
end
