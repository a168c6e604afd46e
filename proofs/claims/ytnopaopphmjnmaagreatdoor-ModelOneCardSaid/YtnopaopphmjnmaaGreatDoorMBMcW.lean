import Derived.Test.YtnopaopphmjnmaaGreatDoorMBMcS
import Derived.Test.YtnopaopphmjnmaaGreatDoorMBMcU
set_option linter.all false
set_option maxRecDepth 100000
set_option maxHeartbeats 64000000
namespace Go.Proofs.YtnopaopphmjnmaaGreatDoor
noncomputable section
open Go Go.Abs
def ajQ:SC:=(⟨_,fun _=>by cbv⟩:vP [1,0,1,1,1,1,0,1,0] Pf).1 af4
theorem aar:Pf=ajQ:=rfl
def Hw(f:Int):Nat->FuncId->List AV->AV:=fun d fn l=>if fn=48 then(match l with
 |[.sl _ rows,_]=>S6 f (xw f (rows.map dEv))
 |_=>.junk)else if fn=999999 then .junk else .gd false .junk
def ON(f:Int):∀L:List bE,xw f (L.map RX)=(xw f L).map RX
 |[]=>rfl
 |e::r=>by
  rw[zzaw,xw,xw];have h:Ws f (RX e)=Ws f e:=rfl;rw[h];split
  ·rfl
  exact ON f r
def Si(f:Int)(x:Option bE):S6 f (x.map RX)=S6 f x:=by cases x<;>rfl
def af9(f:Int)(d:Nat)(L:List bE):Hw f d 48 [.sl .ro (L.map Qf),I f]=S6 f (xw f L):=by
 show S6 f (xw f ((L.map Qf).map dEv))=_;rw[OE,ON,Si]
structure MoK (M:Md):Prop where
 os:∀o∈M.os,0<=o.2/\o.2<=1000000000000
 n:∀l∈M.ps,l.length=M.os.length+1
 lo:M.os.length<=900
 ev:∀l∈M.ps,∀g∈l,g.ev.length<=1000000000/\∀e∈g.ev,Ue e/\e.al.length<=1000
def lu{M:Md}{c:Int}{l:List Pg}(h:gW M c=some l):l∈M.ps:=by
 unfold gW at h;cases ha:af c M.pl with
 |none=>rw[ha]at h;cases h
 |some i=>rw[ha]at h;exact zzac h
def Qde(Y:YT)(m:AM)(md:Nat)(M:Md)(pid aQ:Nat)(bn:List Rt)(bO:Rt)(z:List AV)(c r f:Int)(h:iy m.boxes md M pid aQ bn bO z)(hM:MoK M)(aT:∀rt∈bn,rt=.full\/∃k,rt=.own k 18)
  (hf:f<=9223372036854775807)(K:AV->AM->Prop)
  (hK:∀ex lx Sd Se,K (.sl .ro ((Xv M c r f).map Xg)) ⟨m.boxes++ex,m.lens++lx,Sd,Se⟩):
  an Tryz.prog az Y 23 [.ptr md 0,I c,I r,I f] m K:=by
 obtain⟨mb,ml,ms,mn⟩:=m;refine an.wk ?_;have hB:∀ex,iy (mb++ex) md M pid aQ bn bO z:=fun ex=>h.ext ex;have kc:=fun ex K h0 h1=>Hh Y ⟨mb++ex,ml,ms,mn⟩ md M pid aQ bn bO z c (hB ex) K h0 h1;have kv:=fun ex K hK=>asS Y ⟨mb++ex,ml,ms,mn⟩ md M pid aQ bn bO z f (hB ex) hM.os K hK;have hK':∀ex Sd Se,K (.sl .ro ((Xv M c r f).map Xg)) ⟨mb++ex,ml,Sd,Se⟩:=fun ex Sd Se=>by simpa using hK ex [] Sd Se
 refine Xd akh (Hw f) (by simp) ?_;rw[aar];simp[ajQ];refine kc _ _ (fun hn=>?_) (fun l hl rt anc=>?_)
 ·have ha:Xv M c r f=[]:=by unfold Xv;rw[hn]
  rw[ha]at hK';simp[Ph];exact⟨_,Wk.sl _ _,hK' _ _ _⟩
 have fu:∃ce,sJ rt ce:=by
  rcases aT rt anc with rfl|⟨k,rfl⟩
  ·exact⟨_,fun m d x=>rfl⟩
  exact⟨_,sJ.own _ _⟩
 cases l with
 |nil=>
  have ha:Xv M c r f=[]:=by unfold Xv;rw[hl]
  rw[ha]at hK';simp[Ph];exact⟨_,Wk.sl _ _,hK' _ _ _⟩
 |cons g l=>
  have aa:Qh ((g::l).map Qo) 0=Qo g:=rfl;simp only[zzaw]at aa;by_cases h1:r<0
  ·have ha:Xv M c r f=[]:=by unfold Xv;rw[hl];simp only;rw[if_pos (.inl h1)]
   rw[ha]at hK';simp[Ph,h1];exact⟨_,Wk.sl _ _,hK' _ _ _⟩
  by_cases h2:g.p.rg<=r
  ·have ha:Xv M c r f=[]:=by unfold Xv;rw[hl];simp only;rw[if_pos (.inr h2)]
   rw[ha]at hK';simp[Ph,h1,h2,Qo,Qc];exact⟨_,Wk.sl _ _,hK' _ _ _⟩
  have ha:Xv M c r f=sh0::(Vj (nU f M.os) (Jb f M.os)).flatMap (tL r f (g::l)):=by unfold Xv;rw[hl];simp only;rw[if_neg (by omega)]
  rw[ha]at hK;have dH:=lu hl;have hn:=hM.n _ dH;have NH:=hM.lo;have hc:=Dj f M.os;have nX:=(LU f M.os).1;have hz:¬((l.length:Int)+1=0):=by omega
  simp[Ph,h1,h2,Qo,Qc,hz,Hw];refine kv _ _ ?_;simp only[zzbc,zzae,zzai,zzag,zzba,zzcf];show vc Tryz.prog az (Hw f) Y af4 ⟨Zi 96 _,⟨fA mb r f rt (g::l) .full [sh0] [[I (nU f M.os)],[I (Jb f M.os)]],ml,ms,mn⟩⟩ _;clear kc kv hK' hB h;refine af5 Y (Hw f) ?_ _ mb ml ms mn r f (nU f M.os) (Jb f M.os) rt (g::l) _ ?_ ?_ ?_ ?_ ?_ ?_ ?_ ?_ ?_ ?_ ?_ ?_ ?_
  ·exact fun _ _=>rfl
  ·exact af9 f
  ·simp
  ·simp
  ·simp
  ·simp
  ·simp
  ·omega
  ·omega
  ·omega
  ·exact hM.ev _ dH
  ·exact hf
  ·omega
  intro eT bx dn Sd Se hp;obtain⟨⟨lx,rfl⟩,_⟩:=hp;simp[fA];exact⟨_,Wk.sl _ _,by simpa[fA]using hK _ lx Sd Se⟩
open Go Go.Abs
def iC(c:Int):Pl:=⟨c,25,1,0,[],0,1,200,1,[⟨1,5,300,0,0⟩,⟨2,2,20,0,0⟩,⟨3,4,100,0,0⟩],[⟨1,2,20,0,0,0,[]⟩,⟨2,3,40,20,50,0,[]⟩],[],[⟨1,2,0,1000,255,0,0,0⟩,⟨1,3,0,1000,255,0,0,0⟩]⟩
def yl:Pl:={iC 0 with ens:=[⟨1,2,20,0,0,0,[]⟩]}
def bP:Pg:=⟨iC 0,[⟨1,2,0,20,0,1,[],false⟩,⟨2,3,20,40,0,1,[],false⟩,⟨0,1,60,140,0,1,[],true⟩],[],0,[],0⟩
def Hy:Pg:=⟨yl,[⟨1,2,0,20,0,1,[],false⟩,⟨2,3,20,10,0,1,[],false⟩,⟨0,1,30,170,0,1,[],true⟩],[],0,[],1⟩
def iD(n:Int):Od:=⟨n,0,30,2,2,0,kW,nK,nL⟩
def ane(fr a:Int):Vw fr a a=[]:=by rw[Vw,if_neg (by omega)]
def asY{fr t a:Int}(h:a<t)(h2:t-a<=fr):Vw fr t a=[(a,t-a)]:=by
 have hN:Ur fr t a=t-a:=by unfold Ur;rw[if_pos (by omega)];omega
 rw[Vw,if_pos h,hN,show a+(t-a)=t by omega,ane]
def ajR:sy (iC 0)=true:=by cbv
def asZ:sy yl=true:=by cbv
def as0:Jh (iC 0) [1,2] [] [] 0 (-1)=some [(1,0),(2,20)]:=by rw[<- OO];cbv
def ajS:IB (iC 0)=some [(1,0),(2,20)]:=by unfold IB;rw[if_neg (by rw[ajR];decide)];exact as0
def awW:FT (iC 0) ⟨1,2,20,0,0,0,[]⟩ 0=⟨1,2,0,20,0,1,[],false⟩:=by cbv
def awX:FT (iC 0) ⟨2,3,40,20,50,0,[]⟩ 20=⟨2,3,20,40,0,1,[],false⟩:=by cbv
def as1:jr (iC 0) [(1,0),(2,20)] 0=bP.ev:=by
 have h1:oU (iC 0) (1,0) 0=some ⟨1,2,20,0,0,0,[]⟩:=by cbv
 have h2:oU (iC 0) (2,20) 20=some ⟨2,3,40,20,50,0,[]⟩:=by cbv
 have hf:Yb (iC 0)=300:=by cbv
 have hl:(iC 0).ln=200:=rfl;rw[jr,if_neg (by rw[hl];omega),zi,h1];simp only[hf,ane,zzce,zzai];rw[show(0:Int)+20=20 from rfl,zi,h2];simp only[hf,ane,zzce,zzai];rw[show(20:Int)+40=60 from rfl,zi,hf,hl,asY (by omega) (by omega),awW,awX];rfl
def as2:yf (iC 0)=bP:=by unfold yf;rw[ajS];simp only;rw[as1];rfl
def as3:Be (iC 0)=0:=by unfold Be;rw[if_neg (by rw[ajR];decide),ajS]
def Dr:pS [iC 0]=some ⟨[(0,0)],[[bP]],[]⟩:=by
 unfold pS;rw[if_neg (by simp),pR,if_neg (by rw[as3];simp[md0,iC,af]),pR,as2];rfl
def aas(n:Int)(h:0<=n/\n<=200):Zb (iD n)=true:=by
 unfold Zb;rw[if_neg (by simp[iD];omega),if_neg (by simp[iD]),if_neg (by simp[iD]),if_neg (by simp[iD])];simp[iD,okB,Jf,Jn,eF,kW,nK,nL,eB]
def anf:Dg (dx bP) 30 (Yd 30 (dx bP).ev []) (iD 1)=some (yl,0):=by
 unfold Dg;rw[if_neg (by simp[dx,bP,iC])];have hb:sH (dx bP) 30 (Yd 30 (dx bP).ev []) (iD 1)=some (yl,0):=by cbv
 have hm:Df (dx bP) 30 (Yd 30 (dx bP).ev []) (iD 1) yl 0=true:=by cbv
 rw[hb];simp only;rw[if_pos (by rw[asZ,hm];rfl)]
def LY:Jw (dx bP) (Yd 30 (dx bP).ev []) yl.ens=[]:=by cbv
def ang:Zq (dx bP) (iD 1)=Hy:=by
 have hc:Ll (dx bP) (iD 1)=true:=by
  unfold Ll;rw[aas 1 (by omega)];rfl
 have dw:pP (dx bP) 30 (Yd 30 (dx bP).ev []) (iD 1) yl 0=none:=by cbv
 have he:Ki (dx bP) 30 (Yd 30 (dx bP).ev []) (iD 1) yl 0=30:=by unfold Ki;rw[dw]
 have h1:Jz (dx bP) 30 (Yd 30 (dx bP).ev []) (iD 1) yl 0=[⟨1,2,0,20,0,1,[],false⟩,⟨2,3,20,10,0,1,[],false⟩]:=by unfold Jz;rw[dw];cbv
 have hk:sK (dx bP) 30 (Yd 30 (dx bP).ev []) (iD 1) yl 0=[]:=by unfold sK;rw[LY];rfl
 have hs:Yq (dx bP) 30 (Yd 30 (dx bP).ev []) (iD 1) yl 0=[]:=by unfold Yq;rw[LY,hk];rfl
 have hd:OA (dx bP) 30 (Yd 30 (dx bP).ev []) (iD 1) yl 0=[]:=by unfold OA;rw[LY,hk];rfl
 have hf:Yb yl=300:=by cbv
 have hl:yl.ln=200:=rfl
 have hb:gV (dx bP) 30 (Yd 30 (dx bP).ev []) (iD 1) yl 0=[⟨0,1,30,170,0,1,[],true⟩]:=by
  unfold gV;rw[hs,he,jr,if_neg (by rw[hl];omega),zi,hf,hl,asY (by omega) (by omega)];rfl
 unfold Zq;rw[if_neg (by rw[hc];decide),if_neg (by simp[iD])];have hx:Dg (dx bP) (iD 1).fr (Yd (iD 1).fr (dx bP).ev []) (iD 1)=some (yl,0):=anf;rw[hx];simp only;show yd (dx bP) (iD 1) (Yd 30 (dx bP).ev []) yl 0=Hy;unfold yd;show({dx bP with p:=yl,ev:=Jz (dx bP) 30 _ _ yl 0++gV (dx bP) 30 _ _ yl 0,dr:=dd (Wj ((dx bP).dr++OA (dx bP) 30 _ _ yl 0)),ve:=(dx bP).ve+1}:Pg)=Hy;rw[h1,hb,hd];have hsd:Wj ([]:List Int)=[]:=by unfold Wj;simp
 show({dx bP with p:=yl,ev:=_,dr:=dd (Wj []),ve:=_}:Pg)=Hy;rw[hsd];rfl
def cZ:Md:=⟨[(0,0)],[[bP,Hy]],[(1,30)]⟩
def Ds:lR ⟨[(0,0)],[[bP]],[]⟩ (iD 1)=some cZ:=by
 unfold lR Hl;rw[aas 1 (by omega)];simp[iD,Yo,cZ];exact ang
def aat:lR cZ (iD 3)=none:=by
 unfold lR Hl;rw[aas 3 (by omega)];simp[iD,cZ]
def aga:Vj 0 1=[0,1]:=by
 rw[Vj,if_pos (by omega),Vj,if_pos (by omega),Vj,if_neg (by omega)];rfl
def agb:Vj 1 1=[1]:=by
 rw[Vj,if_pos (by omega),Vj,if_neg (by omega)]
def awY:nU 37 cZ.os=0:=by cbv
def as4:nU 38 cZ.os=1:=by cbv
def awZ:nU 32 cZ.os=0:=by cbv
def aw0:Jb 37 cZ.os=1:=by cbv
def as5:Jb 38 cZ.os=1:=by cbv
def aw1:Jb 32 cZ.os=1:=by cbv
def aau:gW cZ 0=some [bP,Hy]:=by cbv
def as6:Xv cZ 0 0 32=[(0,0,0),(3,12,0),(1,2,1)]:=by
 unfold Xv;rw[aau];simp only;rw[if_neg (by simp[bP,iC]),awZ,aw1,aga];cbv
def aav:Xv cZ 0 0 38=[(0,0,0),(1,8,1)]:=by
 unfold Xv;rw[aau];simp only;rw[if_neg (by simp[bP,iC]),as4,as5,agb];cbv
def aw2:Xv cZ 0 1 32=[]:=by
 unfold Xv;rw[aau];simp only;rw[if_pos (by simp[bP,iC])]
open Go Go.Abs
def as7(l:List Sp)(h:l.length<=8796093022208):Pure Tryz.prog az 85 [.sl .ro (l.map Qe)] (.sl .ro (l.map Qe)):=by
 cases l with
 |nil=>
  refine Vm (r:=.sl .ro []) (Qy (r:=.sl .nil []) (Qn IL (fun _ _ _=>.junk) (by simp) (by simp[abA,abB])) (Wk.sl _ _)) ?_;have:∃rt,Pure Tryz.prog az 85 [.sl .nn []] (.sl rt []):=⟨.ro,Qn IL (fun _ _ _=>.junk) (by simp) (by simp[abA,abB])⟩;obtain⟨rt,h⟩:=this;exact Qy h (Wk.sl _ _)
 |cons x r=>
  refine Qn IL (fun _ _ _=>.junk) (by simp) ?_;simp[abA,abB];simp at h;refine⟨⟨rfl,?_⟩,by omega⟩;rintro row a b _ rfl;rfl
def as8(l:List It)(h:l.length<=1000000000):Pure Tryz.prog az 86 [.sl .ro (l.map Qm)] (.sl .ro (l.map Qm)):=by
 cases l with
 |nil=>
  refine Vm (r:=.sl .ro []) (Qy (r:=.sl .nil []) (Qn IM (fun _ _ _=>.junk) (by simp) (by simp[abC,abD])) (Wk.sl _ _)) ?_;have:∃rt,Pure Tryz.prog az 86 [.sl .nn []] (.sl rt []):=⟨.ro,Qn IM (fun _ _ _=>.junk) (by simp) (by simp[abC,abD])⟩;obtain⟨rt,h⟩:=this;exact Qy h (Wk.sl _ _)
 |cons x r=>
  refine Qn IM (fun _ _ _=>.junk) (by simp) ?_;simp[abC,abD];simp at h;exact⟨⟨rfl,fun _ _=>rfl⟩,by omega⟩
def as9(l:List Bk)(h:l.length<=1000000000):Pure Tryz.prog az 89 [.sl .ro (l.map Xf)] (.sl .ro (l.map Xf)):=by
 cases l with
 |nil=>
  refine Vm (r:=.sl .ro []) (Qy (r:=.sl .nil []) (Qn IQ (fun _ _ _=>.junk) (by simp) (by simp[abI,abJ])) (Wk.sl _ _)) ?_;have:∃rt,Pure Tryz.prog az 89 [.sl .nn []] (.sl rt []):=⟨.ro,Qn IQ (fun _ _ _=>.junk) (by simp) (by simp[abI,abJ])⟩;obtain⟨rt,h⟩:=this;exact Qy h (Wk.sl _ _)
 |cons x r=>
  refine Qn IQ (fun _ _ _=>.junk) (by simp) ?_;simp[abI,abJ];simp at h;exact⟨⟨rfl,fun _ _=>rfl⟩,by omega⟩
def ata(l:List Cl)(h:l.length<=1000000000):Pure Tryz.prog az 90 [.sl .ro (l.map Qg)] (.sl .ro (l.map Qg)):=by
 cases l with
 |nil=>
  refine Vm (r:=.sl .ro []) (Qy (r:=.sl .nil []) (Qn IS (fun _ _ _=>.junk) (by simp) (by simp[abK,abL])) (Wk.sl _ _)) ?_;have:∃rt,Pure Tryz.prog az 90 [.sl .nn []] (.sl rt []):=⟨.ro,Qn IS (fun _ _ _=>.junk) (by simp) (by simp[abK,abL])⟩;obtain⟨rt,h⟩:=this;exact Qy h (Wk.sl _ _)
 |cons x r=>
  refine Qn IS (fun _ _ _=>.junk) (by simp) ?_;simp[abK,abL];simp at h;exact⟨⟨rfl,fun _ _=>rfl⟩,by omega⟩
def atb(l:List Cue)(h:l.length<=1000000000):Pure Tryz.prog az 92 [.sl .ro (l.map Qk)] (.sl .ro (l.map Qk)):=by
 cases l with
 |nil=>
  refine Vm (r:=.sl .ro []) (Qy (r:=.sl .nil []) (Qn IU (fun _ _ _=>.junk) (by simp) (by simp[abO,abP])) (Wk.sl _ _)) ?_;have:∃rt,Pure Tryz.prog az 92 [.sl .nn []] (.sl rt []):=⟨.ro,Qn IU (fun _ _ _=>.junk) (by simp) (by simp[abO,abP])⟩;obtain⟨rt,h⟩:=this;exact Qy h (Wk.sl _ _)
 |cons x r=>
  refine Qn IU (fun _ _ _=>.junk) (by simp) ?_;simp[abO,abP];simp at h;exact⟨⟨rfl,fun _ _=>rfl⟩,by omega⟩
def atc(l:List Int)(h:l.length<=1000000000):Pure Tryz.prog az 93 [.sl .ro (l.map Xa)] (.sl .ro (l.map Xa)):=by
 cases l with
 |nil=>
  refine Vm (r:=.sl .ro []) (Qy (r:=.sl .nil []) (Qn qh (fun _ _ _=>.junk) (by simp) (by simp[IV,IW])) (Wk.sl _ _)) ?_;have:∃rt,Pure Tryz.prog az 93 [.sl .nn []] (.sl rt []):=⟨.ro,Qn qh (fun _ _ _=>.junk) (by simp) (by simp[IV,IW])⟩;obtain⟨rt,h⟩:=this;exact Qy h (Wk.sl _ _)
 |cons x r=>
  refine Qn qh (fun _ _ _=>.junk) (by simp) ?_;simp[IV,IW];simp at h;exact⟨⟨rfl,fun _ _=>rfl⟩,by omega⟩
def OP:Nat->FuncId->List AV->AV:=fun d f _=>if f=999999 then(if d=7 then .aK 0 []else .junk)else .junk
def anh(Y:YT)(rows:List (List AV))(h:∀r∈rows,r.length=7)(hl:rows.length<=1000000000)(aJ:rows≠[])(m:AM)(K:AV->AM->Prop)(hK:K (.bs m.boxes.length 0 rows.length 7) {m with boxes:=m.boxes++[rows.flatten]}):
  an Tryz.prog az Y 87 [.sl .ro rows] m K:=by
 obtain⟨x,r,rfl⟩:=zzeu aJ;refine Xd IN OP (by simp) ?_;simp[abE,abF,OP];simp at h hK hl;exact⟨⟨by omega,h⟩,hK⟩
def ani:Pure Tryz.prog az 87 [.sl .ro []] (.sl .ro []):=by
 refine Vm (r:=.sl .ro []) (Qy (r:=.sl .nil []) (Qn IN (fun _ _ _=>.junk) (by simp) (by simp[abE,abF])) (Wk.sl _ _)) ?_;have:∃rt,Pure Tryz.prog az 87 [.sl .nn []] (.sl rt []):=⟨.ro,Qn IN (fun _ _ _=>.junk) (by simp) (by simp[abE,abF])⟩;obtain⟨rt,h⟩:=this;exact Qy h (Wk.sl _ _)
def aaw(Y:YT)(rows:List (List AV))(h:∀r∈rows,r.length=7)(hl:rows.length<=1000000000)(aJ:rows≠[])(m:AM)(K:AV->AM->Prop)(hK:K (.bs m.boxes.length 0 rows.length 7) {m with boxes:=m.boxes++[rows.flatten]}):
  an Tryz.prog az Y 91 [.sl .ro rows] m K:=by
 obtain⟨x,r,rfl⟩:=zzeu aJ;refine Xd IT OP (by simp) ?_;simp[abM,abN,OP];simp at h hK hl;exact⟨⟨by omega,h⟩,hK⟩
def anj:Pure Tryz.prog az 91 [.sl .ro []] (.sl .ro []):=by
 refine Vm (r:=.sl .ro []) (Qy (r:=.sl .nil []) (Qn IT (fun _ _ _=>.junk) (by simp) (by simp[abM,abN])) (Wk.sl _ _)) ?_;have:∃rt,Pure Tryz.prog az 91 [.sl .nn []] (.sl rt []):=⟨.ro,Qn IT (fun _ _ _=>.junk) (by simp) (by simp[abM,abN])⟩;obtain⟨rt,h⟩:=this;exact Qy h (Wk.sl _ _)
def Bh:SC:=(⟨_,by cbv⟩:vO [1,1,1,1,1,1] Po).1
def ank:SC:=(⟨_,fun _=>by cbv⟩:vP [1,1,1,1,1,1] Po).1 Bh
theorem agc:Po=ank:=rfl
def oa(g:Pg)(V V2:AV):List AV:=[I g.p.ch,I g.p.nu,I g.p.de,I g.p.of,.sl .ro (g.p.sh.map Qe),I g.p.ep,I g.p.rg,I g.p.ln,I g.p.fi,.sl .ro (g.p.aM.map Qm),V,.sl .ro (g.p.bks.map Xf),.sl .ro (g.p.cls.map Qg),V2,.sl .ro (g.cu.map Qk),I g.ed,.sl .ro (g.dr.map Xa),I g.ve]
def LZ(g:Pg):Nat->FuncId->List AV->AV:=fun _ f l=>if f=87 then(if g.p.ens=[]then .sl .ro []else .gd false .junk)else if f=91 then(if g.ev=[]then .sl .ro []else .gd false .junk)else l.headD .junk
def EnW(g:Pg)(V:AV)(W:List (List AV)):Prop:=(g.p.ens=[]/\V=.sl .ro []/\W=[])\/(g.p.ens≠[]/\V=.bs 2 0 g.p.ens.length 7/\W=[(g.p.ens.map Qd).flatten])
def aw3(g:Pg)(W:List (List AV))(V:AV)(W2:List (List AV)):Prop:=(g.ev=[]/\V=.sl .ro []/\W2=W)\/(g.ev≠[]/\V=.bs (W.length+2) 0 g.ev.length 7/\W2=W++[(g.ev.map Qf).flatten])
def Hz{F:List AV}{k:Nat}{x:AV}(h:F[k]?=some x):F.set k x=F:=by
 apply zzci;intro j;by_cases hj:k=j
 ·subst hj;rw[h,zzaz (zza.1 h).1]
 rw[zzbd hj]
def HA(g:Pg)(h:PgC g)(Y:YT)(E:List (Nat×AV))(V:AV)(W:List (List AV))(hW:EnW g V W)(Q:Exit->AS->Prop)
  (e1:Abs.look E 1=.ptr 0 0)(e2:Abs.look E 2=.ptr 1 0)(e3:Abs.look E 3=.ptr 0 0)
  (hQ:∀E' V2 W2,Abs.look E' 2=.ptr 1 0->aw3 g W V2 W2->Q .ret ⟨Zi 106 E',⟨oa g V V2::oa g V V2::W2,[],fun _=>.gone,0⟩⟩):
  vc Tryz.prog az (LZ g) Y Bh ⟨Zi 106 E,⟨oa g V (.sl .ro (g.ev.map Qf))::iu::W,[],fun _=>.gone,0⟩⟩ Q:=by
 obtain⟨⟨h1,h2,h3,h4,h5,h6⟩,h7,h8,h9,nY⟩:=h;have QK:=as9 g.p.bks (by omega);have N2:=ata g.p.cls (by omega);have k92:=atb g.cu (by omega);have k93:=atc g.dr (by omega);have hsz:=Qap (f:=Qf) (sz:=7) (fun _=>rfl) g.ev;by_cases hn:g.ev=[]
 ·have k91:=anj;have hQ:=fun E' h=>hQ E' _ _ h (.inl ⟨hn,rfl,rfl⟩);obtain⟨_,rfl,rfl⟩|⟨_,rfl,rfl⟩:=hW
  ·simp[Bh,oa,iu,LZ,hn,e1,e3];refine⟨QK,N2,k91,?_⟩;refine Qj lS (fun f m=>f 81=I 0/\m=⟨oa g (.sl .ro []) (.sl .ro [])::[iu],[],fun _=>.gone,0⟩) (fun f _=>0) ?_ ?_
   ·exact⟨by simp,by simp[oa,iu]⟩
   rintro f m ⟨f81,rfl⟩;simp[f81,lS,oa,iu,LZ,e1,e2];refine⟨k92,k93,?_⟩;refine hQ _ ?_;simp[e2]
  simp[Bh,oa,iu,LZ,hn,e1,e3];refine⟨QK,N2,k91,?_⟩;refine Qj lS (fun f m=>f 81=I 0/\m=⟨oa g (.bs 2 0 g.p.ens.length 7) (.sl .ro [])::iu::[(g.p.ens.map Qd).flatten],[],fun _=>.gone,0⟩) (fun f _=>0) ?_ ?_
  ·exact⟨by simp,by simp[oa,iu]⟩
  rintro f m ⟨f81,rfl⟩;simp[f81,lS,oa,iu,LZ,e1,e2];refine⟨k92,k93,?_⟩;refine hQ _ ?_;simp[e2]
 have aJ:g.ev.map Qf≠[]:=by simpa using hn
 have hQ:=fun E' h=>hQ E' _ _ h (.inr ⟨hn,rfl,rfl⟩);obtain⟨F,hF⟩:∃F,(g.ev.map Qf).flatten=F:=⟨_,rfl⟩;have Iz:F.length=g.ev.length*7:=by rw[<- hF,Wv hsz];simp
 rw[hF]at hQ
 have step:∀(i:Nat)(e:bE),g.ev[i]?=some e->(∃r,F.drop (i*7+6)=.sl .ro (e.al.map Qe)::r)/\F.set (i*7+6) (.sl .ro (e.al.map Qe))=F:=by
  intro i e he;obtain⟨⟨r,hd⟩,bU⟩:=kT hsz (i:=i) (row:=Qf e) (by simp[he]);rw[hF]at hd bU
  have h7:F[i*7+6]?=some (.sl .ro (e.al.map Qe)):=by
   have:=congrArg (fun l=>l[6]?) hd;simpa[Qf]using this
  obtain⟨p1,p2⟩:=zza.1 h7;exact⟨⟨F.drop (i*7+6+1),by rw[zzaf p1,p2]⟩,Hz h7⟩
 obtain⟨_,rfl,rfl⟩|⟨_,rfl,rfl⟩:=hW
 ·simp[Bh,oa,iu,LZ,hn,e1,e3];refine⟨QK,N2,aaw _ _ hsz (by simpa using by omega) aJ _ _ ?_⟩;simp;rw[hF];refine Qj lS (fun f m=>∃i:Nat,f 81=I i/\i<=g.ev.length/\m=⟨oa g (.sl .ro []) (.bs 2 0 g.ev.length 7)::iu::[F],[],fun _=>.gone,0⟩) (fun f _=>g.ev.length-(numOf (f 81)).toNat) ?_ ?_
  ·exact⟨0,by simp,by omega,by simp[oa,iu]⟩
  rintro f m ⟨i,f81,hi,rfl⟩;rcases zzaa i g.ev.length with ai|bB
  ·obtain⟨e,he⟩:=aR ai;have ah:(i:Int)<(g.ev.length:Int):=by omega
   have hw:=bJ i (by omega);obtain⟨⟨r,hd⟩,hs6⟩:=step i e he;have QJ:min 1 (g.ev.length*7-(i*7+6))=1:=by omega
   have k88:=Us e.al (nY e (zzac he));simp[f81,lS,oa,ah,hd,hs6,Iz,hw,LZ,e1];refine⟨k88,by omega,aN,⟨i+1,by simp,by omega⟩,by omega⟩
  obtain rfl:i=g.ev.length:=by omega
  simp[f81,lS,oa,iu,LZ,e1,e2];refine⟨k92,k93,?_⟩;refine hQ _ ?_;simp[e2]
 simp[Bh,oa,iu,LZ,hn,e1,e3];refine⟨QK,N2,aaw _ _ hsz (by simpa using by omega) aJ _ _ ?_⟩;simp;rw[hF];refine Qj lS (fun f m=>∃i:Nat,f 81=I i/\i<=g.ev.length/\m=⟨oa g (.bs 2 0 g.p.ens.length 7) (.bs 3 0 g.ev.length 7)::iu::[(g.p.ens.map Qd).flatten,F],[],fun _=>.gone,0⟩) (fun f _=>g.ev.length-(numOf (f 81)).toNat) ?_ ?_
 ·exact⟨0,by simp,by omega,by simp[oa,iu]⟩
 rintro f m ⟨i,f81,hi,rfl⟩;rcases zzaa i g.ev.length with ai|bB
 ·obtain⟨e,he⟩:=aR ai;have ah:(i:Int)<(g.ev.length:Int):=by omega
  have hw:=bJ i (by omega);obtain⟨⟨r,hd⟩,hs6⟩:=step i e he;have QJ:min 1 (g.ev.length*7-(i*7+6))=1:=by omega
  have k88:=Us e.al (nY e (zzac he));simp[f81,lS,oa,ah,hd,hs6,Iz,hw,LZ,e1];refine⟨k88,by omega,aN,⟨i+1,by simp,by omega⟩,by omega⟩
 obtain rfl:i=g.ev.length:=by omega
 simp[f81,lS,oa,iu,LZ,e1,e2];refine⟨k92,k93,?_⟩;refine hQ _ ?_;simp[e2]
def Sj(g:Pg)(h:PgC g):Pure Tryz.prog az 44 [.agg (Qo g)] (.agg (Qo g)):=by
 have h0:=h;obtain⟨⟨h1,h2,h3,h4,h5,h6⟩,h7,h8,h9,nY⟩:=h;have k85:=as7 g.p.sh (by omega);have k86:=as8 g.p.aM (by omega);have hsz:=Qap (f:=Qd) (sz:=7) (fun _=>rfl) g.p.ens;have atd:=Qap (f:=Qf) (sz:=7) (fun _=>rfl) g.ev;obtain⟨F2,p9⟩:∃F,(g.ev.map Qf).flatten=F:=⟨_,rfl⟩;have afQ:Zg F2=true:=by rw[<- p9];exact eV (fun _=>rfl) _
 have ate:aU 7 g.ev.length F2=g.ev.map Qf:=by have:=Jl atd;rw[p9]at this;simpa using this
 have atf:F2.length=g.ev.length*7:=by rw[<- p9,Wv atd];simp
 have atg:∀m,F2.map (bF m 4)=F2:=fun m=>Zl m 3 afQ;obtain⟨F,hF⟩:∃F,(g.p.ens.map Qd).flatten=F:=⟨_,rfl⟩;have bT:Zg F=true:=by rw[<- hF];exact eV (fun _=>rfl) _
 have lF:aU 7 g.p.ens.length F=g.p.ens.map Qd:=by have:=Jl hsz;rw[hF]at this;simpa using this
 have Iz:F.length=g.p.ens.length*7:=by rw[<- hF,Wv hsz];simp
 have zu:∀m,F.map (bF m 4)=F:=fun m=>Zl m 3 bT;refine Qn aku (LZ g) (by simp) ?_;rw[agc];by_cases hn:g.p.ens=[]
 ·simp[ank,Qo,Qc,LZ,hn];refine⟨k85,k86,ani,?_⟩;refine Qj D2 (fun f m=>f 38=I 0/\m=⟨oa g (.sl .ro []) (.sl .ro (g.ev.map Qf))::[iu],[],fun _=>.gone,0⟩) (fun f _=>0) ?_ ?_
  ·exact⟨by simp,by simp[oa,iu]⟩
  rintro f m ⟨f38,rfl⟩;simp[f38,D2];refine HA g h0 Y0 _ (.sl .ro []) [] (.inl ⟨hn,rfl,rfl⟩) _ (by simp) (by simp) (by simp) ?_;intro E' V2 W2 f2 Fz;obtain⟨rO,rfl,rfl⟩|⟨rO,rfl,rfl⟩:=Fz
  ·simp[Ti,f2,oa,rO]
  rw[p9];simp[Ti,f2,oa,ate,atf,atg]
 have aJ:g.p.ens.map Qd≠[]:=by simpa using hn
 have step:∀(i:Nat)(e:En),g.p.ens[i]?=some e->(∃r,F.drop (i*7+6)=.sl .ro (e.al.map Qe)::r)/\F.set (i*7+6) (.sl .ro (e.al.map Qe))=F:=by
  intro i e he;obtain⟨⟨r,hd⟩,bU⟩:=kT hsz (i:=i) (row:=Qd e) (by simp[he]);rw[hF]at hd bU
  have h7:F[i*7+6]?=some (.sl .ro (e.al.map Qe)):=by
   have:=congrArg (fun l=>l[6]?) hd;simpa[Qd]using this
  obtain⟨p1,p2⟩:=zza.1 h7;exact⟨⟨F.drop (i*7+6+1),by rw[zzaf p1,p2]⟩,Hz h7⟩
 simp[ank,Qo,Qc,LZ,hn];refine⟨k85,k86,anh _ _ hsz (by simpa using by omega) aJ _ _ ?_⟩;simp;rw[hF];refine Qj D2 (fun f m=>∃i:Nat,f 38=I i/\i<=g.p.ens.length/\m=⟨oa g (.bs 2 0 g.p.ens.length 7) (.sl .ro (g.ev.map Qf))::iu::[F],[],fun _=>.gone,0⟩) (fun f _=>g.p.ens.length-(numOf (f 38)).toNat) ?_ ?_
 ·exact⟨0,by simp,by omega,by simp[oa,iu]⟩
 rintro f m ⟨i,f38,hi,rfl⟩;rcases zzaa i g.p.ens.length with ai|bB
 ·obtain⟨e,he⟩:=aR ai;have ah:(i:Int)<(g.p.ens.length:Int):=by omega
  have hw:=bJ i (by omega);obtain⟨⟨r,hd⟩,hs6⟩:=step i e he;have QJ:min 1 (g.p.ens.length*7-(i*7+6))=1:=by omega
  have k88:=Us e.al (h6 e (zzac he));simp[f38,D2,oa,ah,hd,hs6,Iz,hw,LZ];refine⟨k88,by omega,aN,⟨i+1,by simp,by omega⟩,by omega⟩
 obtain rfl:i=g.p.ens.length:=by omega
 simp[f38,D2];refine HA g h0 Y0 _ (.bs 2 0 g.p.ens.length 7) [F] (.inr ⟨hn,rfl,by rw[hF]⟩) _ (by simp) (by simp) (by simp) ?_;intro E' V2 W2 f2 Fz;obtain⟨rO,rfl,rfl⟩|⟨rO,rfl,rfl⟩:=Fz
 ·simp[Ti,f2,oa,rO,lF,Iz,zu]
 rw[p9];simp[Ti,f2,oa,ate,atf,atg,lF,Iz,zu]
open Go Go.Abs
def zB(x:Sh):List Sh->Nat->Int
 |[],_=> -1
 |a::r,i=>if x=a then i else zB x r (i+1)
def HB(x:Sh):∀(L:List Sh)(i:Nat),(0<=zB x L i)=(x∈L)
 |[],i=>by simp[zB]
 |a::r,i=>by
  unfold zB;by_cases h:x=a
  ·rw[if_pos h];simp[h]
  rw[if_neg h,HB x r (i+1)];simp[h]
def aax(L:List Sh)(x:Sh)(hl:L.length<=1000000000):Pure Tryz.prog az 111 [.sl .ro (L.map Xg),.agg (Xg x)] (I (zB x L 0)):=by
 obtain⟨x1,x2,x3⟩:=x;refine Qn abT (fun _ _ _=>.junk) (by simp) ?_;simp[agR,Xg];refine Qj Bv (fun f m=>∃i:Nat,f 8=I i/\i<=L.length/\zB (x1,x2,x3) (L.drop i) i=zB (x1,x2,x3) L 0/\m=⟨[[I x1,I x2,I x3]],[],fun _=>.gone,0⟩) (fun f _=>L.length-(numOf (f 8)).toNat) ?_ ?_
 ·exact⟨0,by simp,by omega,by simp,rfl⟩
 rintro f m ⟨i,f8,hi,hr,rfl⟩;rcases zzaa i L.length with ai|bB
 ·obtain⟨a,ha⟩:=aR ai;have hd:L.drop i=a::L.drop (i+1):=by rw[zzaf ai,(zza.1 ha).2]
  obtain⟨a1,a2,a3⟩:=a;have aa:Qh (L.map Xg) i=[I a1,I a2,I a3]:=Qs (by simp[ha,Xg]);have ah:(i:Int)<(L.length:Int):=by omega
  have hw:=bJ i (by omega);rw[hd,zB]at hr;by_cases hP:(x1,x2,x3)=(a1,a2,a3)
  ·rw[if_pos hP]at hr;obtain⟨rfl,rfl,rfl⟩:x1=a1/\x2=a2/\x3=a3:=by simpa using hP
   simp[f8,Bv,Ts,ah,aa];exact hr
  rw[if_neg hP]at hr;have hP':¬(x1=a1/\x2=a2/\x3=a3):=by simpa using hP
  have hb:(x1==a1&&(x2==a2&&x3==a3))=false:=by
   cases hq:(x1==a1&&(x2==a2&&x3==a3))with
   |false=>rfl
   |true=>simp at hq;exact absurd hq hP'
  simp[f8,Bv,ah,aa,hw,hb];refine⟨aN,⟨i+1,by simp,by omega,hr⟩,by omega⟩
 obtain rfl:i=L.length:=by omega
 rw[zzbr,zB]at hr;simp[f8,Bv,Ts];exact hr
def L3(L:List Sh)(x:Sh)(hl:L.length<=1000000000):Pure Tryz.prog az 54 [.sl .ro (L.map Xg),.agg (Xg x)] (.bool (decide (x∈L))):=by
 have k:=aax L x hl;obtain⟨x1,x2,x3⟩:=x;simp only[Xg]at k;refine Qn akz (fun _ _ _=>I (zB (x1,x2,x3) L 0)) (by simp) ?_;simp[aoz,aoA,Xg];refine⟨k,?_⟩;simp[<- HB (x1,x2,x3) L 0]
def zC(M:Md)(c r f:Int)(s:Sh):Bool:=if s.1=0/\s.2.1=0 then decide (Xv M c r f≠[])else decide (s∈Xv M c r f)
def Qdx(M:Md)(hM:MoK M)(c r f:Int):(Xv M c r f).length<=10000000:=by
 unfold Xv;cases hl:gW M c with
 |none=>simp
 |some l=>
  cases l with
  |nil=>simp
  |cons g l=>
   simp only;split
   ·simp
   have dH:=lu hl;have h1:=aal r f (g::l) (fun g hg e he=>((hM.ev _ dH g hg).2 e he).2) (Vj (nU f M.os) (Jb f M.os)) (Vj (nU f M.os) (Jb f M.os)).length;have hc:=Dj f M.os;have nX:=(LU f M.os).1;have h2:(Vj (nU f M.os) (Jb f M.os)).length<=1000:=yh 1000 _ (by have:=hM.lo;omega);unfold LX at h1;rw[zzbm]at h1;omega
def Dt(Y:YT)(m:AM)(md:Nat)(M:Md)(pid aQ:Nat)(bn:List Rt)(bO:Rt)(z:List AV)(c r f:Int)(s:Sh)(h:iy m.boxes md M pid aQ bn bO z)(hM:MoK M)(aT:∀rt∈bn,rt=.full\/∃k,rt=.own k 18)
  (hf:f<=9223372036854775807)(K:AV->AM->Prop)
  (hK:∀ex lx Sd Se,K (.bool (zC M c r f s)) ⟨m.boxes++ex,m.lens++lx,Sd,Se⟩):
  an Tryz.prog az Y 27 [.ptr md 0,I c,I r,I f,.agg (Xg s)] m K:=by
 obtain⟨mb,ml,ms,mn⟩:=m;have hB:∀ex,iy (mb++ex) md M pid aQ bn bO z:=fun ex=>h.ext ex;have ka:=fun ex K hK=>Qde Y ⟨mb++ex,ml,ms,mn⟩ md M pid aQ bn bO z c r f (hB ex) hM aT hf K hK;have kc:=L3 (Xv M c r f) s (by have:=Qdx M hM c r f;omega);have aH:=Qdx M hM c r f;obtain⟨s1,s2,s3⟩:=s;simp only[Xg]at kc;refine Xd akj (fun _ fn _=>if fn=54 then .bool (decide ((s1,s2,s3)∈Xv M c r f))else .gd false .junk) (by simp) ?_;simp[aoo,Xg];refine ka _ _ fun ex lx Sd Se=>?_;have hK:=fun gT=>hK ([I s1,I s2,I s3]::(ex++gT)) lx Sd Se;simp only[zC]at hK;generalize Xv M c r f=al at*
 by_cases h1:s1=0
 ·by_cases h2:s2=0
  ·cases al with
   |nil=>
    simp[h1,h2,Te]at hK |-
    simpa using hK []
   |cons a t=>
    simp[h1,h2,Te]at hK |-
    simpa using hK []
  simp[h1,h2,Te]at hK kc |-
  exact⟨kc,by simpa using hK []⟩
 simp[h1,Te]at hK kc |-
 exact⟨kc,by simpa using hK []⟩
end
end Go.Proofs.YtnopaopphmjnmaaGreatDoor
