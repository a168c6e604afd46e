import Derived.Test.YtnopaopphmjnmaaGreatDoorMQMcW
import Derived.Test.YtnopaopphmjnmaaGreatDoorMQMeA
set_option linter.all false
set_option maxRecDepth 100000
set_option maxHeartbeats 64000000
namespace Go.Proofs.YtnopaopphmjnmaaGreatDoor
noncomputable section
open Go Go.Abs
def tM(M:Md)(c v:Int):Option Pg:=(Yx M c).bind fun l=>if v<0 then none else l[v.toNat]?
def tN:Option Pg->AV
 |none=>.aZ [.agg iL,.bool false]
 |some g=>.aZ [.agg (Qm g),.bool true]
def IF(Y:YT)(m:AM)(md:Nat)(M:Md)(pid aQ:Nat)(aV:List Rt)(bI:Rt)(z:List AV)(c v:Int)(h:gD m.boxes md M pid aQ aV bI z)(aT:∀rt∈aV,rt=.full\/∃k,rt=.own k 18)
  (hg:∀l∈M.ps,∀g∈l,PgC g)(hl:∀l∈M.ps,l.length<=1000000)(K:AV->AM->Prop)
  (hK:∀ex,K (tN (tM M c v)) ⟨m.boxes++ex,m.lens,m.st,m.ln⟩):
  an Tryz.prog aA Y 20 [.ptr md 0,I c,I v] m K:=by
 obtain⟨mb,ml,ms,mn⟩:=m;have hB:∀ex,gD (mb++ex) md M pid aQ aV bI z:=fun ex=>h.ext ex;have kc:=fun ex K h0 h1=>Ig Y ⟨mb++ex,ml,ms,mn⟩ md M pid aQ aV bI z c (hB ex) K h0 h1;refine Xd alv (fun _ _ l=>match l with|[.agg cs]=>.agg cs|_=>.gd false .junk) zd ?_;simp[apN];refine kc _ _ (fun hn=>?_) (fun l gN rt aor=>?_)
 ·have hp:tM M c v=none:=by unfold tM;rw[hn];rfl
  rw[hp]at hK;by_cases hv:v<0
  ·simp[hv,QO];simpa[tN,iL]using hK _
  have CX:0<=v:=zE
  simp[hv,CX,QO];simpa[tN,iL]using hK _
 have dU:=lS gN;have w8:=hl l dU;have hp:tM M c v=if v<0 then none else l[v.toNat]?:=by unfold tM;rw[gN];rfl
 rw[hp]at hK
 have fS:∃ce,tH rt ce:=by
  rcases aT rt aor with rfl|⟨k,rfl⟩
  ·exact⟨_,fun m d x=>rfl⟩
  exact⟨_,tH.own _ _⟩
 obtain⟨ce,hce⟩:=fS;by_cases hv:v<0
 ·rw[if_pos hv]at hK;simp[hv,QO];simpa[tN,iL]using hK _
 rw[if_neg hv]at hK;obtain⟨n,rfl⟩:=zzhd (show 0<=v by omega);rw[zzes]at hK;by_cases ai:n<l.length
 ·obtain⟨g,hgg⟩:=aU ai;rw[hgg]at hK;have ah:Qh (l.map Qm) n=Qm g:=Qt (by simp[hgg]);have ck:(n:Int)<(l.length:Int):=zE
  have CZ:¬(l.length:Int)<=(n:Int):=zE
  have k44:=Ts g (hg l dU g (zzac hgg));simp only[Qm,Qa,zzad,zzah]at ah k44;simp[hv,ck,CZ,ah,QO];refine⟨k44,?_⟩;simpa[tN,Qm,Qa]using hK _
 have hn:l[n]?=none:=zzaw zE;rw[hn]at hK;have CZ:(l.length:Int)<=(n:Int):=zE
 have cw:l.length<=n:=zE
 simp[hv,CZ,QO];simpa[tN,iL]using hK _
open Go Go.Abs
def kQ(o:Od)(n f:Int):Od:={o with nw:={o.nw with al:=o.nw.al.take 9},cu:={o.cu with tx:=o.cu.tx.extract 0 (if 300<o.cu.tx.size then 300 else o.cu.tx.size)},sq:=n,fr:=f}
def Tv(a b:Int):Int:=if a<b then b else a
def y5:List Od->List Od->Int->List Od
 |[],out,_=>out
 |o::r,out,last=>if 7<=out.length then out else
  if Xy (kQ o (out.length+1) (Tv o.fr last))=true then y5 r (out++[kQ o (out.length+1) (Tv o.fr last)]) (Tv o.fr last)else y5 r out last
def IG(l:List Od):List Od:=y5 l [] 0
def ay3(o:List Od)(rt:Rt)(ls:List Nat):Prop:=(o=[]/\rt=.nil/\ls=[])\/(o≠[]/\rt=.own 0 26/\ls=[o.length])
def au2(l:List Od)(f:Nat->AV)(m:AM):Prop:=
 ∃(i:Nat)(out:List Od)(last:Int)(rt:Rt)(ls:List Nat)(bx:List (List AV)),f 5=I i/\i<=l.length/\f 3=.sl rt (out.map Qp)/\f 4=I last/\ay3 out rt ls/\out.length<=7/\y5 (l.drop i) out last=IG l/\m=⟨bx,ls,fun _=>.gone,0⟩
def dOd(l:List AV):Od:=⟨dI (dN l 0),dI (dN l 1),dI (dN l 2),dI (dN l 3),dI (dN l 4),dI (dN l 5),dEn (l.drop 6),dCl (l.drop 13),dCu (l.drop 21)⟩
def P3:Nat->FuncId->List AV->AV:=fun d f l=>if f=34 then(match l with
 |[.agg cs]=>.bool (Xy (dOd cs))
 |_=>.junk)else .junk
def ahh(o:Od):dOd (Qp o)=o:=by
 show(⟨o.sq,o.ch,o.fr,o.ki,o.en,o.n,dEn (Qd o.nw),o.cl,o.cu⟩:Od)=o;rw[PJ]
def Ay(l:List Od)(hl:l.length<=1000000000000):∃rt,Pure Tryz.prog aA 15 [.sl .ro (l.map Qp)] (.sl rt ((IG l).map Qp)):=by
 refine⟨if IG l=[]then .nil else .ro,Qo alq P3 zd ?_⟩;simp[alp];refine Qk vo (au2 l) (fun f _=>l.length-(numOf (f 5)).toNat) ?_ ?_
 ·exact⟨0,[],0,.nil,[],[],zd,zE,zd,zd,.inl ⟨rfl,rfl,rfl⟩,zd,by simp[IG],rfl⟩
 rintro f m ⟨i,out,last,rt,ls,bx,f5,hi,f3,f4,hO,O1,hr,rfl⟩;rcases zzaa i l.length with ai|bz
 ·obtain⟨o,ho⟩:=aU ai;have ah:Qh (l.map Qp) i=Qp o:=Qt (by simp[ho]);have aa:(i:Int)<(l.length:Int):=zE
  have hw:=bM i zE;have hd:l.drop i=o::l.drop (i+1):=by rw[zzaf ai,(zza.1 ho).2]
  rw[hd,y5]at hr;by_cases h7:7<=out.length
  ·rw[if_pos h7]at hr;have h7':¬(out.length:Int)<7:=zE
   rw[<- hr];obtain⟨rfl,rfl,rfl⟩|⟨h0,rfl,rfl⟩:=hO
   ·simp at h7
   simp[f5,f3,vo,aa,h7',acv,h0]
  rw[if_neg h7]at hr;have h7':(out.length:Int)<7:=zE
  have azL:out.length<7:=zE
  have T4:IntKind.i64.wrap ((out.length:Int)+1)=(out.length:Int)+1:=by rw[Qj]<;>omega
  have t1:List.take (if(9:Int)<(o.nw.al.length:Int)then(9:Int)else(o.nw.al.length:Int)).toNat (o.nw.al.map Qf)=List.take 9 (o.nw.al.map Qf):=by
   have:=Qdy (o.nw.al.map Qf) 9;rw[zzbj]at this;exact this
  have a1:=tD (a:=o.nw.al.length) 9;have b1:=tE (a:=o.nw.al.length) 9;have a2:=tD (a:=o.cu.tx.size) 300;have b2:=tE (a:=o.cu.tx.size) 300
  have e2:(if(300:Int)<(o.cu.tx.size:Int)then(300:Int)else(o.cu.tx.size:Int)).toNat=if 300<o.cu.tx.size then 300 else o.cu.tx.size:=by
   by_cases h:300<o.cu.tx.size
   ·rw[if_pos h,if_pos zE];rfl
   rw[if_neg h,if_neg zE];omega
  simp at a1 b1 a2 b2;have cU:∀(row:List AV)(x x_1:Int),(x,x_1)∈o.nw.al->Qf (x,x_1)=row->row.length=2:=by rintro row a b _ rfl;rfl
  have Tw:=ahg (kQ o (out.length+1) (Tv o.fr last)) (by simp[kQ];omega);have hdo:=ahh (kQ o (out.length+1) (Tv o.fr last))
  have LV:Qp (kQ o (out.length+1) (Tv o.fr last))=[I ((out.length:Int)+1),I o.ch,I (if o.fr<last then last else o.fr),I o.ki,I o.en,I o.n,I o.nw.id,I o.nw.it,I o.nw.fr,I o.nw.ea,I o.nw.la,I o.nw.bo,.sl .ro (List.take 9 (o.nw.al.map Qf)),
   I o.cl.ki,I o.cl.it,I o.cl.fr,I o.cl.to,I o.cl.re,I o.cl.n,I o.cl.a,I o.cl.b,I o.cu.id,I o.cu.fr,I o.cu.to,I o.cu.pr,.str (o.cu.tx.extract 0 (if 300<o.cu.tx.size then 300 else o.cu.tx.size))]:=by
   simp[Qp,Qd,Qg,Qi,kQ,Tv,zzhs]
  have T7:Tv o.fr last=if o.fr<last then last else o.fr:=rfl;rw[LV]at Tw hdo;generalize hC:kQ o (out.length+1) (Tv o.fr last)=C at*
  simp only[Qp,Qd,Qg,Qi,zzad,zzah]at ah;cases hv:Xy C with
  |false=>
   rw[hv]at Tw;rw[if_neg (by rw[hv];decide)]at hr;simp[f5,f3,f4,vo,aa,hw,h7',ah,T4,t1,a1,b1,a2,b2,e2,P3,hdo,hv];refine⟨cU,Tw,aP,⟨i+1,out,last,rt,ls,_,zd,zE,zd,zd,hO,O1,hr,rfl⟩,zE⟩
  |true=>
   rw[hv]at Tw;rw[if_pos hv,T7]at hr;obtain⟨rfl,rfl,rfl⟩|⟨h0,rfl,rfl⟩:=hO
   ·have w1:IntKind.i64.wrap 1=1:=by decide
    simp at hdo Tw LV;simp[f5,f3,f4,vo,aa,hw,ah,w1,t1,a1,b1,a2,b2,e2,P3,hdo,hv];refine⟨cU,Tw,aP,⟨i+1,[]++[C],_,.own 0 26,[1],_,zd,zE,by simp[LV],zd,.inr ⟨zd,rfl,zd⟩,zd,hr,rfl⟩,zE⟩
   simp[f5,f3,f4,vo,aa,hw,h7',ah,T4,t1,a1,b1,a2,b2,e2,P3,hdo,hv];refine⟨cU,Tw,⟨?_,zE⟩,aP,⟨i+1,out++[C],_,.own 0 26,[out.length+1],_,zd,zE,by simp[LV],zd,.inr ⟨zd,rfl,zd⟩,by simp;omega,hr,rfl⟩,zE⟩
   ·rintro row (⟨a,_,rfl⟩|rfl)<;>rfl
 obtain rfl:i=l.length:=zE
 rw[zzbn,y5]at hr;rw[<- hr];obtain⟨rfl,rfl,rfl⟩|⟨h0,rfl,rfl⟩:=hO
 ·simp[f5,f3,vo,acv]
 simp[f5,f3,vo,acv,h0]
open Go Go.Abs
def Tx:Md->List Od->Option Md
 |M,[]=>some M
 |M,o::r=>match zF M o with
  |none=>none
  |some M'=>Tx M' r
def qu(ps:List Pl)(os:List Od):Option Md:=match mw ps with
 |none=>none
 |some M=>Tx M os
structure Ty (ps:List Pl):Prop where
 len:ps.length<=1000000
 sh:∀p∈ps,Tp p
 al:∀p∈ps,∀e∈p.ens,e.al.length<=8796093022208
 ea:∀p∈ps,∀e∈p.ens,e.ea<=9223372036854775807
def Ty.be{ps:List Pl}(h:Ty ps):∀p∈ps,agW p:=fun p hp=>auE (h.sh p hp) (h.al p hp) (h.ea p hp)
def P4(ls:List Nat)(ps:List (List Pg)):dG ls (Ih ps.length) ps:=
 ⟨fun i rt l h _=>.inl ((List.mem_replicate.1 (zzac h)).2),fun i j k h _=>by
  have:=(List.mem_replicate.1 (zzac h)).2;cases this⟩
def bw.pref{S:Nat->Prop}{mb X B':List (List AV)}(h:bw S (mb++X) B')(hS:∀j,S j->mb.length<=j):∃ex,B'=mb++ex:=by
 refine⟨B'.drop mb.length,?_⟩;apply zzcm;intro j;have hl:=h.1;simp only[zzai]at hl;rcases zzaa j mb.length with hj|hj
 ·rw[zzag hj];have:=h.2 j (by simp;omega) (fun hs=>by have:=hS j hs;omega);rw[Ug zE,this,Ug hj,Ql hj]
 rw[zzal hj,zzbm];congr 1;omega
def dG.own{ls:List Nat}{aV:List Rt}{ps:List (List Pg)}(h:dG ls aV ps)(hl:aV.length=ps.length):∀rt∈aV,rt=.full\/∃k,rt=.own k 18:=fun rt aT=>by
 obtain⟨i,hi⟩:=zzc.1 aT;have ai:=(zza.1 hi).1;rcases h.1 i rt _ hi (zzae zE)with e|⟨k,e,_⟩
 ·exact .inl e
 exact .inr ⟨k,e⟩
def au3(mb:List (List AV))(ms:Nat->LS)(mn:Nat)(os:List Od)(M:Md)(md pid aQ:Nat)(z:List AV)(f:Nat->AV)(m:AM):Prop:=
 ∃(i:Nat)(M':Md)(ex:List (List AV))(ls:List Nat)(aV:List Rt)(bI:Rt),f 7=I i/\i<=os.length/\Tx M' (os.drop i)=Tx M os/\PT M'/\M'.os.length=i/\gD (mb++ex) md M' pid aQ aV bI z/\dG ls aV M'.ps/\dK ls aV bI M'.os.length/\m=⟨mb++ex,ls,ms,mn⟩
def Tz(Y:YT)(m:AM)(ps:List Pl)(os:List Od)(hp:Ty ps)(ho:∀o∈os,uF o)(O1:os.length<=100)(K:AV->AM->Prop)
  (h0:qu ps os=none->∀ex ls,K (.nilv true) ⟨m.boxes++ex,ls,m.st,m.ln⟩)
  (h1:∀M,qu ps os=some M->∀ex ls md pid aQ aV bI z,m.boxes.length<=md->PT M->M.os.length=os.length->gD (m.boxes++ex) md M pid aQ aV bI z->dG ls aV M.ps->dK ls aV bI M.os.length->K (.ptr md 0) ⟨m.boxes++ex,ls,m.st,m.ln⟩):
  an Tryz.prog aA Y 26 [.sl .ro (ps.map Qa),.sl .ro (os.map Qp)] m K:=by
 obtain⟨mb,ml,ms,mn⟩:=m;refine Xd alx (fun _ _ _=>.gd false .junk) zd ?_;simp[apO];refine Eh Y _ ps hp.len hp.be _ (fun hn ex=>?_) (fun M hM ex md pid aQ z iS hB=>?_)
 ·have h0:=h0 (by unfold qu;rw[hn]) ex ml;simp[acy];exact h0
 have iG:qu ps os=Tx M os:=by unfold qu;rw[hM]
 rw[iG]at h0 h1;obtain⟨hV,MR⟩:=PV hp.sh hM;simp;refine Qk UL (au3 mb ms mn os M md pid aQ z) (fun f _=>os.length-(numOf (f 7)).toNat) ?_ ?_
 ·exact⟨0,M,ex,ml,_,.nil,zd,zE,zd,hV,by simp[MR],hB,P4 _ _,.inl ⟨rfl,by simp[MR]⟩,zd⟩
 rintro f m ⟨i,M',ex,ls,aV,bI,f7,hi,hr,hV,hoi,hB,aT,c9,rfl⟩;rcases zzaa i os.length with ai|bz
 ·obtain⟨o,hoo⟩:=aU ai;have ah:Qh (os.map Qp) i=Qp o:=Qt (by simp[hoo]);have aa:(i:Int)<(os.length:Int):=zE
  have hw:=bM i zE;have hd:os.drop i=o::os.drop (i+1):=by rw[zzaf ai,(zza.1 hoo).2]
  have au4:=ho o (zzac hoo);rw[hd,Tx]at hr;have eD:o.nw.al.length<=8796093022208:=by have:=au4;unfold uF at this;omega
  have ahi:=fun K h0 h1=>lR Y ⟨mb++ex,ls,ms,mn⟩ md M' pid aQ aV bI z o hB aT c9 hV.n (fun l hl g hg _=>Iv (hV.pr l hl _ g hg).cr (by have:=hV.los;omega) au4) eD (by have:=hV.los;omega) K h0 h1;simp only[Qp,Qd,Qg,Qi,zzad,zzah]at ah ahi;simp[f7,UL,aa,ah];refine ahi _ (fun hn eW=>?_) (fun M2 hM2 B' cM rts' cS uk eU ay4 an9=>?_)
  ·rw[hn]at hr;have h0:=h0 hr.symm (ex++eW) ls;simp[acy];exact h0
  rw[hM2]at hr;obtain⟨hV2,ay5,_⟩:=El hV hM2;obtain⟨eW,rfl⟩:=bw.pref eU (fun j hj=>hj.elim (fun e=>e ▸ iS.1) (fun e=>e ▸ iS.2));simp[hw];refine⟨aP,⟨i+1,M2,eW,cM,rts',cS,zd,zE,hr,hV2,by rw[ay5];simp[hoi],uk,ay4,an9,rfl⟩,zE⟩
 obtain rfl:i=os.length:=zE
 rw[zzbn,Tx]at hr;have h1:=h1 M' hr.symm ex ls md pid aQ aV bI z iS.1 hV hoi hB aT c9;simp[f7,UL,acy];exact h1
open Go Go.Abs
def an.wka{P:Program}{gl:Nat->AV}{Y:YT}{f:FuncId}{xs xs':List AV}{m:AM}{K:AV->AM->Prop}(hk:WkL xs xs')(h:an P gl Y f xs' m K):an P gl Y f xs m K:=
 ⟨h.1,fun N w0 aq γ w vs hm hl hg hy hr=>h.2 N w0 aq γ w vs hm hl hg hy (hk.rep hr)⟩
def abE(e:En×Rt):List AV:=[I e.1.id,I e.1.it,I e.1.fr,I e.1.ea,I e.1.la,I e.1.bo,.sl e.2 (e.1.al.map Qf)]
def aoz(l:List (En×Rt))(rt:Rt):Wk (.sl rt (l.map abE)) (.sl .ro ((l.map (·.1)).map Qd)):=by
 refine Wk.trans (Wk.sl _ _) ?_;rw[zzcz];refine Wk.rows l abE (Qd ∘ (·.1)) (fun _=>rfl) fun a j c' h=>?_
 match j,h with
 |0,h=>exact yi h
 |1,h=>exact yi h
 |2,h=>exact yi h
 |3,h=>exact yi h
 |4,h=>exact yi h
 |5,h=>exact yi h
 |6,h=>exact⟨_,rfl,by cases h;exact Wk.sl _ _⟩
 |j+7,h=>simp[Qd]at h
def ak3:List AV:=[I 0,I 25,I 1,I 0,.sl .nil [],I 0,I 1,I 200,I 1,.sl .full [[I 1,I 5,I 300,I 0,I 0],[I 2,I 2,I 20,I 0,I 0],[I 3,I 4,I 100,I 0,I 0]],
 .sl .full [[I 1,I 2,I 20,I 0,I 0,I 0,.sl .nil []],[I 2,I 3,I 40,I 20,I 50,I 0,.sl .nil []]],.sl .nil [],
 .sl .full [[I 1,I 2,I 0,I 1000,I 255,I 0,I 0,I 0],[I 1,I 3,I 0,I 1000,I 255,I 0,I 0,I 0]]]
def M1:Pure Tryz.prog aA 33 [] (.agg ak3):=by
 refine Qo alE (fun _ _ _=>.junk) zd ?_;simp[apS,apT,ak3]
def TA:Pure Tryz.prog aA 33 [] (.agg (Qa (iT 0))):=
 Xa M1 (Qcq ⟨zt,zt,zt,zt,Wk.sl _ _,zt,zt,zt,zt,Wk.sl _ _,aoz [(⟨1,2,20,0,0,0,[]⟩,.nil),(⟨2,3,40,20,50,0,[]⟩,.nil)] .full,Wk.sl _ _,Wk.sl _ _,trivial⟩)
def M3:Ty [iT 0]:=by
 refine⟨zd,fun p hp=>?_,fun p hp e he=>?_,fun p hp e he=>?_⟩
 ·simp only[zzbd]at hp;subst hp;exact⟨by simp[iT],by simp[iT],by simp[iT],by simp[iT],by simp[iT],by simp[iT]⟩
 ·simp only[zzbd]at hp;subst hp;simp[iT]at he;rcases he with rfl|rfl<;>simp
 simp only[zzbd]at hp;subst hp;simp[iT]at he;rcases he with rfl|rfl<;>simp
def abF(n:Int):Wk (.agg [I n,I 0,I 30,I 2,I 2,I 0,I 0,I 0,I 0,I 0,I 0,I 0,.sl .nil [],I 0,I 0,I 0,I 0,I 0,I 0,I 0,I 0,I 0,I 0,I 0,I 0,.str ⟨#[]⟩]) (.agg (Qp (iU n))):=
 Qcq ⟨zt,zt,zt,zt,zt,zt,zt,zt,zt,zt,zt,zt,Wk.sl _ _,zt,zt,zt,zt,zt,zt,zt,zt,zt,zt,zt,zt,zt,trivial⟩
def PT.mok{M:Md}(h:PT M):MoK M:=
 ⟨fun o ho=>by have:=h.fr o ho;omega,h.n,by have:=h.los;omega,fun l hl g hg=>by
  obtain⟨i,hi⟩:=zzc.1 hg;have hp:=h.pr l hl i g hi;exact⟨by have:=hp.small.1;omega,fun e he=>⟨hp.small.2 e he,(hp.ep e he).2.2.1⟩⟩⟩
def PT.pgc{M:Md}(h:PT M):∀l∈M.ps,∀g∈l,PgC g:=fun l hl g hg=>by
 obtain⟨i,hi⟩:=zzc.1 hg;have hp:=h.pr l hl i g hi;have hn:=h.n l hl;have:=(zza.1 hi).1;exact hp.pgc (by have:=h.los;omega)
def abG:mw []=none:=by unfold mw;rw[if_pos zd]
def ahj:tM dx 0 1=some Iy:=by cbv
def au5:Tt dx 0 0 38 (0,0,5)=true:=by unfold Tt;rw[abr];simp
def au6:Tt dx 0 0 38 (3,12,0)=false:=by unfold Tt;rw[abr];simp
def P5(n:Int):uF (iU n):=by unfold uF iU lJ;simp
def ak4:SC:=(⟨_,by cbv⟩:uf [1,1,1,1,1,1,1,1,1,1,1] qJ).1
def ak5:SC:=(⟨_,fun _=>by cbv⟩:Kq [1] (Kj [1,1,1,1,1,1,1,1,1,1] qJ)).1 ak4
def ak6:SC:=(⟨_,fun _=>by cbv⟩:Kq [1] (Kj [1,1,1,1,1,1,1,1,1] qJ)).1 ak5
def ak7:SC:=(⟨_,fun _=>by cbv⟩:Kq [1] (Kj [1,1,1,1,1,1,1,1] qJ)).1 ak6
def ak8:SC:=(⟨_,fun _=>by cbv⟩:Kq [1] (Kj [1,1,1,1,1,1,1] qJ)).1 ak7
def ak9:SC:=(⟨_,fun _=>by cbv⟩:Kq [1] (Kj [1,1,1,1,1,1] qJ)).1 ak8
def ala:SC:=(⟨_,fun _=>by cbv⟩:Kq [1] (Kj [1,1,1,1,1] qJ)).1 ak9
def alb:SC:=(⟨_,fun _=>by cbv⟩:Kq [1] (Kj [1,1,1,1] qJ)).1 ala
def alc:SC:=(⟨_,fun _=>by cbv⟩:Kq [1] (Kj [1,1,1] qJ)).1 alb
def ald:SC:=(⟨_,fun _=>by cbv⟩:Kq [1] (Kj [1,1] qJ)).1 alc
def au7:SC:=(⟨_,fun _=>by cbv⟩:Kq [1,1] qJ).1 ald
theorem ahk:qJ=au7:=rfl
def aoA:Pure Tryz.prog aA 11 [] (.bool true):=by
 have k33:=TA;refine Qo aln (fun _ f _=>if f=33 then .agg (Qa (iT 0))else .gd false .junk) zd ?_;rw[ahk];simp[Qa,iT,Qn,Qd,Qg]at k33;simp[au7,Qa,iT,Qn,Qd,Qg];refine⟨k33,?_⟩;refine an.wka (xs':=[.sl .ro ([iT 0].map Qa)]) ⟨Wk.sl _ _,trivial⟩ ?_;refine Eh Y0 _ [iT 0] M3.len M3.be _ (fun hn=>?_) (fun M hM ex md pid aQ z iS hB=>?_)
 ·rw[Em]at hn;cases hn
 rw[Em]at hM;cases hM;simp only[zzah]at hB |-
 simp[ald];refine an.wka (xs':=[.sl .ro (([]:List Pl).map Qa)]) ⟨Wk.sl _ _,trivial⟩ ?_;refine Eh Y0 _ [] zd (fun p hp=>by cases hp) _ (fun _ eW=>?_) (fun M hM=>by rw[abG]at hM;cases hM);have hB:=hB.ext eW;simp only at hB |-
 generalize ex++eW=B at*
 simp[alc];simp[alb];refine an.wka (xs':=[.ptr md 0,.agg (Qp (iU 1))]) ⟨zt,abF 1,trivial⟩ ?_;have hV0:=PV M3.sh Em;refine lR Y0 _ md _ pid aQ _ .nil z (iU 1) hB (P4 _ _) (.inl ⟨rfl,rfl⟩) hV0.1.n (fun l hl g hg _=>Iv (hV0.1.pr l hl _ g hg).cr zd (P5 1)) (by simp[iU,lJ]) zd _ (fun hn=>?_) (fun M' hM' B' cM rts' cS qD eU z7 Il=>?_)
 ·rw[Eo]at hn;cases hn
 rw[Eo]at hM';cases hM';have hV1:=(El hV0.1 Eo).1;have K5:=hV1.mok;have hpg:=hV1.pgc;have uj:=z7.own qD.hrts;simp[ala];refine an.wka (xs':=[.ptr md 0,.agg (Qp (iU 3))]) ⟨zt,abF 3,trivial⟩ ?_;refine lR Y0 _ md dx pid aQ rts' cS z (iU 3) qD z7 Il hV1.n (fun l hl g hg _=>Iv (hV1.pr l hl _ g hg).cr (by simp[dx]) (P5 3)) (by simp[iU,lJ]) (by simp[dx]) _ (fun hn zx=>?_) (fun M' hM'=>by rw[abp]at hM';cases hM');have uk:=qD.ext zx;simp only at uk |-
 generalize B'++zx=B2 at*
 clear hB qD;have hfo:∀o∈dx.os,0<=o.2/\o.2<=1000000000000:=K5.os;simp[ak9];refine sg Y0 _ md dx pid aQ rts' cS z 37 uk hfo _ ?_;rw[ayV,ayX];simp[ak8];refine sg Y0 _ md dx pid aQ rts' cS z 38 uk hfo _ ?_;rw[auM,auN];simp[ak7];refine kP Y0 _ md dx pid aQ rts' cS z 0 0 32 uk K5 uj zE _ fun JX lx4 ms4 mn4=>?_;have ZL:=uk.ext JX;simp only at ZL |-
 generalize B2++JX=B3 at*
 rw[auO];simp[ak6];refine kP Y0 _ md dx pid aQ rts' cS z 0 0 38 ZL K5 uj zE _ fun ex5 lx5 ms5 mn5=>?_;have hB4:=ZL.ext ex5;simp only at hB4 |-
 generalize B3++ex5=B4 at*
 rw[abr];simp[ak5,Vj];refine kP Y0 _ md dx pid aQ rts' cS z 0 1 32 hB4 K5 uj zE _ fun ex6 lx6 ms6 mn6=>?_;have hB5:=hB4.ext ex6;simp only at hB5 |-
 generalize B4++ex6=B5 at*
 rw[ayZ];simp[ak4];refine IF Y0 _ md dx pid aQ rts' cS z 0 1 hB5 uj hpg (fun l hl=>by have:=hV1.n l hl;simp[dx]at this |-;omega) _ fun ex7=>?_;have hB6:=hB5.ext ex7;simp only at hB6 |-
 generalize B5++ex7=B6 at*
 rw[ahj];simp[tN,Qm,Qa,Iy,yZ,iT];refine PZ Y0 _ md dx pid aQ rts' cS z 0 0 38 (0,0,5) (hB6.ext _) K5 uj zE _ fun ex8 lx8 ms8 mn8=>?_;rw[au5];simp;refine PZ Y0 _ md dx pid aQ rts' cS z 0 0 38 (3,12,0) (by simpa using hB6.ext _) K5 uj zE _ fun ex9 lx9 ms9 mn9=>?_;rw[au6];simp[apL]
open Go Go.Abs
def au8(ps:List Pl):Prop:=∀p∈ps,(∀e∈p.ens,e.al.length<=8796093022208)/\∀e∈p.ens,e.ea<=9223372036854775807
def aoB(ps:List Pl):List Pl:=(ps.take 3).map SN
def ahl{ps:List Pl}(h:au8 ps):Ty (aoB ps):=by
 have key:∀p∈aoB ps,∃q∈ps,p=SN q:=fun p hp=>by
  obtain⟨q,hq,rfl⟩:=zzax.1 hp;exact⟨q,zzcb hq,rfl⟩
 refine⟨by simp[aoB];omega,fun p hp=>?_,fun p hp e he=>?_,fun p hp e he=>?_⟩
 ·obtain⟨q,hq,rfl⟩:=key p hp;exact aoq q
 ·obtain⟨q,hq,rfl⟩:=key p hp;exact(h q hq).1 e (zzcb he)
 obtain⟨q,hq,rfl⟩:=key p hp;exact(h q hq).2 e (zzcb he)
def Er:∀(l out:List Od)(last:Int),(∀o∈out,uF o)->out.length<=7->(∀o∈y5 l out last,uF o)/\(y5 l out last).length<=7
 |[],out,_,h,h7=>⟨h,h7⟩
 |o::r,out,last,h,h7=>by
  rw[y5];split
  ·exact⟨h,h7⟩
  split
  ·refine Er r _ _ (fun x hx=>?_) (by simp;omega);rcases zzam.1 hx with hx|hx
   ·exact h x hx
   rw[zzbd]at hx;subst hx;unfold uF kQ;simp;omega
  exact Er r _ _ h h7
def ahm(l:List Od):(∀o∈IG l,uF o)/\(IG l).length<=7:=Er l [] 0 (fun o h=>by cases h) zd
open Go Go.Abs
def II:∀{l:List Od}{M M':Md},Tx M l=some M'->M'.os=M.os++l.map (fun o=>(o.sq,o.fr))/\M'.pl=M.pl
 |[],M,M',h=>by cases h;simp
 |o::r,M,M',h=>by
  rw[Tx]at h;cases ho:zF M o with
  |none=>rw[ho]at h;cases h
  |some M2=>
   rw[ho]at h;obtain⟨h1,h2⟩:=II h;unfold zF at ho;split at ho
   ·cases ho
   cases ho;exact⟨by rw[h1];simp,h2⟩
def P6:∀{l:List Od}{M M':Md},Tx M l=some M'->M'.ps.length=M.ps.length/\∀(i:Nat)(x:List Pg)(g:Pg),M.ps[i]?=some x->x[0]?=some g->∃y:List Pg,M'.ps[i]?=some y/\y[0]?=some g
 |[],M,M',h=>by cases h;exact⟨rfl,fun i x g h1 h2=>⟨x,h1,h2⟩⟩
 |o::r,M,M',h=>by
  rw[Tx]at h;cases ho:zF M o with
  |none=>rw[ho]at h;cases h
  |some M2=>
   rw[ho]at h;obtain⟨h1,h2⟩:=P6 h;unfold zF at ho;split at ho
   ·cases ho
   cases ho;refine⟨by rw[h1];simp,fun i x g hx hg=>?_⟩;refine h2 i (Vv o M.os.length x) g (by simp[hx]) ?_;unfold Vv;rw[zzag (zza.1 hg).1];exact hg
def BX{p:Pl}{l:List Od}{M:Md}(h:qu [p] l=some M):zD p=0/\M.os=l.map (fun o=>(o.sq,o.fr))/\∃x,Yx M p.ch=some x/\x[0]?=some (uD p):=by
 unfold qu mw at h;rw[if_neg zd,mq]at h;by_cases hb:zD p=0
 ·rw[if_neg (by simp[md0,af,hb]),mq]at h;simp only at h;obtain⟨h1,h2⟩:=II h;obtain⟨h3,h4⟩:=P6 h;obtain⟨y,y1,y2⟩:=h4 0 [uD p] (uD p) (by simp[md0]) rfl;refine⟨hb,by rw[h1];simp[md0],y,?_,y2⟩;unfold Yx;rw[h2];simp[md0,Zr,af];exact y1
 rw[if_pos (.inr hb)]at h;cases h
open Go Go.Abs
open Go Go.Abs
def M4(l:List Od):Int:=match l.getLast? with
 |none=>0
 |some o=>o.fr
structure nk (l:List Od):Prop where
 ok:∀(i:Nat)(o:Od),l[i]?=some o->kQ o ((i:Int)+1) o.fr=o/\Xy o=true
 asc:l.Pairwise fun a b=>a.fr<=b.fr
 pos:∀o∈l,0<=o.fr
 len:l.length<=7
def Qbo(l:List Od)(o:Od):M4 (l++[o])=o.fr:=by unfold M4;simp
def IJ{l:List Od}(h:l.Pairwise fun a b=>a.fr<=b.fr):∀o∈l,o.fr<=M4 l:=fun o ho=>by
 rcases zzdp l with rfl|⟨t,x,rfl⟩
 ·cases ho
 rw[zzdq]at*
 rw[Qbo];obtain⟨_,_,h3⟩:=zzfb.1 h;rcases zzam.1 ho with ho|ho
 ·exact h3 o ho x zd
 rw[zzbd.1 ho];exact zzbq _
def TB(o:Od)(n f:Int):kQ (kQ o n f) n f=kQ o n f:=by
 have h:∀b:ByteArray,(b.extract 0 (if 300<b.size then 300 else b.size)).extract 0 (if 300<(b.extract 0 (if 300<b.size then 300 else b.size)).size then 300 else(b.extract 0 (if 300<b.size then 300 else b.size)).size)=b.extract 0 (if 300<b.size then 300 else b.size):=fun b=>by
  have h1:¬300<(b.extract 0 (if 300<b.size then 300 else b.size)).size:=by rw[zzfs];split<;>omega
  rw[if_neg h1,ByteArray.extract_zero_size]
 unfold kQ;simp only[List.take_take,Nat.min_self,h]
def nk.snoc{l:List Od}(h:nk l)(o:Od)(h7:¬7<=l.length)(f:Int)(hf:M4 l<=f)(h0:0<=f)(hv:Xy (kQ o (l.length+1) f)=true):nk (l++[kQ o (l.length+1) f]) where
 ok i x hx:=by
  rcases zzaa i l.length with hi|hi
  ·rw[zzag hi]at hx;exact h.ok i x hx
  rw[zzal hi]at hx
  obtain⟨hi2,rfl⟩:i-l.length=0/\x=kQ o (l.length+1) f:=by
   cases hk:i-l.length with
   |zero=>rw[hk]at hx;exact⟨rfl,(Option.some.inj hx).symm⟩
   |succ n=>rw[hk]at hx;simp at hx
  obtain rfl:i=l.length:=zE
  exact⟨TB o _ f,hv⟩
 asc:=zzfb.2 ⟨h.asc,zzhe _ _,fun a ha b hb=>by
  rw[zzbd.1 hb];have:=IJ h.asc a ha;show a.fr<=f;omega⟩
 pos x hx:=by
  rcases zzam.1 hx with hx|hx
  ·exact h.pos x hx
  rw[zzbd.1 hx];exact h0
 len:=by simp;omega
def au9(a b:Int):b<=Tv a b/\(b<=a->Tv a b=a)/\a<=Tv a b:=by
 unfold Tv;split<;>omega
def BY{l:List Od}(h:nk l):0<=M4 l:=by
 rcases zzdp l with rfl|⟨t,x,rfl⟩
 ·exact zzbq _
 rw[zzdq]at*
 rw[Qbo];exact h.pos x zd
def y6:∀(l out:List Od),nk out->nk (y5 l out (M4 out))
 |[],out,h=>h
 |o::r,out,h=>by
  rw[y5];have hp:=BY h;have hm:=au9 o.fr (M4 out);split
  ·exact h
  rename_i h7;split
  ·rename_i hv;have:=y6 r _ (h.snoc o h7 _ hm.1 zE hv);rw[Qbo]at this;exact this
  exact y6 r out h
def abH(l:List Od):nk (IG l):=y6 l [] ⟨(fun i o h=>by simp at h),List.Pairwise.nil,(fun o h=>by cases h),zd⟩
def Next(Ma Mb:Md)(o:Od):Prop:=Mb={Ma with ps:=Ma.ps.map (Vv o Ma.os.length),os:=Ma.os++[(o.sq,o.fr)]}
open Go Go.Abs
structure azM (g:Pg):Prop where
 sh:g.p.sh.length<=8796093022208
 aN:g.p.aN.length<=8796093022208
 ens:g.p.ens.length<=8796093022208
 al:∀e∈g.p.ens,e.al.length<=8796093022208
 bks:g.p.bks.length<=8796093022208
 cls:g.p.cls.length<=8796093022208
 ev:g.ev.length<=8796093022208
 eal:∀e∈g.ev,e.al.length<=8796093022208
 cu:g.cu.length<=8796093022208
 dr:g.dr.length<=8796093022208
end
