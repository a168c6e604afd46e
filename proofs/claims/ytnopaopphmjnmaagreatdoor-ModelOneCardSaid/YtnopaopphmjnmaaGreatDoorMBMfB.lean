import Derived.Test.YtnopaopphmjnmaaGreatDoorMBMcW
import Derived.Test.YtnopaopphmjnmaaGreatDoorMBMeA
set_option linter.all false
set_option maxRecDepth 100000
set_option maxHeartbeats 64000000
namespace Go.Proofs.YtnopaopphmjnmaaGreatDoor
noncomputable section
open Go Go.Abs
def Bi(M:Md)(c v:Int):Option Pg:=(gW M c).bind fun l=>if v<0 then none else l[v.toNat]?
def yo:Option Pg->AV
 |none=>.aV [.agg iu,.bool false]
 |some g=>.aV [.agg (Qo g),.bool true]
def aaH(Y:YT)(m:AM)(md:Nat)(M:Md)(pid aQ:Nat)(bn:List Rt)(bO:Rt)(z:List AV)(c v:Int)(h:iy m.boxes md M pid aQ bn bO z)(aT:∀rt∈bn,rt=.full\/∃k,rt=.own k 18)
  (hg:∀l∈M.ps,∀g∈l,PgC g)(hl:∀l∈M.ps,l.length<=1000000)(K:AV->AM->Prop)
  (hK:∀ex,K (yo (Bi M c v)) ⟨m.boxes++ex,m.lens,m.st,m.ln⟩):
  an Tryz.prog az Y 20 [.ptr md 0,I c,I v] m K:=by
 obtain⟨mb,ml,ms,mn⟩:=m;have hB:∀ex,iy (mb++ex) md M pid aQ bn bO z:=fun ex=>h.ext ex;have kc:=fun ex K h0 h1=>Hh Y ⟨mb++ex,ml,ms,mn⟩ md M pid aQ bn bO z c (hB ex) K h0 h1;refine Xd akg (fun _ _ l=>match l with|[.agg cs]=>.agg cs|_=>.gd false .junk) (by simp) ?_;simp[aom];refine kc _ _ (fun hn=>?_) (fun l mU rt anc=>?_)
 ·have hp:Bi M c v=none:=by unfold Bi;rw[hn];rfl
  rw[hp]at hK;by_cases hv:v<0
  ·simp[hv,Pe];simpa[yo,iu]using hK _
  have EI:0<=v:=by omega
  simp[hv,EI,Pe];simpa[yo,iu]using hK _
 have dH:=lu mU;have y9:=hl l dH;have hp:Bi M c v=if v<0 then none else l[v.toNat]?:=by unfold Bi;rw[mU];rfl
 rw[hp]at hK
 have fu:∃ce,sJ rt ce:=by
  rcases aT rt anc with rfl|⟨k,rfl⟩
  ·exact⟨_,fun m d x=>rfl⟩
  exact⟨_,sJ.own _ _⟩
 obtain⟨ce,hce⟩:=fu;by_cases hv:v<0
 ·rw[if_pos hv]at hK;simp[hv,Pe];simpa[yo,iu]using hK _
 rw[if_neg hv]at hK;obtain⟨n,rfl⟩:=zzgv (show 0<=v by omega);rw[Int.toNat_natCast]at hK;by_cases ai:n<l.length
 ·obtain⟨g,hgg⟩:=aR ai;rw[hgg]at hK;have aa:Qh (l.map Qo) n=Qo g:=Qs (by simp[hgg]);have cU:(n:Int)<(l.length:Int):=by omega
  have Cc:¬(l.length:Int)<=(n:Int):=by omega
  have k44:=Sj g (hg l dH g (zzac hgg));simp only[Qo,Qc,zzae,zzai]at aa k44;simp[hv,cU,Cc,aa,Pe];refine⟨k44,?_⟩;simpa[yo,Qo,Qc]using hK _
 have hn:l[n]?=none:=zzax (by omega);rw[hn]at hK;have Cc:(l.length:Int)<=(n:Int):=by omega
 have cc:l.length<=n:=by omega
 simp[hv,Cc,Pe];simpa[yo,iu]using hK _
open Go Go.Abs
def Dv(o:Od)(n f:Int):Od:={o with nw:={o.nw with al:=o.nw.al.take 9},cu:={o.cu with tx:=o.cu.tx.extract 0 (if 300<o.cu.tx.size then 300 else o.cu.tx.size)},sq:=n,fr:=f}
def mxI(a b:Int):Int:=if a<b then b else a
def Dw:List Od->List Od->Int->List Od
 |[],out,_=>out
 |o::r,out,last=>if 7<=out.length then out else
  if Zb (Dv o (out.length+1) (mxI o.fr last))=true then Dw r (out++[Dv o (out.length+1) (mxI o.fr last)]) (mxI o.fr last)else Dw r out last
def zH(l:List Od):List Od:=Dw l [] 0
def aw5(o:List Od)(rt:Rt)(ls:List Nat):Prop:=(o=[]/\rt=.nil/\ls=[])\/(o≠[]/\rt=.own 0 26/\ls=[o.length])
def atk(l:List Od)(f:Nat->AV)(m:AM):Prop:=
 ∃(i:Nat)(out:List Od)(last:Int)(rt:Rt)(ls:List Nat)(bx:List (List AV)),f 5=I i/\i<=l.length/\f 3=.sl rt (out.map Qq)/\f 4=I last/\aw5 out rt ls/\out.length<=7/\Dw (l.drop i) out last=zH l/\m=⟨bx,ls,fun _=>.gone,0⟩
def dOd(l:List AV):Od:=⟨dI (dN l 0),dI (dN l 1),dI (dN l 2),dI (dN l 3),dI (dN l 4),dI (dN l 5),dEn (l.drop 6),dCl (l.drop 13),dCu (l.drop 21)⟩
def OS:Nat->FuncId->List AV->AV:=fun d f l=>if f=34 then(match l with
 |[.agg cs]=>.bool (Zb (dOd cs))
 |_=>.junk)else .junk
def agj(o:Od):dOd (Qq o)=o:=by
 show(⟨o.sq,o.ch,o.fr,o.ki,o.en,o.n,dEn (Qd o.nw),o.cl,o.cu⟩:Od)=o;rw[OC]
def mH(l:List Od)(hl:l.length<=1000000000000):∃rt,Pure Tryz.prog az 15 [.sl .ro (l.map Qq)] (.sl rt ((zH l).map Qq)):=by
 refine⟨if zH l=[]then .nil else .ro,Qn akd OS (by simp) ?_⟩;simp[akc];refine Qj uz (atk l) (fun f _=>l.length-(numOf (f 5)).toNat) ?_ ?_
 ·exact⟨0,[],0,.nil,[],[],by simp,by omega,by simp,by simp,.inl ⟨rfl,rfl,rfl⟩,by simp,by simp[zH],rfl⟩
 rintro f m ⟨i,out,last,rt,ls,bx,f5,hi,f3,f4,hO,Fv,hr,rfl⟩;rcases zzaa i l.length with ai|bB
 ·obtain⟨o,ho⟩:=aR ai;have aa:Qh (l.map Qq) i=Qq o:=Qs (by simp[ho]);have ah:(i:Int)<(l.length:Int):=by omega
  have hw:=bJ i (by omega);have hd:l.drop i=o::l.drop (i+1):=by rw[zzaf ai,(zza.1 ho).2]
  rw[hd,Dw]at hr;by_cases h7:7<=out.length
  ·rw[if_pos h7]at hr;have h7':¬(out.length:Int)<7:=by omega
   rw[<- hr];obtain⟨rfl,rfl,rfl⟩|⟨h0,rfl,rfl⟩:=hO
   ·simp at h7
   simp[f5,f3,uz,ah,h7',abq,h0]
  rw[if_neg h7]at hr;have h7':(out.length:Int)<7:=by omega
  have axO:out.length<7:=by omega
  have KG:IntKind.i64.wrap ((out.length:Int)+1)=(out.length:Int)+1:=by rw[Qi]<;>omega
  have t1:List.take (if(9:Int)<(o.nw.al.length:Int)then(9:Int)else(o.nw.al.length:Int)).toNat (o.nw.al.map Qe)=List.take 9 (o.nw.al.map Qe):=by
   have:=kY (o.nw.al.map Qe) 9;rw[zzbe]at this;exact this
  have a1:=xO (a:=o.nw.al.length) 9;have b1:=xP (a:=o.nw.al.length) 9;have a2:=xO (a:=o.cu.tx.size) 300;have b2:=xP (a:=o.cu.tx.size) 300
  have e2:(if(300:Int)<(o.cu.tx.size:Int)then(300:Int)else(o.cu.tx.size:Int)).toNat=if 300<o.cu.tx.size then 300 else o.cu.tx.size:=by
   by_cases h:300<o.cu.tx.size
   ·rw[if_pos h,if_pos (by omega)];rfl
   rw[if_neg h,if_neg (by omega)];omega
  simp at a1 b1 a2 b2;have dy:∀(row:List AV)(x x_1:Int),(x,x_1)∈o.nw.al->Qe (x,x_1)=row->row.length=2:=by rintro row a b _ rfl;rfl
  have Sl:=agi (Dv o (out.length+1) (mxI o.fr last)) (by simp[Dv];omega);have hdo:=agj (Dv o (out.length+1) (mxI o.fr last))
  have KR:Qq (Dv o (out.length+1) (mxI o.fr last))=[I ((out.length:Int)+1),I o.ch,I (if o.fr<last then last else o.fr),I o.ki,I o.en,I o.n,I o.nw.id,I o.nw.it,I o.nw.fr,I o.nw.ea,I o.nw.la,I o.nw.bo,.sl .ro (List.take 9 (o.nw.al.map Qe)),
   I o.cl.ki,I o.cl.it,I o.cl.fr,I o.cl.to,I o.cl.re,I o.cl.n,I o.cl.a,I o.cl.b,I o.cu.id,I o.cu.fr,I o.cu.to,I o.cu.pr,.str (o.cu.tx.extract 0 (if 300<o.cu.tx.size then 300 else o.cu.tx.size))]:=by
   simp[Qq,Qd,Qg,Qk,Dv,mxI,List.map_take]
  have SY:mxI o.fr last=if o.fr<last then last else o.fr:=rfl;rw[KR]at Sl hdo;generalize hC:Dv o (out.length+1) (mxI o.fr last)=C at*
  simp only[Qq,Qd,Qg,Qk,zzae,zzai]at aa;cases hv:Zb C with
  |false=>
   rw[hv]at Sl;rw[if_neg (by rw[hv];decide)]at hr;simp[f5,f3,f4,uz,ah,hw,h7',aa,KG,t1,a1,b1,a2,b2,e2,OS,hdo,hv];refine⟨dy,Sl,aN,⟨i+1,out,last,rt,ls,_,by simp,by omega,by simp,by simp,hO,Fv,hr,rfl⟩,by omega⟩
  |true=>
   rw[hv]at Sl;rw[if_pos hv,SY]at hr;obtain⟨rfl,rfl,rfl⟩|⟨h0,rfl,rfl⟩:=hO
   ·have w1:IntKind.i64.wrap 1=1:=by decide
    simp at hdo Sl KR;simp[f5,f3,f4,uz,ah,hw,aa,w1,t1,a1,b1,a2,b2,e2,OS,hdo,hv];refine⟨dy,Sl,aN,⟨i+1,[]++[C],_,.own 0 26,[1],_,by simp,by omega,by simp[KR],by simp,.inr ⟨by simp,rfl,by simp⟩,by simp,hr,rfl⟩,by omega⟩
   simp[f5,f3,f4,uz,ah,hw,h7',aa,KG,t1,a1,b1,a2,b2,e2,OS,hdo,hv];refine⟨dy,Sl,⟨?_,by omega⟩,aN,⟨i+1,out++[C],_,.own 0 26,[out.length+1],_,by simp,by omega,by simp[KR],by simp,.inr ⟨by simp,rfl,by simp⟩,by simp;omega,hr,rfl⟩,by omega⟩
   ·rintro row (⟨a,_,rfl⟩|rfl)<;>rfl
 obtain rfl:i=l.length:=by omega
 rw[zzbr,Dw]at hr;rw[<- hr];obtain⟨rfl,rfl,rfl⟩|⟨h0,rfl,rfl⟩:=hO
 ·simp[f5,f3,uz,abq]
 simp[f5,f3,uz,abq,h0]
open Go Go.Abs
def jY:Md->List Od->Option Md
 |M,[]=>some M
 |M,o::r=>match lR M o with
  |none=>none
  |some M'=>jY M' r
def HD(ps:List Pl)(os:List Od):Option Md:=match pS ps with
 |none=>none
 |some M=>jY M os
structure Sm (ps:List Pl):Prop where
 len:ps.length<=1000000
 sh:∀p∈ps,Sf p
 al:∀p∈ps,∀e∈p.ens,e.al.length<=8796093022208
 ea:∀p∈ps,∀e∈p.ens,e.ea<=9223372036854775807
def Sm.be{ps:List Pl}(h:Sm ps):∀p∈ps,afY p:=fun p hp=>asW (h.sh p hp) (h.al p hp) (h.ea p hp)
def OT(ls:List Nat)(ps:List (List Pg)):ef ls (Hi ps.length) ps:=
 ⟨fun i rt l h _=>.inl ((List.mem_replicate.1 (zzac h)).2),fun i j k h _=>by
  have:=(List.mem_replicate.1 (zzac h)).2;cases this⟩
def aZ.pref{S:Nat->Prop}{mb X B':List (List AV)}(h:aZ S (mb++X) B')(hS:∀j,S j->mb.length<=j):∃ex,B'=mb++ex:=by
 refine⟨B'.drop mb.length,?_⟩;apply zzci;intro j;have hl:=h.1;simp only[zzag]at hl;rcases zzaa j mb.length with hj|hj
 ·rw[zzah hj];have:=h.2 j (by simp;omega) (fun hs=>by have:=hS j hs;omega);rw[Yz (by omega),this,Yz hj,Ql hj]
 rw[zzap hj,zzbj];congr 1;omega
def ef.own{ls:List Nat}{bn:List Rt}{ps:List (List Pg)}(h:ef ls bn ps)(hl:bn.length=ps.length):∀rt∈bn,rt=.full\/∃k,rt=.own k 18:=fun rt aT=>by
 obtain⟨i,hi⟩:=zzby.1 aT;have ai:=(zza.1 hi).1;rcases h.1 i rt _ hi (zzad (by omega))with e|⟨k,e,_⟩
 ·exact .inl e
 exact .inr ⟨k,e⟩
def atl(mb:List (List AV))(ms:Nat->LS)(mn:Nat)(os:List Od)(M:Md)(md pid aQ:Nat)(z:List AV)(f:Nat->AV)(m:AM):Prop:=
 ∃(i:Nat)(M':Md)(ex:List (List AV))(ls:List Nat)(bn:List Rt)(bO:Rt),f 7=I i/\i<=os.length/\jY M' (os.drop i)=jY M os/\Ta M'/\M'.os.length=i/\iy (mb++ex) md M' pid aQ bn bO z/\ef ls bn M'.ps/\eH ls bn bO M'.os.length/\m=⟨mb++ex,ls,ms,mn⟩
def Bj(Y:YT)(m:AM)(ps:List Pl)(os:List Od)(hp:Sm ps)(ho:∀o∈os,zA o)(Fv:os.length<=100)(K:AV->AM->Prop)
  (h0:HD ps os=none->∀ex ls,K (.nilv true) ⟨m.boxes++ex,ls,m.st,m.ln⟩)
  (h1:∀M,HD ps os=some M->∀ex ls md pid aQ bn bO z,m.boxes.length<=md->Ta M->M.os.length=os.length->iy (m.boxes++ex) md M pid aQ bn bO z->ef ls bn M.ps->eH ls bn bO M.os.length->K (.ptr md 0) ⟨m.boxes++ex,ls,m.st,m.ln⟩):
  an Tryz.prog az Y 26 [.sl .ro (ps.map Qc),.sl .ro (os.map Qq)] m K:=by
 obtain⟨mb,ml,ms,mn⟩:=m;refine Xd aki (fun _ _ _=>.gd false .junk) (by simp) ?_;simp[aon];refine Dm Y _ ps hp.len hp.be _ (fun hn ex=>?_) (fun M hM ex md pid aQ z wD hB=>?_)
 ·have h0:=h0 (by unfold HD;rw[hn]) ex ml;simp[abt];exact h0
 have ic:HD ps os=jY M os:=by unfold HD;rw[hM]
 rw[ic]at h0 h1;obtain⟨hV,R7⟩:=OL hp.sh hM;simp;refine Qj Td (atl mb ms mn os M md pid aQ z) (fun f _=>os.length-(numOf (f 7)).toNat) ?_ ?_
 ·exact⟨0,M,ex,ml,_,.nil,by simp,by omega,by simp,hV,by simp[R7],hB,OT _ _,.inl ⟨rfl,by simp[R7]⟩,by simp⟩
 rintro f m ⟨i,M',ex,ls,bn,bO,f7,hi,hr,hV,Ih,hB,aT,dG,rfl⟩;rcases zzaa i os.length with ai|bB
 ·obtain⟨o,hoo⟩:=aR ai;have aa:Qh (os.map Qq) i=Qq o:=Qs (by simp[hoo]);have ah:(i:Int)<(os.length:Int):=by omega
  have hw:=bJ i (by omega);have hd:os.drop i=o::os.drop (i+1):=by rw[zzaf ai,(zza.1 hoo).2]
  have atm:=ho o (zzac hoo);rw[hd,jY]at hr;have ey:o.nw.al.length<=8796093022208:=by have:=atm;unfold zA at this;omega
  have atn:=fun K h0 h1=>rA Y ⟨mb++ex,ls,ms,mn⟩ md M' pid aQ bn bO z o hB aT dG hV.n (fun l hl g hg _=>aaq (hV.pr l hl _ g hg).dx (by have:=hV.los;omega) atm) ey (by have:=hV.los;omega) K h0 h1;simp only[Qq,Qd,Qg,Qk,zzae,zzai]at aa atn;simp[f7,Td,ah,aa];refine atn _ (fun hn dL=>?_) (fun M2 hM2 B' dn rts' cW th fq aw6 amP=>?_)
  ·rw[hn]at hr;have h0:=h0 hr.symm (ex++dL) ls;simp[abt];exact h0
  rw[hM2]at hr;obtain⟨hV2,aw7,_⟩:=OM hV hM2;obtain⟨dL,rfl⟩:=aZ.pref fq (fun j hj=>hj.elim (fun e=>e ▸ wD.1) (fun e=>e ▸ wD.2));simp[hw];refine⟨aN,⟨i+1,M2,dL,dn,rts',cW,by simp,by omega,hr,hV2,by rw[aw7];simp[Ih],th,aw6,amP,rfl⟩,by omega⟩
 obtain rfl:i=os.length:=by omega
 rw[zzbr,jY]at hr;have h1:=h1 M' hr.symm ex ls md pid aQ bn bO z wD.1 hV Ih hB aT dG;simp[f7,Td,abt];exact h1
open Go Go.Abs
def an.wka{P:Program}{gl:Nat->AV}{Y:YT}{f:FuncId}{xs xs':List AV}{m:AM}{K:AV->AM->Prop}(hk:WkL xs xs')(h:an P gl Y f xs' m K):an P gl Y f xs m K:=
 ⟨h.1,fun N w0 aq γ w vs hm hl hg hy hr=>h.2 N w0 aq γ w vs hm hl hg hy (hk.rep hr)⟩
def aaI(e:En×Rt):List AV:=[I e.1.id,I e.1.it,I e.1.fr,I e.1.ea,I e.1.la,I e.1.bo,.sl e.2 (e.1.al.map Qe)]
def anl(l:List (En×Rt))(rt:Rt):Wk (.sl rt (l.map aaI)) (.sl .ro ((l.map (·.1)).map Qd)):=by
 refine Wk.trans (Wk.sl _ _) ?_;rw[zzcs];refine Wk.rows l aaI (Qd ∘ (·.1)) (fun _=>rfl) fun a j c' h=>?_
 match j,h with
 |0,h=>exact⟨_,rfl,by cases h;exact Wk.refl _⟩
 |1,h=>exact⟨_,rfl,by cases h;exact Wk.refl _⟩
 |2,h=>exact⟨_,rfl,by cases h;exact Wk.refl _⟩
 |3,h=>exact⟨_,rfl,by cases h;exact Wk.refl _⟩
 |4,h=>exact⟨_,rfl,by cases h;exact Wk.refl _⟩
 |5,h=>exact⟨_,rfl,by cases h;exact Wk.refl _⟩
 |6,h=>exact⟨_,rfl,by cases h;exact Wk.sl _ _⟩
 |j+7,h=>simp[Qd]at h
def ajT:List AV:=[I 0,I 25,I 1,I 0,.sl .nil [],I 0,I 1,I 200,I 1,.sl .full [[I 1,I 5,I 300,I 0,I 0],[I 2,I 2,I 20,I 0,I 0],[I 3,I 4,I 100,I 0,I 0]],
 .sl .full [[I 1,I 2,I 20,I 0,I 0,I 0,.sl .nil []],[I 2,I 3,I 40,I 20,I 50,I 0,.sl .nil []]],.sl .nil [],
 .sl .full [[I 1,I 2,I 0,I 1000,I 255,I 0,I 0,I 0],[I 1,I 3,I 0,I 1000,I 255,I 0,I 0,I 0]]]
def L8:Pure Tryz.prog az 33 [] (.agg ajT):=by
 refine Qn akm (fun _ _ _=>.junk) (by simp) ?_;simp[aor,aos,ajT]
def Sn:Pure Tryz.prog az 33 [] (.agg (Qc (iC 0))):=
 Qy L8 (Qdg ⟨Wk.refl _,Wk.refl _,Wk.refl _,Wk.refl _,Wk.sl _ _,Wk.refl _,Wk.refl _,Wk.refl _,Wk.refl _,Wk.sl _ _,anl [(⟨1,2,20,0,0,0,[]⟩,.nil),(⟨2,3,40,20,50,0,[]⟩,.nil)] .full,Wk.sl _ _,Wk.sl _ _,trivial⟩)
def L9:Sm [iC 0]:=by
 refine⟨by simp,fun p hp=>?_,fun p hp e he=>?_,fun p hp e he=>?_⟩
 ·simp only[zzbk]at hp;subst hp;exact⟨by simp[iC],by simp[iC],by simp[iC],by simp[iC],by simp[iC],by simp[iC]⟩
 ·simp only[zzbk]at hp;subst hp;simp[iC]at he;rcases he with rfl|rfl<;>simp
 simp only[zzbk]at hp;subst hp;simp[iC]at he;rcases he with rfl|rfl<;>simp
def aaJ(n:Int):Wk (.agg [I n,I 0,I 30,I 2,I 2,I 0,I 0,I 0,I 0,I 0,I 0,I 0,.sl .nil [],I 0,I 0,I 0,I 0,I 0,I 0,I 0,I 0,I 0,I 0,I 0,I 0,.str ⟨#[]⟩]) (.agg (Qq (iD n))):=
 Qdg ⟨Wk.refl _,Wk.refl _,Wk.refl _,Wk.refl _,Wk.refl _,Wk.refl _,Wk.refl _,Wk.refl _,Wk.refl _,Wk.refl _,Wk.refl _,Wk.refl _,Wk.sl _ _,Wk.refl _,Wk.refl _,Wk.refl _,Wk.refl _,Wk.refl _,Wk.refl _,Wk.refl _,Wk.refl _,Wk.refl _,Wk.refl _,Wk.refl _,Wk.refl _,Wk.refl _,trivial⟩
def Ta.mok{M:Md}(h:Ta M):MoK M:=
 ⟨fun o ho=>by have:=h.fr o ho;omega,h.n,by have:=h.los;omega,fun l hl g hg=>by
  obtain⟨i,hi⟩:=zzby.1 hg;have hp:=h.pr l hl i g hi;exact⟨by have:=hp.small.1;omega,fun e he=>⟨hp.small.2 e he,(hp.ep e he).2.2.1⟩⟩⟩
def Ta.pgc{M:Md}(h:Ta M):∀l∈M.ps,∀g∈l,PgC g:=fun l hl g hg=>by
 obtain⟨i,hi⟩:=zzby.1 hg;have hp:=h.pr l hl i g hi;have hn:=h.n l hl;have:=(zza.1 hi).1;exact hp.pgc (by have:=h.los;omega)
def aaK:pS []=none:=by unfold pS;rw[if_pos (by simp)]
def agk:Bi cZ 0 1=some Hy:=by cbv
def ato:zC cZ 0 0 38 (0,0,5)=true:=by unfold zC;rw[aav];simp
def atp:zC cZ 0 0 38 (3,12,0)=false:=by unfold zC;rw[aav];simp
def OV(n:Int):zA (iD n):=by unfold zA iD kW;simp
def ajU:SC:=(⟨_,by cbv⟩:vO [1,1,1,1,1,1,1,1,1,1,1] qg).1
def ajV:SC:=(⟨_,fun _=>by cbv⟩:vP [1] (tf [1,1,1,1,1,1,1,1,1,1] qg)).1 ajU
def ajW:SC:=(⟨_,fun _=>by cbv⟩:vP [1] (tf [1,1,1,1,1,1,1,1,1] qg)).1 ajV
def ajX:SC:=(⟨_,fun _=>by cbv⟩:vP [1] (tf [1,1,1,1,1,1,1,1] qg)).1 ajW
def ajY:SC:=(⟨_,fun _=>by cbv⟩:vP [1] (tf [1,1,1,1,1,1,1] qg)).1 ajX
def ajZ:SC:=(⟨_,fun _=>by cbv⟩:vP [1] (tf [1,1,1,1,1,1] qg)).1 ajY
def aj0:SC:=(⟨_,fun _=>by cbv⟩:vP [1] (tf [1,1,1,1,1] qg)).1 ajZ
def aj1:SC:=(⟨_,fun _=>by cbv⟩:vP [1] (tf [1,1,1,1] qg)).1 aj0
def aj2:SC:=(⟨_,fun _=>by cbv⟩:vP [1] (tf [1,1,1] qg)).1 aj1
def aj3:SC:=(⟨_,fun _=>by cbv⟩:vP [1] (tf [1,1] qg)).1 aj2
def atq:SC:=(⟨_,fun _=>by cbv⟩:vP [1,1] qg).1 aj3
theorem agl:qg=atq:=rfl
def aaL:Pure Tryz.prog az 11 [] (.bool true):=by
 have k33:=Sn;refine Qn aj8 (fun _ f _=>if f=33 then .agg (Qc (iC 0))else .gd false .junk) (by simp) ?_;rw[agl];simp[Qc,iC,Qm,Qd,Qg]at k33;simp[atq,Qc,iC,Qm,Qd,Qg];refine⟨k33,?_⟩;refine an.wka (xs':=[.sl .ro ([iC 0].map Qc)]) ⟨Wk.sl _ _,trivial⟩ ?_;refine Dm Y0 _ [iC 0] L9.len L9.be _ (fun hn=>?_) (fun M hM ex md pid aQ z wD hB=>?_)
 ·rw[Dr]at hn;cases hn
 rw[Dr]at hM;cases hM;simp only[zzai]at hB |-
 simp[aj3];refine an.wka (xs':=[.sl .ro (([]:List Pl).map Qc)]) ⟨Wk.sl _ _,trivial⟩ ?_;refine Dm Y0 _ [] (by simp) (fun p hp=>by cases hp) _ (fun _ dL=>?_) (fun M hM=>by rw[aaK]at hM;cases hM);have hB:=hB.ext dL;simp only at hB |-
 generalize ex++dL=B at*
 simp[aj2];simp[aj1];refine an.wka (xs':=[.ptr md 0,.agg (Qq (iD 1))]) ⟨Wk.refl _,aaJ 1,trivial⟩ ?_;have hV0:=OL L9.sh Dr;refine rA Y0 _ md _ pid aQ _ .nil z (iD 1) hB (OT _ _) (.inl ⟨rfl,rfl⟩) hV0.1.n (fun l hl g hg _=>aaq (hV0.1.pr l hl _ g hg).dx (by simp) (OV 1)) (by simp[iD,kW]) (by simp) _ (fun hn=>?_) (fun M' hM' B' dn rts' cW td fq FO LV=>?_)
 ·rw[Ds]at hn;cases hn
 rw[Ds]at hM';cases hM';have hV1:=(OM hV0.1 Ds).1;have vB:=hV1.mok;have hpg:=hV1.pgc;have oO:=FO.own td.hrts;simp[aj0];refine an.wka (xs':=[.ptr md 0,.agg (Qq (iD 3))]) ⟨Wk.refl _,aaJ 3,trivial⟩ ?_;refine rA Y0 _ md cZ pid aQ rts' cW z (iD 3) td FO LV hV1.n (fun l hl g hg _=>aaq (hV1.pr l hl _ g hg).dx (by simp[cZ]) (OV 3)) (by simp[iD,kW]) (by simp[cZ]) _ (fun hn sC=>?_) (fun M' hM'=>by rw[aat]at hM';cases hM');have th:=td.ext sC;simp only at th |-
 generalize B'++sC=B2 at*
 clear hB td;have hfo:∀o∈cZ.os,0<=o.2/\o.2<=1000000000000:=vB.os;simp[ajZ];refine lq Y0 _ md cZ pid aQ rts' cW z 37 th hfo _ ?_;rw[awY,aw0];simp[ajY];refine lq Y0 _ md cZ pid aQ rts' cW z 38 th hfo _ ?_;rw[as4,as5];simp[ajX];refine Qde Y0 _ md cZ pid aQ rts' cW z 0 0 32 th vB oO (by omega) _ fun xu lx4 ms4 mn4=>?_;have KF:=th.ext xu;simp only at KF |-
 generalize B2++xu=B3 at*
 rw[as6];simp[ajW];refine Qde Y0 _ md cZ pid aQ rts' cW z 0 0 38 KF vB oO (by omega) _ fun ex5 lx5 ms5 mn5=>?_;have Y1:=KF.ext ex5;simp only at Y1 |-
 generalize B3++ex5=B4 at*
 rw[aav];simp[ajV,Xg];refine Qde Y0 _ md cZ pid aQ rts' cW z 0 1 32 Y1 vB oO (by omega) _ fun ex6 lx6 ms6 mn6=>?_;have hB5:=Y1.ext ex6;simp only at hB5 |-
 generalize B4++ex6=B5 at*
 rw[aw2];simp[ajU];refine aaH Y0 _ md cZ pid aQ rts' cW z 0 1 hB5 oO hpg (fun l hl=>by have:=hV1.n l hl;simp[cZ]at this |-;omega) _ fun ex7=>?_;have hB6:=hB5.ext ex7;simp only at hB6 |-
 generalize B5++ex7=B6 at*
 rw[agk];simp[yo,Qo,Qc,Hy,yl,iC];refine Dt Y0 _ md cZ pid aQ rts' cW z 0 0 38 (0,0,5) (hB6.ext _) vB oO (by omega) _ fun ex8 lx8 ms8 mn8=>?_;rw[ato];simp;refine Dt Y0 _ md cZ pid aQ rts' cW z 0 0 38 (3,12,0) (by simpa using hB6.ext _) vB oO (by omega) _ fun ex9 lx9 ms9 mn9=>?_;rw[atp];simp[aok]
open Go Go.Abs
def anm(ps:List Pl):Prop:=∀p∈ps,(∀e∈p.ens,e.al.length<=8796093022208)/\∀e∈p.ens,e.ea<=9223372036854775807
def HE(ps:List Pl):List Pl:=(ps.take 3).map IA
def OW{ps:List Pl}(h:anm ps):Sm (HE ps):=by
 have key:∀p∈HE ps,∃q∈ps,p=IA q:=fun p hp=>by
  obtain⟨q,hq,rfl⟩:=zzay.1 hp;exact⟨q,zzbx hq,rfl⟩
 refine⟨by simp[HE];omega,fun p hp=>?_,fun p hp e he=>?_,fun p hp e he=>?_⟩
 ·obtain⟨q,hq,rfl⟩:=key p hp;exact anb q
 ·obtain⟨q,hq,rfl⟩:=key p hp;exact(h q hq).1 e (zzbx he)
 obtain⟨q,hq,rfl⟩:=key p hp;exact(h q hq).2 e (zzbx he)
def agm(ps:List Pl):(ps.take 3).map yQ=(HE ps).map Qc:=by unfold HE;rw[zzcs];rfl
def Dx:∀(l out:List Od)(last:Int),(∀o∈out,zA o)->out.length<=7->(∀o∈Dw l out last,zA o)/\(Dw l out last).length<=7
 |[],out,_,h,h7=>⟨h,h7⟩
 |o::r,out,last,h,h7=>by
  rw[Dw];split
  ·exact⟨h,h7⟩
  split
  ·refine Dx r _ _ (fun x hx=>?_) (by simp;omega);rcases zzal.1 hx with hx|hx
   ·exact h x hx
   rw[zzbk]at hx;subst hx;unfold zA Dv;simp;omega
  exact Dx r _ _ h h7
def OX(l:List Od):(∀o∈zH l,zA o)/\(zH l).length<=7:=Dx l [] 0 (fun o h=>by cases h) (by simp)
def agn{M:Md}{c r f:Int}{a:Sh}(h:a∈Xv M c r f):zC M c r f a=true:=by
 unfold zC;split
 ·simp only[decide_eq_true_eq];intro e;rw[e]at h;cases h
 simpa using h
def inS(al:List Sh)(s:Sh)(i:Nat):Bool:=decide (al≠[]/\s.1=0/\s.2.1=0)||decide (s∈al.take i)
def aaM{al:List Sh}{s a:Sh}{i:Nat}(h:al[i]?=some a):inS al s (i+1)=(inS al s i||decide (a=s)):=by
 unfold inS;rw[zzar,h];simp only[zzfe,zzal,zzbk,Bool.or_assoc];congr 1;rw[zzbl];simp only[decide_eq_true_eq,zzfp];constructor
 ·rintro(h|h)
  ·exact .inl h
  exact .inr h.symm
 rintro(h|h)
 ·exact .inl h
 exact .inr h.symm
def ann(M:Md)(c r f:Int)(s:Sh):zC M c r f s=inS (Xv M c r f) s (Xv M c r f).length:=by
 unfold zC inS;rw[zzbm];generalize Xv M c r f=al;by_cases h:s.1=0/\s.2.1=0
 ·rw[if_pos h];cases al with
  |nil=>simp
  |cons a t=>simp[h.1,h.2]
 rw[if_neg h];have:decide (al≠[]/\s.1=0/\s.2.1=0)=false:=by simp only[decide_eq_false_iff_not];exact fun hh=>h hh.2
 rw[this,zzhj]
def atr(M:Md)(md pid aQ:Nat)(bn:List Rt)(bO:Rt)(z:List AV)(al:List Sh)(s:Sh)(f:Nat->AV)(m:AM):Prop:=
 ∃(i:Nat)(ex:List (List AV))(ls:List Nat)(ms:Nat->LS)(mn:Nat),f 17=I i/\i<=al.length/\f 16=.bool (inS al s i)/\iy (Xg s::ex) md M pid aQ bn bO z/\m=⟨Xg s::ex,ls,ms,mn⟩
def law4(ps:List Pl)(l:List Od)(c r f:Int)(s:Sh)(hp:anm ps)(hl:l.length<=1000000000000)(hf:f<=9223372036854775807):
  Pure Tryz.prog az 4 [.sl .ro (ps.map Qc),.sl .ro (l.map Qq),I c,I r,I f,.agg (Xg s)] (.bool true):=by
 have k11:=aaL;have k12:=GR ps;rw[agm]at k12;obtain⟨ano,k15⟩:=mH l hl;obtain⟨ho,Fv⟩:=OX l;have hps:=OW hp;obtain⟨s1,s2,s3⟩:=s;refine Qn aoi (fun _ fn _=>if fn=11 then .bool true else if fn=12 then .sl (if ps=[]then .nil else .ro) ((HE ps).map Qc)else if fn=15 then .sl ano ((zH l).map Qq)else .gd false .junk) (by simp) ?_;simp[sc4,Xg];refine⟨k11,k12,k15,an.wka (xs':=[.sl .ro ((HE ps).map Qc),.sl .ro ((zH l).map Qq)]) ⟨Wk.sl _ _,Wk.sl _ _,trivial⟩ ?_⟩;refine Bj Y0 _ (HE ps) (zH l) hps ho (by omega) _ (fun hn ex ls=>?_) (fun M hM ex ls md pid aQ bn bO z EC hV aH hB aT dG=>?_)
 ·simp[rs4]
 have vB:=hV.mok;have oO:=aT.own hB.hrts;simp only at hB |-
 simp;refine Qde Y0 _ md M pid aQ bn bO z c r f (by simpa using hB) vB oO hf _ fun dL lx2 ms2 mn2=>?_;have hB:=hB.ext dL;have bI:=ann M c r f (s1,s2,s3);have hme:=fun a=>agn (M:=M) (c:=c) (r:=r) (f:=f) (a:=a);have ey:=Qdx M vB c r f;simp only at hB |-
 generalize hA:Xv M c r f=al at bI hme ey |-
 have h0:(decide (0<al.length)&&s1==0&&s2==0)=inS al (s1,s2,s3) 0:=by
  unfold inS;rw[zzbl];cases al<;>simp
 simp;refine Qj abo (atr M md pid aQ bn bO z al (s1,s2,s3)) (fun g _=>al.length-(numOf (g 17)).toNat) ?_ ?_
 ·exact⟨0,ex++dL,_,_,_,by simp,by omega,by simp[h0],by simpa[Xg]using hB,by simp[Xg];exact⟨rfl,rfl,rfl⟩⟩
 rintro g m ⟨i,sC,ls3,ms3,mn3,h17,hi,CB,KF,rfl⟩;have kal:=fun a K hK=>Dt Y0 ⟨Xg (s1,s2,s3)::sC,ls3,ms3,mn3⟩ md M pid aQ bn bO z c r f a KF vB oO hf K hK;simp only[Xg]at kal;rcases zzaa i al.length with ai|bB
 ·obtain⟨a,ha⟩:=aR ai;have bU:=aaM (s:=(s1,s2,s3)) ha;have hma:=hme a (zzac ha);have kal:=kal a;obtain⟨a1,a2,a3⟩:=a;have aa:Qh (al.map Xg) i=[I a1,I a2,I a3]:=Qs (by simp[ha,Xg]);have ah:(i:Int)<(al.length:Int):=by omega
  have hw:=bJ i (by omega);rw[hma]at kal;cases hq:inS al (s1,s2,s3) i with
  |true=>
   rw[hq,zzhp]at bU;simp[h17,CB,hq,abo,ah,aa,Xg];refine kal _ fun xu lx4 ms4 mn4=>?_;simp[hw];refine⟨aN,⟨i+1,sC++xu,_,_,_,by simp,by omega,by simp[bU],by simpa[Xg]using KF.ext xu,by simp[Xg];exact⟨rfl,rfl,rfl⟩⟩,by omega⟩
  |false=>
   rw[hq,zzhj]at bU
   have aw8:inS al (s1,s2,s3) (i+1)=(a1==s1&&(a2==s2&&a3==s3)):=by
    rw[bU,zzbl];simp
   simp[h17,CB,hq,abo,ah,aa,Xg];refine kal _ fun xu lx4 ms4 mn4=>?_;simp[hw];refine⟨aN,⟨i+1,sC++xu,_,_,_,by simp,by omega,by simp[aw8],by simpa[Xg]using KF.ext xu,by simp[Xg];exact⟨rfl,rfl,rfl⟩⟩,by omega⟩
 obtain rfl:i=al.length:=by omega
 simp[h17,CB,abo,Xg];refine kal (s1,s2,s3) _ fun xu lx4 ms4 mn4=>?_;rw[bI];simp[rs4]
open Go Go.Abs
def HF:∀{l:List Od}{M M':Md},jY M l=some M'->M'.os=M.os++l.map (fun o=>(o.sq,o.fr))/\M'.pl=M.pl
 |[],M,M',h=>by cases h;simp
 |o::r,M,M',h=>by
  rw[jY]at h;cases ho:lR M o with
  |none=>rw[ho]at h;cases h
  |some M2=>
   rw[ho]at h;obtain⟨h1,h2⟩:=HF h;unfold lR at ho;split at ho
   ·cases ho
   cases ho;exact⟨by rw[h1];simp,h2⟩
def OY:∀{l:List Od}{M M':Md},jY M l=some M'->M'.ps.length=M.ps.length/\∀(i:Nat)(x:List Pg)(g:Pg),M.ps[i]?=some x->x[0]?=some g->∃y:List Pg,M'.ps[i]?=some y/\y[0]?=some g
 |[],M,M',h=>by cases h;exact⟨rfl,fun i x g h1 h2=>⟨x,h1,h2⟩⟩
 |o::r,M,M',h=>by
  rw[jY]at h;cases ho:lR M o with
  |none=>rw[ho]at h;cases h
  |some M2=>
   rw[ho]at h;obtain⟨h1,h2⟩:=OY h;unfold lR at ho;split at ho
   ·cases ho
   cases ho;refine⟨by rw[h1];simp,fun i x g hx hg=>?_⟩;refine h2 i (Yo o M.os.length x) g (by simp[hx]) ?_;unfold Yo;rw[zzah (zza.1 hg).1];exact hg
def Sq{p:Pl}{l:List Od}{M:Md}(h:HD [p] l=some M):Be p=0/\M.os=l.map (fun o=>(o.sq,o.fr))/\∃x,gW M p.ch=some x/\x[0]?=some (yf p):=by
 unfold HD pS at h;rw[if_neg (by simp),pR]at h;by_cases hb:Be p=0
 ·rw[if_neg (by simp[md0,af,hb]),pR]at h;simp only at h;obtain⟨h1,h2⟩:=HF h;obtain⟨h3,h4⟩:=OY h;obtain⟨y,y1,y2⟩:=h4 0 [yf p] (yf p) (by simp[md0]) rfl;refine⟨hb,by rw[h1];simp[md0],y,?_,y2⟩;unfold gW;rw[h2];simp[md0,Zx,af];exact y1
 rw[if_pos (.inr hb)]at h;cases h
def anp{p:Pl}(h:Be p=0):(yf p).p=p:=by
 obtain⟨_,l,hl⟩:=Hv h;unfold yf;rw[hl]
def Ke(f:Int)(l:List Od):Int:=((l.filter fun o=>decide (o.fr<=f/\f<o.fr+8)).length:Nat)
def rB{α:Type}(P:α->Prop)[DecidablePred P](a:α)(r:List α):(((a::r).filter fun o=>decide (P o)).length:Int)=(if P a then 1 else 0)+((r.filter fun o=>decide (P o)).length:Int):=by
 rw[zzer];by_cases h:P a
 ·rw[if_pos h,if_pos (by simpa using h),zzba];omega
 rw[if_neg h,if_neg (by simpa using h)];omega
def OZ(f:Int):∀l:List Od,Jb f (l.map fun o=>(o.sq,o.fr))-nU f (l.map fun o=>(o.sq,o.fr))=Ke f l
 |[]=>by simp[Jb,nU,Ke]
 |o::r=>by
  have ih:=OZ f r;have e1:=rB (fun x:Int×Int=>x.2<=f) (o.sq,o.fr) (r.map fun o=>(o.sq,o.fr));have e2:=rB (fun x:Int×Int=>x.2+8<=f) (o.sq,o.fr) (r.map fun o=>(o.sq,o.fr));have e3:=rB (fun x:Od=>x.fr<=f/\f<x.fr+8) o r;unfold Jb nU Ke at*
  simp only[zzaw];rw[e1,e2,e3];by_cases h1:o.fr<=f
  ·by_cases h2:o.fr+8<=f
   ·rw[if_pos h1,if_pos h2,if_neg (by omega)];omega
   rw[if_pos h1,if_neg h2,if_pos (by omega)];omega
  rw[if_neg h1,if_neg (by simp only;omega),if_neg (by omega)];omega
def Sr(f:Int)(l:List Od)(o:Od):Ke f (l++[o])=Ke f l+if o.fr<=f/\f<o.fr+8 then 1 else 0:=by
 unfold Ke;rw[zzcp,zzag];by_cases h:o.fr<=f/\f<o.fr+8<;>simp[h]
def Dy(f:Int)(l:List Od):0<=Ke f l/\Ke f l<=l.length:=by
 unfold Ke;have:=zzbn (fun o:Od=>decide (o.fr<=f/\f<o.fr+8)) l;omega
def O1{r:Int}:∀{l:List Sp},l.Pairwise (fun a b=>a.1<b.1)->(l.filter fun a=>decide (a.1=r)).length<=1
 |[],_=>by simp
 |a::t,h=>by
  obtain⟨h1,h2⟩:=zzbw.1 h;have ih:=O1 (r:=r) h2;rw[zzer];split
  ·rename_i hc
   have:t.filter (fun a=>decide (a.1=r))=[]:=by
    rw[zzeh];intro x hx;have:=h1 x hx;simp only[decide_eq_true_eq]at hc |-
    omega
   rw[this];simp
  exact ih
def aaN{al:List Sp}(h:DU al)(r f v:Int)(e:bE):(uw r f v e al).length<=1/\(r=0->(uw r f v e al).length=0):=by
 unfold uw;rw[zzbe];refine⟨O1 h.2.1,fun hr=>?_⟩
 have:al.filter (fun a=>decide (a.1=r))=[]:=by
  rw[zzeh];intro x hx;have:=h.2.2 x hx;simp only[decide_eq_true_eq];omega
 rw[this];rfl
def HG{l:List Pg}(h:∀g∈l,∀e∈g.ev,DU e.al)(r f v:Int):(tL r f l v).length<=2/\(r=0->(tL r f l v).length<=1):=by
 unfold tL;cases hg:l[v.toNat]? with
 |none=>simp
 |some g=>
  cases he:xw f g.ev with
  |none=>simp[he]
  |some e=>
   obtain⟨h1,h2⟩:=aaN (h g (zzac hg) e (ux he).1) r f v e;simp only[he,Dn,zzag];split<;>simp<;>omega
def jZ(l:List Pg)(r f v:Int):∀s∈tL r f l v,s.2.2=v:=by
 intro s hs;unfold tL at hs;cases hg:l[v.toNat]? with
 |none=>rw[hg]at hs;cases hs
 |some g=>
  rw[hg]at hs;simp only at hs;cases he:xw f g.ev with
  |none=>rw[he]at hs;cases hs
  |some e=>
   rw[he]at hs;simp only[Dn,uw,zzal,zzay]at hs;obtain hs|⟨a,_,rfl⟩:=hs
   ·split at hs
    ·rw[zzbk]at hs;rw[hs]
    cases hs
   rfl
def HH:∀(n:Nat)(lo hi:Int),(hi+1-lo).toNat<=n->(Vj lo hi).Pairwise (·<·)/\(∀v∈Vj lo hi,lo<=v/\v<=hi)/\((Vj lo hi).length:Int)=max 0 (hi+1-lo)
 |0,lo,hi,h=>by rw[Vj,if_neg (by omega)];exact⟨List.Pairwise.nil,(fun v hv=>by cases hv),by simp;omega⟩
 |n+1,lo,hi,h=>by
  rw[Vj];split
  ·obtain⟨h1,h2,h3⟩:=HH n (lo+1) hi (by omega);refine⟨zzbw.2 ⟨fun v hv=>by have:=h2 v hv;omega,h1⟩,fun v hv=>?_,by simp only[zzba];omega⟩;rcases zzau.1 hv with rfl|hv
   ·omega
   have:=h2 v hv;omega
  exact⟨List.Pairwise.nil,(fun v hv=>by cases hv),by simp;omega⟩
def Dz{α β:Type}{f:α->List β}{k:Nat}(h:∀a,(f a).length<=k):∀l:List α,(l.flatMap f).length<=l.length*k
 |[]=>by simp
 |a::t=>by
  have:=Dz h t;have:=h a;rw[zzda,zzag,zzba,zzbo];omega
def sN(r f lo hi:Int)(l:List Pg):List Sh:=(Vj lo hi).flatMap (tL r f l)
def ago{l:List Pg}(h:∀g∈l,∀e∈g.ev,DU e.al)(r f lo hi:Int):
  ((sN r f lo hi l).length:Int)<=2*max 0 (hi+1-lo)/\(r=0->((sN r f lo hi l).length:Int)<=max 0 (hi+1-lo))/\(∀s∈sN r f lo hi l,lo<=s.2.2/\s.2.2<=hi)/\(sN r f lo hi l).Pairwise (fun a b=>a.2.2<=b.2.2):=by
 obtain⟨h1,h2,h3⟩:=HH _ lo hi (zzab _);refine⟨?_,fun hr=>?_,fun s hs=>?_,?_⟩
 ·have:=Dz (f:=tL r f l) (fun v=>(HG h r f v).1) (Vj lo hi);unfold sN;omega
 ·have:=Dz (f:=tL r f l) (fun v=>(HG h r f v).2 hr) (Vj lo hi);unfold sN;omega
 ·obtain⟨v,hv,hs⟩:=zzgq.1 hs;rw[jZ l r f v s hs];exact h2 v hv
 unfold sN;rw[List.pairwise_flatMap];refine⟨fun v hv=>?_,h1.imp fun{a b}WC x hx y hy=>?_⟩
 ·rw[zzd];intro i j hi hj eM;rw[jZ l r f v _ (zzdc hi),jZ l r f v _ (zzdc hj)];exact zzbv _
 rw[jZ l r f a x hx,jZ l r f b y hy];omega
open Go Go.Abs
def agp{q:Pl}{l:List Od}{M:Md}(h:HD [q] l=some M)(hM:Ta M)(r f:Int):
  Jb f M.os-nU f M.os=Ke f l/\(∀o∈l,0<=o.fr/\o.fr<=100000000)/\
  ((¬(0<=r/\r<q.rg)/\Xv M q.ch r f=[])\/((0<=r/\r<q.rg)/\∃t:List Sh,Xv M q.ch r f=sh0::t/\(t.length:Int)<=2*(1+Ke f l)/\(r=0->(t.length:Int)<=1+Ke f l)/\(∀s∈t,nU f M.os<=s.2.2/\s.2.2<=Jb f M.os)/\t.Pairwise (fun a b=>a.2.2<=b.2.2))):=by
 obtain⟨hb,R7,x,hx,hx0⟩:=Sq h;have hn:=OZ f l;rw[<- R7]at hn;have hnr:=Dy f l;refine⟨hn,fun o ho=>?_,?_⟩
 ·exact hM.fr (o.sq,o.fr) (by rw[R7];exact zzay.2 ⟨o,ho,rfl⟩)
 have cr:∀g∈x,∀e∈g.ev,DU e.al:=fun g hg e he=>by
  obtain⟨i,hi⟩:=zzby.1 hg;exact((hM.pr x (lu hx) i g hi).ep e he).2.2
 obtain⟨t1,t2,t3,t4⟩:=ago cr r f (nU f M.os) (Jb f M.os);unfold Xv;rw[hx];cases x with
 |nil=>cases hx0
 |cons g t=>
  simp only[zzfh,Option.some.injEq]at hx0;have K0:g.p.rg=q.rg:=by rw[hx0,anp hb]
  simp only;by_cases hr:0<=r/\r<q.rg
  ·refine .inr ⟨hr,sN r f (nU f M.os) (Jb f M.os) (g::t),by rw[if_neg (by omega)];rfl,by omega,fun h=>by have:=t2 h;omega,t3,t4⟩
  exact .inl ⟨hr,by rw[if_pos (by omega)]⟩
def att(l:List Od)(f:Int)(m0:AM)(g:Nat->AV)(m:AM):Prop:=∃i:Nat,g 14=I i/\i<=l.length/\g 13=I (Ke f (l.take i))/\m=m0
def aaO(t:List Sh)(m0:AM)(g:Nat->AV)(m:AM):Prop:=∃i:Nat,g 17=I (i+1:Nat)/\i<=t.length/\m=m0
def Ss{f:Int}{l:List Od}{o:Od}{i:Nat}(h:l[i]?=some o):Ke f (l.take (i+1))=Ke f (l.take i)+if o.fr<=f/\f<o.fr+8 then 1 else 0:=by
 rw[zzar,h];exact Sr f _ o
def law6(p:Pl)(l:List Od)(r f:Int)(hp:anm [p])(hl:l.length<=1000000000000)(hf:f<=9223372036854775807):
  Pure Tryz.prog az 6 [.agg (Qc p),.sl .ro (l.map Qq),I r,I f] (.bool true):=by
 have k11:=aaL;have k28:=xQ p;obtain⟨ano,k15⟩:=mH l hl;obtain⟨ho,Fv⟩:=OX l;have hps:Sm [IA p]:=OW hp;generalize hq:IA p=q at k28 hps;generalize hk:zH l=k at k15 ho Fv;refine Qn aoj (fun _ fn _=>if fn=11 then .bool true else if fn=28 then .agg (Qc q)else if fn=15 then .sl ano (k.map Qq)else .gd false .junk) (by simp) ?_;simp[sc6,Qc];simp only[Qc]at k28;refine⟨k11,k28,k15,an.wka (xs':=[.sl .ro ([q].map Qc),.sl .ro (k.map Qq)]) ⟨Wk.sl _ _,Wk.sl _ _,trivial⟩ ?_⟩;refine Bj Y0 _ [q] k hps ho (by omega) _ (fun hn ex ls=>?_) (fun M hM ex ls md pid aQ bn bO z EC hV aH hB aT dG=>?_)
 ·simp[rs6]
 have vB:=hV.mok;have oO:=aT.own hB.hrts;obtain⟨w1,w2,w3⟩:=agp hM hV r f;have R7:=vB.os;simp only at hB |-
 simp;refine lq Y0 _ md M pid aQ bn bO z f (by simpa[Qc]using hB) R7 _ ?_;simp;refine Qj DW (att k f ⟨Qc q::ex,ls,fun _=>.gone,0⟩) (fun g _=>k.length-(numOf (g 14)).toNat) ?_ ?_
 ·exact⟨0,by simp,by omega,by simp[Ke],by simp[Qc]⟩
 rintro g m ⟨i,nC,hi,jk,rfl⟩;rcases zzaa i k.length with ai|bB
 ·obtain⟨o,Ih⟩:=aR ai;have hnt:=Ss (f:=f) Ih;have wD:=w2 o (zzac Ih);have hnl:=Dy f (k.take i);have aa:Qh (k.map Qq) i=Qq o:=Qs (by simp[Ih]);have ah:(i:Int)<(k.length:Int):=by omega
  have hw:=bJ i (by omega);have hw8:IntKind.i64.wrap (o.fr+8)=o.fr+8:=by rw[Qi]<;>omega
  have KG:IntKind.i64.wrap (Ke f (k.take i)+1)=Ke f (k.take i)+1:=by
   have:(k.take i).length<=i:=by simp;omega
   rw[Qi]<;>omega
  by_cases c1:o.fr<=f
  ·by_cases c2:f<o.fr+8
   ·rw[if_pos ⟨c1,c2⟩]at hnt;simp[nC,jk,DW,ai,ah,aa,Qq,Qd,Qg,Qk,Qc,c1,c2,hw8,hw,KG];refine⟨aN,⟨i+1,by simp,by omega,by simp[hnt],by simp[Qc]⟩,by omega⟩
   rw[if_neg (fun h=>c2 h.2),zzgt]at hnt;simp[nC,jk,DW,ai,ah,aa,Qq,Qd,Qg,Qk,Qc,c1,c2,hw8,hw,KG];refine⟨aN,⟨i+1,by simp,by omega,by simp[hnt,jk],by simp[Qc]⟩,by omega⟩
  rw[if_neg (fun h=>c1 h.1),zzgt]at hnt;simp[nC,jk,DW,ai,ah,aa,Qq,Qd,Qg,Qk,Qc,c1,hw8,hw,KG];refine⟨aN,⟨i+1,by simp,by omega,by simp[hnt,jk],by simp[Qc]⟩,by omega⟩
 obtain rfl:i=k.length:=by omega
 rw[zzbm]at jk;have hnl:=Dy f k;have axP:=Qdx M vB q.ch r f;simp[nC,jk,DW,Qc];refine Qde Y0 _ md M pid aQ bn bO z q.ch r f (by simpa[Qc]using hB) vB oO hf _ fun dL lx2 ms2 mn2=>?_;generalize Ke f k=n at*
 generalize nU f M.os=lo at*
 generalize Jb f M.os=hv at*
 have hwd:IntKind.i64.wrap (hv-lo)=n:=by rw[Qi]<;>omega
 have ee:IntKind.i64.wrap (2+n)=2+n:=by rw[Qi]<;>omega
 have eU:IntKind.i64.wrap (1+n)=1+n:=by rw[Qi]<;>omega
 have CI:IntKind.i64.wrap (2*(1+n))=2*(1+n):=by rw[Qi]<;>omega
 have hw4:IntKind.i64.wrap (1+2*(1+n))=1+2*(1+n):=by rw[Qi]<;>omega
 obtain⟨hr,hA⟩|⟨⟨r0,r1⟩,t,hA,t1,t2,t3,t4⟩:=w3
 ·rw[hA];by_cases r0:0<=r
  ·have r1:¬r<q.rg:=by omega
   simp[jk,nC,DW,r0,r1,hwd,eU,ee,CI,hw4];refine⟨fun _=>.inr (by omega),?_⟩;rw[if_neg (by omega)];refine Qj DX (aaO [] ⟨Qc q::(ex++dL),ls++lx2,ms2,mn2⟩) (fun _ _=>0) ?_ ?_
   ·exact⟨0,by simp,by simp,by simp[Qc]⟩
   rintro g2 m ⟨i2,h17,hi2,rfl⟩;obtain rfl:i2=0:=by simpa using hi2
   simp[h17,DX,rs6]
  simp[jk,nC,DW,r0,hwd,eU,ee,CI,hw4];refine⟨fun _=>.inr (by omega),?_⟩;rw[if_neg (by omega)];refine Qj DX (aaO [] ⟨Qc q::(ex++dL),ls++lx2,ms2,mn2⟩) (fun _ _=>0) ?_ ?_
  ·exact⟨0,by simp,by simp,by simp[Qc]⟩
  rintro g2 m ⟨i2,h17,hi2,rfl⟩;obtain rfl:i2=0:=by simpa using hi2
  simp[h17,DX,rs6]
 rw[hA];have r2:¬r<0:=by omega
 simp[jk,nC,DW,r0,r1,hwd,eU,ee,CI,hw4,sh0,Xg];have e1:r=0->(t.length:Int)+1<=2+n:=fun h=>by have:=t2 h;omega
 refine⟨fun hh=>(Classical.em (r=0)).elim (fun h=>.inr (hh h)) .inl,?_⟩;rw[if_neg (by rintro(⟨h,h'⟩|h);have:=e1 h;omega;omega)];refine Qj DX (aaO t ⟨Qc q::(ex++dL),ls++lx2,ms2,mn2⟩) (fun g _=>t.length+1-(numOf (g 17)).toNat) ?_ ?_
 ·exact⟨0,by simp,by simp,by simp[Qc]⟩
 rintro g2 m ⟨i2,h17,hi2,rfl⟩;rcases zzaa i2 t.length with ai|bB
 ·obtain⟨s,hs⟩:=aR ai;have fR:((i2:Int)+1:Int)<(t.length:Int)+1:=by omega
  have hw5:IntKind.i64.wrap ((i2:Int)+1+1)=((i2+1+1:Nat):Int):=by rw[Qi]<;>omega
  obtain⟨b1,b2⟩:=t3 s (zzac hs);have aa:Qh ([I 0,I 0,I 0]::t.map Xg) (i2+1)=Xg s:=Qs (by simp[hs]);have jb:¬s.2.2<lo:=by omega
  have lK:¬hv<s.2.2:=by omega
  cases i2 with
  |zero=>
   have ht0:0<t.length:=ai;simp only[zzfh,Xg]at aa;have ht1:(1:Int)<(t.length:Int)+1:=by omega
   have hww:IntKind.i64.wrap 2=2:=by rw[Qi]<;>omega
   simp[h17,DX,aa,jb,lK,hww,ht0,ht1];refine⟨aN,⟨1,by simp,by omega,by simp[Qc]⟩,by omega⟩
  |succ j=>
   obtain⟨u,hu⟩:∃u,t[j]?=some u:=⟨_,zzad (by omega)⟩;have FA:Qh ([I 0,I 0,I 0]::t.map Xg) (j+1)=Xg u:=Qs (by simp[hu])
   have hus:¬s.2.2<u.2.2:=by
    have:=(zzd.1 t4) j (j+1) (by omega) ai (by omega);rw[(zza.1 hu).2,(zza.1 hs).2]at this;omega
   have hj:(1:Int)<(j:Int)+1+1:=by omega
   have tE:IntKind.i64.wrap ((j:Int)+1)=(j:Int)+1:=by rw[Qi]<;>omega
   have NG:(j:Int)+1<(t.length:Int)+1:=by omega
   have e2:((j:Int)+1+1).toNat=j+1+1:=by omega
   have e3:((j:Int)+1).toNat=j+1:=by omega
   have hlk:(j:Int)+1<(t.length:Int):=by omega
   have g1:(0:Int)<=(j:Int)+1+1:=by omega
   have g2:(0:Int)<=(j:Int)+1:=by omega
   have hw6:IntKind.i64.wrap ((j:Int)+1+1+1)=((j+1+1+1:Nat):Int):=by rw[Qi]<;>omega
   simp only[Xg]at aa FA;simp[h17,DX,e2,e3,hlk,g1,g2,hw6,aa,FA,jb,lK,ai,fR,hj,tE,hus,NG];refine⟨aN,⟨j+1+1,by simp,by omega,by simp[Qc]⟩,by omega⟩
 obtain rfl:i2=t.length:=by omega
 simp[h17,DX,rs6]
end
end Go.Proofs.YtnopaopphmjnmaaGreatDoor
