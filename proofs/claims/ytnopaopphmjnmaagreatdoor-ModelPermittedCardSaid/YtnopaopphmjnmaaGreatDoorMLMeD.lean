import Derived.Test.YtnopaopphmjnmaaGreatDoorMLMcW
set_option linter.all false
set_option maxRecDepth 100000
set_option maxHeartbeats 64000000
namespace Go.Proofs.YtnopaopphmjnmaaGreatDoor
noncomputable section
open Go Go.Abs
def ij(M:Md)(c v:Int):Option Pg:=(Ka M c).bind fun l=>if v<0 then none else l[v.toNat]?
def ko:Option Pg->AV
 |none=>.aW [.agg iE,.bool false]
 |some g=>.aW [.agg (Qo g),.bool true]
def HQ(Y:YT)(m:AM)(md:Nat)(M:Md)(pid aQ:Nat)(bh:List Rt)(bO:Rt)(z:List AV)(c v:Int)(h:gm m.boxes md M pid aQ bh bO z)(aR:∀rt∈bh,rt=.full\/∃k,rt=.own k 18)
  (hg:∀l∈M.ps,∀g∈l,PgC g)(hl:∀l∈M.ps,l.length<=1000000)(K:AV->AM->Prop)
  (hK:∀ex,K (ko (ij M c v)) ⟨m.boxes++ex,m.lens,m.st,m.ln⟩):
  an Tryz.prog az Y 20 [.ptr md 0,I c,I v] m K:=by
 obtain⟨mb,ml,ms,mn⟩:=m;have hB:∀ex,gm (mb++ex) md M pid aQ bh bO z:=fun ex=>h.ext ex;have kc:=fun ex K h0 h1=>Ht Y ⟨mb++ex,ml,ms,mn⟩ md M pid aQ bh bO z c (hB ex) K h0 h1;refine Xe akG (fun _ _ l=>match l with|[.agg cs]=>.agg cs|_=>.gd false .junk) (by simp) ?_;simp[aoN];refine kc _ _ (fun hn=>?_) (fun l lN rt anv=>?_)
 ·have hp:ij M c v=none:=by unfold ij;rw[hn];rfl
  rw[hp]at hK;by_cases hv:v<0
  ·simp[hv,Pz];simpa[ko,iE]using hK _
  have Cy:0<=v:=by omega
  simp[hv,Cy,Pz];simpa[ko,iE]using hK _
 have dH:=lJ lN;have wI:=hl l dH;have hp:ij M c v=if v<0 then none else l[v.toNat]?:=by unfold ij;rw[lN];rfl
 rw[hp]at hK
 have fH:∃ce,s5 rt ce:=by
  rcases aR rt anv with rfl|⟨k,rfl⟩
  ·exact⟨_,fun m d x=>rfl⟩
  exact⟨_,s5.own _ _⟩
 obtain⟨ce,hce⟩:=fH;by_cases hv:v<0
 ·rw[if_pos hv]at hK;simp[hv,Pz];simpa[ko,iE]using hK _
 rw[if_neg hv]at hK;obtain⟨n,rfl⟩:=zzhc (show 0<=v by omega);rw[zzgq]at hK;by_cases ai:n<l.length
 ·obtain⟨g,hgg⟩:=aS ai;rw[hgg]at hK;have ah:Qh (l.map Qo) n=Qo g:=Qs (by simp[hgg]);have cK:(n:Int)<(l.length:Int):=by omega
  have CA:¬(l.length:Int)<=(n:Int):=by omega
  have k44:=SH g (hg l dH g (zzad hgg));simp only[Qo,Qb,zzae,zzai]at ah k44;simp[hv,cK,CA,ah,Pz];refine⟨k44,?_⟩;simpa[ko,Qo,Qb]using hK _
 have hn:l[n]?=none:=zzay (by omega);rw[hn]at hK;have CA:(l.length:Int)<=(n:Int):=by omega
 have ck:l.length<=n:=by omega
 simp[hv,CA,Pz];simpa[ko,iE]using hK _
open Go Go.Abs
def SM:Md->List Od->Option Md
 |M,[]=>some M
 |M,o::r=>match DP M o with
  |none=>none
  |some M'=>SM M' r
def yM(ps:List Pl)(os:List Od):Option Md:=match mg ps with
 |none=>none
 |some M=>SM M os
structure SN (ps:List Pl):Prop where
 len:ps.length<=1000000
 sh:∀p∈ps,SD p
 al:∀p∈ps,∀e∈p.ens,e.al.length<=8796093022208
 ea:∀p∈ps,∀e∈p.ens,e.ea<=9223372036854775807
def SN.be{ps:List Pl}(h:SN ps):∀p∈ps,agk p:=fun p hp=>ato (h.sh p hp) (h.al p hp) (h.ea p hp)
def Pc(ls:List Nat)(ps:List (List Pg)):ef ls (Hu ps.length) ps:=
 ⟨fun i rt l h _=>.inl ((List.mem_replicate.1 (zzad h)).2),fun i j k h _=>by
  have:=(List.mem_replicate.1 (zzad h)).2;cases this⟩
def bn.pref{S:Nat->Prop}{mb X B':List (List AV)}(h:bn S (mb++X) B')(hS:∀j,S j->mb.length<=j):∃ex,B'=mb++ex:=by
 refine⟨B'.drop mb.length,?_⟩;apply zzcm;intro j;have hl:=h.1;simp only[zzah]at hl;rcases zzaa j mb.length with hj|hj
 ·rw[zzag hj];have:=h.2 j (by simp;omega) (fun hs=>by have:=hS j hs;omega);rw[Uc (by omega),this,Uc hj,Ql hj]
 rw[zzal hj,zzbk];congr 1;omega
def ef.own{ls:List Nat}{bh:List Rt}{ps:List (List Pg)}(h:ef ls bh ps)(hl:bh.length=ps.length):∀rt∈bh,rt=.full\/∃k,rt=.own k 18:=fun rt aR=>by
 obtain⟨i,hi⟩:=zzby.1 aR;have ai:=(zza.1 hi).1;rcases h.1 i rt _ hi (zzac (by omega))with e|⟨k,e,_⟩
 ·exact .inl e
 exact .inr ⟨k,e⟩
def atX(mb:List (List AV))(ms:Nat->LS)(mn:Nat)(os:List Od)(M:Md)(md pid aQ:Nat)(z:List AV)(f:Nat->AV)(m:AM):Prop:=
 ∃(i:Nat)(M':Md)(ex:List (List AV))(ls:List Nat)(bh:List Rt)(bO:Rt),f 7=I i/\i<=os.length/\SM M' (os.drop i)=SM M os/\SF M'/\M'.os.length=i/\gm (mb++ex) md M' pid aQ bh bO z/\ef ls bh M'.ps/\eL ls bh bO M'.os.length/\m=⟨mb++ex,ls,ms,mn⟩
def SP(Y:YT)(m:AM)(ps:List Pl)(os:List Od)(hp:SN ps)(ho:∀o∈os,zX o)(Oc:os.length<=100)(K:AV->AM->Prop)
  (h0:yM ps os=none->∀ex ls,K (.nilv true) ⟨m.boxes++ex,ls,m.st,m.ln⟩)
  (h1:∀M,yM ps os=some M->∀ex ls md pid aQ bh bO z,m.boxes.length<=md->SF M->M.os.length=os.length->gm (m.boxes++ex) md M pid aQ bh bO z->ef ls bh M.ps->eL ls bh bO M.os.length->K (.ptr md 0) ⟨m.boxes++ex,ls,m.st,m.ln⟩):
  an Tryz.prog az Y 26 [.sl .ro (ps.map Qb),.sl .ro (os.map Qq)] m K:=by
 obtain⟨mb,ml,ms,mn⟩:=m;refine Xe akI (fun _ _ _=>.gd false .junk) (by simp) ?_;simp[aoO];refine DM Y _ ps hp.len hp.be _ (fun hn ex=>?_) (fun M hM ex md pid aQ z uv hB=>?_)
 ·have h0:=h0 (by unfold yM;rw[hn]) ex ml;simp[abP];exact h0
 have iy:yM ps os=SM M os:=by unfold yM;rw[hM]
 rw[iy]at h0 h1;obtain⟨hV,hos⟩:=O1 hp.sh hM;simp;refine Qi TD (atX mb ms mn os M md pid aQ z) (fun f _=>os.length-(numOf (f 7)).toNat) ?_ ?_
 ·exact⟨0,M,ex,ml,_,.nil,by simp,by omega,by simp,hV,by simp[hos],hB,Pc _ _,.inl ⟨rfl,by simp[hos]⟩,by simp⟩
 rintro f m ⟨i,M',ex,ls,bh,bO,f7,hi,hr,hV,hoi,hB,aR,dM,rfl⟩;rcases zzaa i os.length with ai|bu
 ·obtain⟨o,hoo⟩:=aS ai;have ah:Qh (os.map Qq) i=Qq o:=Qs (by simp[hoo]);have aa:(i:Int)<(os.length:Int):=by omega
  have hw:=bJ i (by omega);have hd:os.drop i=o::os.drop (i+1):=by rw[zzaf ai,(zza.1 hoo).2]
  have atY:=ho o (zzad hoo);rw[hd,SM]at hr;have eu:o.nw.al.length<=8796093022208:=by have:=atY;unfold zX at this;omega
  have atZ:=fun K h0 h1=>rQ Y ⟨mb++ex,ls,ms,mn⟩ md M' pid aQ bh bO z o hB aR dM hV.n (fun l hl g hg _=>aaD (hV.pr l hl _ g hg).cQ (by have:=hV.los;omega) atY) eu (by have:=hV.los;omega) K h0 h1;simp only[Qq,Qd,Qg,Qj,zzae,zzai]at ah atZ;simp[f7,TD,aa,ah];refine atZ _ (fun hn eO=>?_) (fun M2 hM2 B' dx rts' cZ ri fG axM ane=>?_)
  ·rw[hn]at hr;have h0:=h0 hr.symm (ex++eO) ls;simp[abP];exact h0
  rw[hM2]at hr;obtain⟨hV2,axN,_⟩:=O2 hV hM2;obtain⟨eO,rfl⟩:=bn.pref fG (fun j hj=>hj.elim (fun e=>e ▸ uv.1) (fun e=>e ▸ uv.2));simp[hw];refine⟨aO,⟨i+1,M2,eO,dx,rts',cZ,by simp,by omega,hr,hV2,by rw[axN];simp[hoi],ri,axM,ane,rfl⟩,by omega⟩
 obtain rfl:i=os.length:=by omega
 rw[zzbo,SM]at hr;have h1:=h1 M' hr.symm ex ls md pid aQ bh bO z uv.1 hV hoi hB aR dM;simp[f7,TD,abP];exact h1
open Go Go.Abs
def an.wka{P:Program}{gl:Nat->AV}{Y:YT}{f:FuncId}{xs xs':List AV}{m:AM}{K:AV->AM->Prop}(hk:WkL xs xs')(h:an P gl Y f xs' m K):an P gl Y f xs m K:=
 ⟨h.1,fun N w0 aq γ w vs hm hl hg hy hr=>h.2 N w0 aq γ w vs hm hl hg hy (hk.rep hr)⟩
def aaZ(e:En×Rt):List AV:=[I e.1.id,I e.1.it,I e.1.fr,I e.1.ea,I e.1.la,I e.1.bo,.sl e.2 (e.1.al.map Qe)]
def anI(l:List (En×Rt))(rt:Rt):Wk (.sl rt (l.map aaZ)) (.sl .ro ((l.map (·.1)).map Qd)):=by
 refine Wk.trans (Wk.sl _ _) ?_;rw[zzcy];refine Wk.rows l aaZ (Qd ∘ (·.1)) (fun _=>rfl) fun a j c' h=>?_
 match j,h with
 |0,h=>exact⟨_,rfl,by cases h;exact Wk.refl _⟩
 |1,h=>exact⟨_,rfl,by cases h;exact Wk.refl _⟩
 |2,h=>exact⟨_,rfl,by cases h;exact Wk.refl _⟩
 |3,h=>exact⟨_,rfl,by cases h;exact Wk.refl _⟩
 |4,h=>exact⟨_,rfl,by cases h;exact Wk.refl _⟩
 |5,h=>exact⟨_,rfl,by cases h;exact Wk.refl _⟩
 |6,h=>exact⟨_,rfl,by cases h;exact Wk.sl _ _⟩
 |j+7,h=>simp[Qd]at h
def akm:List AV:=[I 0,I 25,I 1,I 0,.sl .nil [],I 0,I 1,I 200,I 1,.sl .full [[I 1,I 5,I 300,I 0,I 0],[I 2,I 2,I 20,I 0,I 0],[I 3,I 4,I 100,I 0,I 0]],
 .sl .full [[I 1,I 2,I 20,I 0,I 0,I 0,.sl .nil []],[I 2,I 3,I 40,I 20,I 50,I 0,.sl .nil []]],.sl .nil [],
 .sl .full [[I 1,I 2,I 0,I 1000,I 255,I 0,I 0,I 0],[I 1,I 3,I 0,I 1000,I 255,I 0,I 0,I 0]]]
def Mo:Pure Tryz.prog az 33 [] (.agg akm):=by
 refine Qn akM (fun _ _ _=>.junk) (by simp) ?_;simp[aoS,aoT,akm]
def SQ:Pure Tryz.prog az 33 [] (.agg (Qb (iJ 0))):=
 Qz Mo (Qdp ⟨Wk.refl _,Wk.refl _,Wk.refl _,Wk.refl _,Wk.sl _ _,Wk.refl _,Wk.refl _,Wk.refl _,Wk.refl _,Wk.sl _ _,anI [(⟨1,2,20,0,0,0,[]⟩,.nil),(⟨2,3,40,20,50,0,[]⟩,.nil)] .full,Wk.sl _ _,Wk.sl _ _,trivial⟩)
def Mp:SN [iJ 0]:=by
 refine⟨by simp,fun p hp=>?_,fun p hp e he=>?_,fun p hp e he=>?_⟩
 ·simp only[zzbd]at hp;subst hp;exact⟨by simp[iJ],by simp[iJ],by simp[iJ],by simp[iJ],by simp[iJ],by simp[iJ]⟩
 ·simp only[zzbd]at hp;subst hp;simp[iJ]at he;rcases he with rfl|rfl<;>simp
 simp only[zzbd]at hp;subst hp;simp[iJ]at he;rcases he with rfl|rfl<;>simp
def aa0(n:Int):Wk (.agg [I n,I 0,I 30,I 2,I 2,I 0,I 0,I 0,I 0,I 0,I 0,I 0,.sl .nil [],I 0,I 0,I 0,I 0,I 0,I 0,I 0,I 0,I 0,I 0,I 0,I 0,.str ⟨#[]⟩]) (.agg (Qq (iK n))):=
 Qdp ⟨Wk.refl _,Wk.refl _,Wk.refl _,Wk.refl _,Wk.refl _,Wk.refl _,Wk.refl _,Wk.refl _,Wk.refl _,Wk.refl _,Wk.refl _,Wk.refl _,Wk.sl _ _,Wk.refl _,Wk.refl _,Wk.refl _,Wk.refl _,Wk.refl _,Wk.refl _,Wk.refl _,Wk.refl _,Wk.refl _,Wk.refl _,Wk.refl _,Wk.refl _,Wk.refl _,trivial⟩
def SF.mok{M:Md}(h:SF M):MoK M:=
 ⟨fun o ho=>by have:=h.fr o ho;omega,h.n,by have:=h.los;omega,fun l hl g hg=>by
  obtain⟨i,hi⟩:=zzby.1 hg;have hp:=h.pr l hl i g hi;exact⟨by have:=hp.small.1;omega,fun e he=>⟨hp.small.2 e he,(hp.ep e he).2.2.1⟩⟩⟩
def SF.pgc{M:Md}(h:SF M):∀l∈M.ps,∀g∈l,PgC g:=fun l hl g hg=>by
 obtain⟨i,hi⟩:=zzby.1 hg;have hp:=h.pr l hl i g hi;have hn:=h.n l hl;have:=(zza.1 hi).1;exact hp.pgc (by have:=h.los;omega)
def aa1:mg []=none:=by unfold mg;rw[if_pos (by simp)]
def agK:ij cW 0 1=some HF:=by cbv
def at1:SI cW 0 0 38 (0,0,5)=true:=by unfold SI;rw[aaI];simp
def at2:SI cW 0 0 38 (3,12,0)=false:=by unfold SI;rw[aaI];simp
def Pd(n:Int):zX (iK n):=by unfold zX iK lD;simp
def akn:SC:=(⟨_,by cbv⟩:tM [1,1,1,1,1,1,1,1,1,1,1] qx).1
def ako:SC:=(⟨_,fun _=>by cbv⟩:uw [1] (tL [1,1,1,1,1,1,1,1,1,1] qx)).1 akn
def akp:SC:=(⟨_,fun _=>by cbv⟩:uw [1] (tL [1,1,1,1,1,1,1,1,1] qx)).1 ako
def akq:SC:=(⟨_,fun _=>by cbv⟩:uw [1] (tL [1,1,1,1,1,1,1,1] qx)).1 akp
def akr:SC:=(⟨_,fun _=>by cbv⟩:uw [1] (tL [1,1,1,1,1,1,1] qx)).1 akq
def aks:SC:=(⟨_,fun _=>by cbv⟩:uw [1] (tL [1,1,1,1,1,1] qx)).1 akr
def akt:SC:=(⟨_,fun _=>by cbv⟩:uw [1] (tL [1,1,1,1,1] qx)).1 aks
def aku:SC:=(⟨_,fun _=>by cbv⟩:uw [1] (tL [1,1,1,1] qx)).1 akt
def akv:SC:=(⟨_,fun _=>by cbv⟩:uw [1] (tL [1,1,1] qx)).1 aku
def akw:SC:=(⟨_,fun _=>by cbv⟩:uw [1] (tL [1,1] qx)).1 akv
def at3:SC:=(⟨_,fun _=>by cbv⟩:uw [1,1] qx).1 akw
theorem agL:qx=at3:=rfl
def anJ:Pure Tryz.prog az 11 [] (.bool true):=by
 have k33:=SQ;refine Qn akA (fun _ f _=>if f=33 then .agg (Qb (iJ 0))else .gd false .junk) (by simp) ?_;rw[agL];simp[Qb,iJ,Qm,Qd,Qg]at k33;simp[at3,Qb,iJ,Qm,Qd,Qg];refine⟨k33,?_⟩;refine an.wka (xs':=[.sl .ro ([iJ 0].map Qb)]) ⟨Wk.sl _ _,trivial⟩ ?_;refine DM Y0 _ [iJ 0] Mp.len Mp.be _ (fun hn=>?_) (fun M hM ex md pid aQ z uv hB=>?_)
 ·rw[DQ]at hn;cases hn
 rw[DQ]at hM;cases hM;simp only[zzai]at hB |-
 simp[akw];refine an.wka (xs':=[.sl .ro (([]:List Pl).map Qb)]) ⟨Wk.sl _ _,trivial⟩ ?_;refine DM Y0 _ [] (by simp) (fun p hp=>by cases hp) _ (fun _ eO=>?_) (fun M hM=>by rw[aa1]at hM;cases hM);have hB:=hB.ext eO;simp only at hB |-
 generalize ex++eO=B at*
 simp[akv];simp[aku];refine an.wka (xs':=[.ptr md 0,.agg (Qq (iK 1))]) ⟨Wk.refl _,aa0 1,trivial⟩ ?_;have hV0:=O1 Mp.sh DQ;refine rQ Y0 _ md _ pid aQ _ .nil z (iK 1) hB (Pc _ _) (.inl ⟨rfl,rfl⟩) hV0.1.n (fun l hl g hg _=>aaD (hV0.1.pr l hl _ g hg).cQ (by simp) (Pd 1)) (by simp[iK,lD]) (by simp) _ (fun hn=>?_) (fun M' hM' B' dx rts' cZ tK fG FY Mn=>?_)
 ·rw[DR]at hn;cases hn
 rw[DR]at hM';cases hM';have hV1:=(O2 hV0.1 DR).1;have J1:=hV1.mok;have hpg:=hV1.pgc;have uz:=FY.own tK.hrts;simp[akt];refine an.wka (xs':=[.ptr md 0,.agg (Qq (iK 3))]) ⟨Wk.refl _,aa0 3,trivial⟩ ?_;refine rQ Y0 _ md cW pid aQ rts' cZ z (iK 3) tK FY Mn hV1.n (fun l hl g hg _=>aaD (hV1.pr l hl _ g hg).cQ (by simp[cW]) (Pd 3)) (by simp[iK,lD]) (by simp[cW]) _ (fun hn y8=>?_) (fun M' hM'=>by rw[aaG]at hM';cases hM');have ri:=tK.ext y8;simp only at ri |-
 generalize B'++y8=B2 at*
 clear hB tK;have hfo:∀o∈cW.os,0<=o.2/\o.2<=1000000000000:=J1.os;simp[aks];refine rP Y0 _ md cW pid aQ rts' cZ z 37 ri hfo _ ?_;rw[axy,axA];simp[akr];refine rP Y0 _ md cW pid aQ rts' cZ z 38 ri hfo _ ?_;rw[atx,aty];simp[akq];refine j7 Y0 _ md cW pid aQ rts' cZ z 0 0 32 ri J1 uz (by omega) _ fun IQ lx4 ms4 mn4=>?_;have YB:=ri.ext IQ;simp only at YB |-
 generalize B2++IQ=B3 at*
 rw[atz];simp[akp];refine j7 Y0 _ md cW pid aQ rts' cZ z 0 0 38 YB J1 uz (by omega) _ fun ex5 lx5 ms5 mn5=>?_;have ZR:=YB.ext ex5;simp only at ZR |-
 generalize B3++ex5=B4 at*
 rw[aaI];simp[ako,Zo];refine j7 Y0 _ md cW pid aQ rts' cZ z 0 1 32 ZR J1 uz (by omega) _ fun ex6 lx6 ms6 mn6=>?_;have hB5:=ZR.ext ex6;simp only at hB5 |-
 generalize B4++ex6=B5 at*
 rw[axC];simp[akn];refine HQ Y0 _ md cW pid aQ rts' cZ z 0 1 hB5 uz hpg (fun l hl=>by have:=hV1.n l hl;simp[cW]at this |-;omega) _ fun ex7=>?_;have hB6:=hB5.ext ex7;simp only at hB6 |-
 generalize B5++ex7=B6 at*
 rw[agK];simp[ko,Qo,Qb,HF,yI,iJ];refine O7 Y0 _ md cW pid aQ rts' cZ z 0 0 38 (0,0,5) (hB6.ext _) J1 uz (by omega) _ fun ex8 lx8 ms8 mn8=>?_;rw[at1];simp;refine O7 Y0 _ md cW pid aQ rts' cZ z 0 0 38 (3,12,0) (by simpa using hB6.ext _) J1 uz (by omega) _ fun ex9 lx9 ms9 mn9=>?_;rw[at2];simp[aoL]
end
end Go.Proofs.YtnopaopphmjnmaaGreatDoor
