import Derived.Test.YtnopaopphmjnmaaGreatDoorMDMS
set_option linter.all false
set_option maxRecDepth 100000
set_option maxHeartbeats 64000000
namespace Go.Proofs.YtnopaopphmjnmaaGreatDoor
open Go Go.Abs
def Gy{l:List Nat}{n:Nat}(h:l.Nodup)(hb:∀i∈l,i<n):l.length<=n:=by
 have hp:l.Perm ((List.range n).filter fun i=>decide (i∈l)):=by
  rw[zzgd h (zzdq.filter _)];intro i;simp only[zzcy,zzbf,decide_eq_true_eq];exact⟨fun hi=>⟨hb i hi,hi⟩,fun hi=>hi.2⟩
 rw[hp.length_eq];refine zzbm (zzbs _ _) ?_;simp
def OH(id:Nat)(m:AM):Nat:=match Qh m.boxes id with
 |[.mitr _ _ s]=>s.length
 |_=>0
def af1{α:Type}{row:α->AV}{L:List (Int×α)}{i:Nat}{k:List Int}{c:AV}(h:(bI row L)[i]?=some (k,c)):∃o x,L[i]?=some (o,x)/\k=[o]/\c=row x/\(bI row L).getD i ([],.junk)=([o],row x)/\i<L.length:=by
 have hg:(bI row L).getD i ([],.junk)=(k,c):=by rw[zzas,h];rfl
 rw[bI,zzbl]at h;cases hL:L[i]? with
 |none=>rw[hL]at h;cases h
 |some y=>
  rw[hL]at h;cases h;exact⟨y.1,y.2,rfl,rfl,rfl,hg,(zza.1 hL).1⟩
def Lv(p:Pl)(it:Int)(L:List (Int×Int))(o x:Int):xB p it (L++[(o,x)])=if 0<Jw p x it then xB p it L++[(o,Jw p x it)]else xB p it L:=by
 unfold xB;rw[List.filterMap_append];by_cases h:0<Jw p x it
 ·rw[if_pos h];simp[h]
 rw[if_neg h];simp[h]
def Gz{m:AM}{K:AV->AM->Prop}{id mid n kn:Nat}{seen:List Nat}{kvs:List (List Int×AV)}(h1:Qh m.boxes id=[.mitr mid n seen])(h2:Qh m.boxes mid=[.aK kn kvs])(h:kvs.length=n)
  (hs:∀i k c,kvs[i]?=some (k,c)->i ∉ seen->K (.aU [.bool true,keyAV kn k,c]) {m with boxes:=m.boxes.set id [.mitr mid n (seen++[i])]})(he:(∀i,i<n->i∈seen)->K (.aU [.bool false]) m):vcNxt m K (.it id):=by
 simp only[vcNxt,Vl,h1,h2];exact⟨h,hs,he⟩
def OJ(p:Pl)(it:Int):Nat->FuncId->List AV->AV:=fun _ f l=>if f=274 then(match l with|[_,.int _ x,_]=>I (Jw p x it)|_=>.junk)else .junk
def aty(pre:List (List AV))(b:Bd)(post:List (List AV))(ls:List Nat)(it:Int)(f:Nat->AV)(m:AM):Prop:=∃(seen:List Nat)(l:List Sp)(rt:Rt)(exl:List Nat),
 seen.Nodup/\(∀i∈seen,i<(Yy b.p).length)/\l=xB b.p it (atL (0,0) (Yy b.p) seen)/\f 8=.sl rt (l.map Qe)/\(l=[]/\rt=.nil/\exl=[]\/l≠[]/\rt=.own ls.length 2/\exl=[l.length])/\
 m=aR pre b (post++[[.mitr (pre.length+3) (Yy b.p).length seen]]) (ls++exl)
def GA(pre post:List (List AV))(ls:List Nat)(b:Bd)(it:Int)(hc:b.p.cls.length<=1000000000)(cH:b.p.aL.length<=1000000000)(mD:(Yy b.p).length<=1000000000)(IC:afP b)(Y:YT)(K:AV->AM->Prop)
  (hK:∀(rv:List (Int×(Rt×List Sp)))(ex:List (List AV))(exl:List Nat)(rt:Rt)(l:List Sp),afP {b with rv:=rv}->l.Perm (Kq b.p it)->K (.sl rt (l.map Qe)) (aR pre {b with rv:=rv} (post++ex) (ls++exl))):
  an Tryz.prog aq Y 200 [.ptr (pre.length+9) 0,I it] (aR pre b post ls) K:=by
 have nil:Kq b.p it=[]->K (.sl .nil []) (aR pre b post ls):=fun h=>by
  have:=hK b.rv [] [] .nil [] IC (by rw[h]);simpa using this
 refine Xe adA (OJ b.p it) (by simp) ?_
 have ax1:∃r,Xh [it] (bI rB (zH b.p)) 0=r/\((∃n y,Xg it b.p.aL=some y/\r=some (n,rB y))\/(Xg it b.p.aL=none/\r=none)):=by
  rcases Xp rB it (zH b.p) 0 with⟨h1,h2,_,_⟩|⟨u,n,h1,h2,_⟩
  ·rw[uA]at h1;exact⟨_,rfl,.inr ⟨h1,h2⟩⟩
  rw[uA]at h1;exact⟨_,rfl,.inl ⟨_,u,h1,h2⟩⟩
 obtain⟨r,hr,Rz⟩:=ax1;obtain⟨n,y,hf,rfl⟩|⟨hf,rfl⟩:=Rz
 ·rcases Xp iA y.sp (Yy b.p) 0 with⟨s1,s2,_,_⟩|⟨su,sn,s1,s2,_⟩
  ·simp[z6,EE,aR,bq,Qq,Qc,hr,rB,Qm,s2];exact nil (by simp[Kq,hf,s1])
  have hrl:Kq b.p it=xB b.p it (Yy b.p):=by simp[Kq,hf,s1,xB]
  rcases Xp rvA y.sp b.rv 0 with⟨m1,m2,_,m4⟩|⟨mu,mn,m1,m2,_⟩
  ·simp[z6,aR,bq,Qq,Qc,hr,rB,Qm,s2,m2];refine Qi U2 (aty pre b post ls it) (fun _ m=>(Yy b.p).length-OH (pre.length+(post.length+10)) m) ?_ ?_
   ·exact⟨[],[],.nil,[],List.nodup_nil,by simp,rfl,by simp,.inl ⟨rfl,rfl,rfl⟩,by simp[aR,bq,Qq,Qc]⟩
   rintro f m ⟨seen,l,rt,exl,hn,hb,hl,h8,aT,rfl⟩;have r8:seen.length<=(Yy b.p).length:=Gy hn hb;simp[-vcNxt,aR,bq,Qq,Qc,U2];refine Gz (mid:=pre.length+3) (n:=(Yy b.p).length) (kn:=0) (seen:=seen) (kvs:=bI iA (Yy b.p)) ?_ ?_ ?_ (fun i k c hi hns=>?_) fun bS=>?_
   ·simp
   ·simp
   ·simp
   ·obtain⟨o,x,hx,rfl,rfl,WH,ai⟩:=af1 hi
    have bw:(bI iA (Yy b.p))[i]'(by simpa using ai)=([o],iA x):=by
     have:=zza.1 hi;exact this.2
    have anQ:=anN b.p x it hc cH;have sd:(seen++[i]).Nodup:=List.nodup_append.2 ⟨hn,by simp,fun a ha c hc=>by simp at hc;subst hc;rintro rfl;exact hns ha⟩
    have cK:∀j∈seen++[i],j<(Yy b.p).length:=fun j hj=>by
     rcases zzap.1 hj with h|h
     ·exact hb j h
     simp at h;subst h;exact ai
    have bX:seen.length+1<=(Yy b.p).length:=by simpa using Gy sd cK
    have hxo:(Yy b.p).getD i (0,0)=(o,x):=by rw[zzas,hx];rfl
    have S8:atL (0,0) (Yy b.p) (seen++[i])=atL (0,0) (Yy b.p) seen++[(o,x)]:=by
     simp only[atL,zzbw,zzay,zzce,hxo]
    have Fb:=Lv b.p it (atL (0,0) (Yy b.p) seen) o x;rw[<- S8,<- hl]at Fb;by_cases hg:0<Jw b.p x it
    ·rw[if_pos hg]at Fb
     have zn:l.length<=(Yy b.p).length:=by
      rw[hl];refine zzbm (zzgp _ _) ?_;simp only[atL,zzbg];exact r8
     obtain⟨rfl,rfl,rfl⟩|⟨me,rfl,rfl⟩:=aT
     ·simp[keyAV,bw,ai,OJ,hg,h8,OH];refine⟨by simpa[Qc]using anQ,aN,⟨seen++[i],_,_,[1],sd,cK,rfl,by simp[Fb,Qe],.inr ⟨by simp[Fb],rfl,by simp[Fb]⟩,by simp[aR,bq,Qq,Qc]⟩,by omega⟩
     simp[keyAV,bw,ai,OJ,hg,h8,OH];refine⟨by simpa[Qc]using anQ,⟨?_,by omega⟩,aN,⟨seen++[i],_,_,[l.length+1],sd,cK,rfl,by simp[Fb,Qe],.inr ⟨by simp[Fb],rfl,by simp[Fb]⟩,by simp[aR,bq,Qq,Qc]⟩,by omega⟩
     ·rintro row (⟨a,b,_,rfl⟩|rfl)<;>rfl
    rw[if_neg hg]at Fb;simp[keyAV,bw,ai,OJ,hg,h8,OH];refine⟨by simpa[Qc]using anQ,aN,⟨seen++[i],l,rt,exl,sd,cK,Fb.symm,by simp,aT,by simp[aR,bq,Qq,Qc]⟩,by omega⟩
   have Tl:l.Perm (Kq b.p it):=by
    rw[hl,hrl];exact(afQ _ _ _ hn bS hb).filterMap _
   have ax2:afP {b with rv:=Zt y.sp (rt,l) b.rv}:=fun k x h it' y' hf' dy=>by
    rw[Vq]at h;split at h
    ·rename_i e;cases h;rw[afS hf' hf (by rw[dy,e])];exact Tl
    exact IC k x h it' y' hf' dy
   have:=hK _ [[.mitr (pre.length+3) (Yy b.p).length seen]] exl rt l ax2 Tl;have m4':bI rvA b.rv++[([y.sp],.sl rt (l.map Qe))]=bI rvA (Zt y.sp (rt,l) b.rv):=m4 (rt,l);simp[h8,m2,EE];rw[m4'];simpa[aR,bq,Qq,Qc]using this
  simp[z6,EE,aR,bq,Qq,Qc,hr,rB,Qm,s2,m2,rvA];have:=hK b.rv [] [] mu.1 mu.2 IC (IC _ _ m1 it y hf rfl);simpa[aR,bq,Qq,Qc]using this
 have s2:Xh [0] (bI iA (Yy b.p)) 0=none:=by
  rcases Xp iA 0 (Yy b.p) 0 with⟨_,s2,_,_⟩|⟨su,sn,s1,_⟩
  ·exact s2
  rw[Yy,xC _ _ _ rfl]at s1;cases s1
 simp[z6,EE,aR,bq,Qq,Qc,hr,s2];exact nil (by simp[Kq,hf])
open Go Go.Abs
def IE(pre:List (List AV))(p:Pl)(at_:Int)(pl:List (Int×Int))(im:List (Int×It))(sp:List (Int×Int))(post:List (List AV))(ls:List Nat):AM:=
 ⟨pre++(Qc p::[.aK 0 (bI iA pl)]::[.aK 0 (bI rB im)]::[.aK 0 (bI iA sp)]::[.aK 0 []]::[.aK 0 []]::[.aK 0 []]::[.aK 0 []]::[.aK 2 []]::Qq pre.length ⟨p,at_,[],[],[],[],[]⟩::post),ls,fun _=>.gone,0⟩
def ax3(pre:List (List AV))(p:Pl)(at_:Int)(ls:List Nat)(f:Nat->AV)(m:AM):Prop:=∃(i:Nat)(pl:List (Int×Int))(post:List (List AV)),f 36=I i/\i<=p.ens.length/\Gq (p.ens.drop i) i pl=Da p/\m=IE pre p at_ pl [] [] post ls
def ax4(pre:List (List AV))(p:Pl)(at_:Int)(ls:List Nat)(f:Nat->AV)(m:AM):Prop:=∃(i:Nat)(im:List (Int×It))(sp:List (Int×Int))(post:List (List AV)),f 67=I i/\i<=p.aL.length/\Lp (p.aL.drop i) im=zH p/\zG (p.aL.drop i) im sp=Yy p/\m=IE pre p at_ (Da p) im sp post ls
def ax5(pre:List (List AV))(p:Pl)(at_:Int)(past:List Ad)(ls:List Nat)(f:Nat->AV)(m:AM):Prop:=∃(i:Nat)(us en:List (Int×Int))(post:List (List AV)),f 108=I i/\i<=past.length/\pL i us/\Oz (past.drop i) us=Oz past []/\OA p (past.drop i) en=OA p past []/\m=aR pre ⟨p,at_,us,en,[],[],[]⟩ post ls
def akD:Nat->FuncId->List AV->AV:=fun _ f _=>if f=999999 then .junk else .gd false .junk
def xE(pre:List (List AV))(ls:List Nat)(p:Pl)(at_:Int)(past:List Ad)(rtp:Rt)(Iy:p.ens.length<=1000000000)(cH:p.aL.length<=1000000000)(iU:past.length<=1000000000)(Y:YT)(K:AV->AM->Prop)
  (hK:∀ex,K (.ptr (pre.length+9) 0) (aR pre ⟨p,at_,Oz past [],OA p past [],[],[],[]⟩ ex ls)):
  an Tryz.prog aq Y 121 [.agg (Qc p),I at_,.sl rtp (past.map Vh)] ⟨pre,ls,fun _=>.gone,0⟩ K:=by
 refine Xe acH akD (by simp) ?_;simp[Es,Qc];refine Qi BQ (ax3 pre p at_ ls) (fun f _=>p.ens.length-(numOf (f 36)).toNat) ?_ ?_
 ·exact⟨0,[],[],by simp,by omega,rfl,by simp[IE,Qq,Qc]⟩
 rintro f m ⟨i,pl,post,h36,hi,gC,rfl⟩;rcases zzaa i p.ens.length with ai|bw
 ·obtain⟨e,he⟩:=aP ai;have aa:=Qcv he;have ah:(i:Int)<(p.ens.length:Int):=by omega
  have hw:=bH i (by omega);rw[Xy he,Gq]at gC;rcases Xp iA e.id pl 0 with⟨h1,h2,_,h4⟩|⟨u,n,h1,h2,_⟩
  ·rw[h1]at gC;have IB:bI iA pl++[([e.id],I i)]=bI iA (Zt e.id (i:Int) pl):=h4 _;simp[h36,ah,aa,Qd,IE,Qq,Qc,h2,BQ,hw];refine⟨aN,⟨i+1,_,post++[Qd e],by simp,by omega,gC,?_⟩,by omega⟩
   ·rw[IB];simp[IE,Qq,Qc,Qd]
  rw[h1]at gC;simp[h36,ah,aa,Qd,IE,Qq,Qc,h2,BQ,hw];refine⟨aN,⟨i+1,pl,post++[Qd e],by simp,by omega,gC,by simp[IE,Qq,Qc,Qd]⟩,by omega⟩
 have bJ:¬(i:Int)<(p.ens.length:Int):=by omega
 rw[zzan bw,Gq]at gC;subst gC;simp[h36,bJ,BQ,IE,Qq,Qc];refine Qi I8 (ax4 pre p at_ ls) (fun f _=>p.aL.length-(numOf (f 67)).toNat) ?_ ?_
 ·exact⟨0,[],[],post,by simp,by omega,rfl,rfl,by simp[IE,Qq,Qc]⟩
 clear bw bJ hi h36;rintro g m ⟨i,im,sp,post,h67,hi,RI,dy,rfl⟩;rcases zzaa i p.aL.length with ai|bw
 ·obtain⟨x,hx⟩:=aP ai;have aa:Qh (p.aL.map Qm) i=Qm x:=Qr (by simp[hx]);have ah:(i:Int)<(p.aL.length:Int):=by omega
  have hw:=bH i (by omega);rw[Xy hx,Lp]at RI;rw[Xy hx,zG]at dy;simp[h67,ah,aa,Qm,IE,Qq,Qc,I8];refine Xz ?_;rcases Xp rB x.id im 0 with⟨h1,h2,_,h4⟩|⟨u,n,h1,h2,_⟩
  ·rw[h1]at RI dy;have IB:bI rB im++[([x.id],.agg [I x.id,I x.ki,I x.fr,I x.sp,I x.ra])]=bI rB (Zt x.id x im):=h4 x;simp only at RI dy;by_cases s1:1<=x.sp
   ·by_cases s2:x.sp<=200
    ·rw[if_pos ⟨s1,s2⟩]at dy;rcases Xp iA x.sp sp 0 with⟨_,q2,_,q4⟩|⟨u,n,_,q2,_,_,_,q4⟩
     ·have q4':bI iA sp++[([x.sp],I x.id)]=bI iA (Zt x.sp x.id sp):=q4 _;simp[h67,hw,h2,s1,s2,q2];refine⟨aN,⟨i+1,Zt x.id x im,Zt x.sp x.id sp,post++[Qm x,[I 0,I 0,I 0,I 0,I 0]],by simp,by omega,RI,dy,?_⟩,by omega⟩
      ·rw[IB,q4'];simp[IE,Qq,Qc,Qm]
     have q4':(bI iA sp).set n ([x.sp],I x.id)=bI iA (Zt x.sp x.id sp):=q4 _;rw[zzbt]at q2;simp[h67,hw,h2,s1,s2,q2];refine⟨aN,⟨i+1,Zt x.id x im,Zt x.sp x.id sp,post++[Qm x,[I 0,I 0,I 0,I 0,I 0]],by simp,by omega,RI,dy,?_⟩,by omega⟩
     ·rw[IB,q4'];simp[IE,Qq,Qc,Qm]
    rw[if_neg (fun h=>s2 h.2)]at dy;simp[h67,hw,h2,s1,s2];refine⟨aN,⟨i+1,Zt x.id x im,sp,post++[Qm x,[I 0,I 0,I 0,I 0,I 0]],by simp,by omega,RI,dy,?_⟩,by omega⟩
    ·rw[IB];simp[IE,Qq,Qc,Qm]
   rw[if_neg (fun h=>s1 h.1)]at dy;simp[h67,hw,h2,s1];refine⟨aN,⟨i+1,Zt x.id x im,sp,post++[Qm x,[I 0,I 0,I 0,I 0,I 0]],by simp,by omega,RI,dy,?_⟩,by omega⟩
   ·rw[IB];simp[IE,Qq,Qc,Qm]
  rw[h1]at RI dy;simp[h67,Qm,hw,h2,rB];refine⟨aN,⟨i+1,im,sp,post++[Qm x,Qm u],by simp,by omega,RI,dy,by simp[IE,Qq,Qc,Qm]⟩,by omega⟩
 have bJ:¬(i:Int)<(p.aL.length:Int):=by omega
 rw[zzan bw]at RI dy;have RI:im=zH p:=RI;have dy:sp=Yy p:=dy;subst RI;subst dy;simp[h67,bJ,I8,IE,Qq,Qc];refine Qi iL (ax5 pre p at_ past ls) (fun f _=>past.length-(numOf (f 108)).toNat) ?_ ?_
 ·exact⟨0,[],[],post,by simp,by omega,fun k v h=>(by cases h),rfl,rfl,by simp[aR,bq,Qq,Qc,Tr]⟩
 clear bw bJ hi h67;rintro h m ⟨i,us,en,post,h108,hi,hus,hu,he,rfl⟩;rcases zzaa i past.length with ai|bw
 ·obtain⟨a,ha⟩:=aP ai;have aa:Qh (past.map Vh) i=Vh a:=Qr (by simp[ha]);have ah:(i:Int)<(past.length:Int):=by omega
  have hw:=bH i (by omega);rw[Xy ha,Oz]at hu;rw[Xy ha,OA]at he;have ZV:pL (i+1:Nat) us:=fun k v h=>by have:=hus k v h;omega
  have skip:rz a=false->Oz (past.drop (i+1)) us=Oz past []/\OA p (past.drop (i+1)) en=OA p past []:=fun h=>by
   rw[h]at hu he;exact⟨hu,he⟩
  by_cases c1:a.re=0
  ·by_cases c2:0<=a.fr
   ·by_cases c3:a.fr<=100000000
    ·by_cases c4:1<=a.fs
     ·by_cases c5:a.fs<=100000000
      ·have hc:rz a=true:=by simp[rz];omega
       rw[hc]at hu he;simp only[if_true]at hu he;have hwa:IntKind.i64.wrap (a.fr+a.fs)=a.fr+a.fs:=by rw[Qk]<;>omega
       simp[h108,ah,aa,Vh,aR,bq,Qq,Qc,iL,hw,akD,c1,c2,c3,c4,c5,hwa];have kn:=af0 pre (post++[Vh a]) ls ⟨p,at_,us,en,[],[],[]⟩ us en a.it (a.fr+a.fs) (fun k v h=>by have:=hus k v h;omega) Y;simp only[aR,bq,Qq,Qc,Vh,c1]at kn;refine kn _ fun ex=>?_;simp;refine⟨aN,⟨i+1,Vr us a.it,Zl p en a.it (a.fr+a.fs),post++[[I a.it,I 0,I a.fr,I a.fs]]++ex,by simp,by omega,?_,hu,he,by simp[aR,bq,Qq,Qc]⟩,by omega⟩
       ·have:=hus.note (by omega) a.it;exact this
      obtain⟨hu,he⟩:=skip (by simp[rz];omega);simp[h108,ah,aa,Vh,aR,bq,Qq,Qc,iL,hw,c1,c2,c3,c4,c5];refine⟨aN,⟨i+1,us,en,post++[[I a.it,I 0,I a.fr,I a.fs]],by simp,by omega,ZV,hu,he,by simp[aR,bq,Qq,Qc]⟩,by omega⟩
     obtain⟨hu,he⟩:=skip (by simp[rz];omega);simp[h108,ah,aa,Vh,aR,bq,Qq,Qc,iL,hw,c1,c2,c3,c4];refine⟨aN,⟨i+1,us,en,post++[[I a.it,I 0,I a.fr,I a.fs]],by simp,by omega,ZV,hu,he,by simp[aR,bq,Qq,Qc]⟩,by omega⟩
    obtain⟨hu,he⟩:=skip (by simp[rz];omega);simp[h108,ah,aa,Vh,aR,bq,Qq,Qc,iL,hw,c1,c2,c3];refine⟨aN,⟨i+1,us,en,post++[[I a.it,I 0,I a.fr,I a.fs]],by simp,by omega,ZV,hu,he,by simp[aR,bq,Qq,Qc]⟩,by omega⟩
   obtain⟨hu,he⟩:=skip (by simp[rz];omega);simp[h108,ah,aa,Vh,aR,bq,Qq,Qc,iL,hw,c1,c2];refine⟨aN,⟨i+1,us,en,post++[[I a.it,I 0,I a.fr,I a.fs]],by simp,by omega,ZV,hu,he,by simp[aR,bq,Qq,Qc]⟩,by omega⟩
  obtain⟨hu,he⟩:=skip (by simp[rz,c1]);simp[h108,ah,aa,Vh,aR,bq,Qq,Qc,iL,hw,c1];refine⟨aN,⟨i+1,us,en,post++[[I a.it,I a.re,I a.fr,I a.fs]],by simp,by omega,ZV,hu,he,by simp[aR,bq,Qq,Qc]⟩,by omega⟩
 have bJ:¬(i:Int)<(past.length:Int):=by omega
 rw[zzan bw]at hu he;have hu:us=Oz past []:=hu;have he:en=OA p past []:=he;subst hu;subst he;simp[h108,bJ,iL,ahL];simpa[aR,bq,Qq,Qc,Tr]using hK post
open Go Go.Abs
def Bc(b:Bd):Prop:=anO b/\afP b/\Ls b
def De{α:Type}(sz:Nat)(lo:Nat)(ls:List Nat)(rt:Rt)(l:List α):Prop:=(l=[]/\rt=.nil)\/∃k,rt=.own k sz/\lo<=k/\ls[k]?=some l.length/\l≠[]
def De.app{α:Type}{sz lo:Nat}{ls exl:List Nat}{rt:Rt}{l:List α}(h:De sz lo ls rt l):De sz lo (ls++exl) rt l:=by
 obtain h|⟨k,h1,h2,h3,h4⟩:=h
 ·exact .inl h
 exact .inr ⟨k,h1,h2,by rw[zzag (zza.1 h3).1];exact h3,h4⟩
def af2(p:Pl)(a b:Int):0<=Jw p a b/\Jw p a b<=6000000000:=by
 unfold Jw;cases Xg a p.aL with
 |none=>simp
 |some x=>
  cases Xg b p.aL with
  |none=>simp
  |some y=>
   simp only;split
   ·omega
   rename_i h;simp only[not_or]at h;have hv:Vb p.nu p.de=true:=by simpa using h.2.1
   obtain⟨v1,v2,v3,v4,v5⟩:=Jo hv;have hg:=OC x.sp y.sp p.cls 0 (by omega);generalize pK x.sp y.sp p.cls 0=g at hg;rw[wW,if_pos ⟨hv,by omega,by omega⟩];have hp:=Df hg ⟨(by omega:0<=p.nu),v2⟩;have:=Dg (x:=g*p.nu+p.de-1) (y:=p.de) (by omega) (by omega);omega
def uC{p:Pl}{it:Int}:∀r∈Kq p it,0<=r.2/\r.2<=6000000000:=fun r hr=>by
 unfold Kq at hr;cases hf:Xg it p.aL with
 |none=>rw[hf]at hr;cases hr
 |some y=>
  rw[hf]at hr;simp only at hr;cases ha:af y.sp (Yy p)with
  |none=>rw[ha]at hr;cases hr
  |some _=>
   rw[ha]at hr;simp only[zzfc]at hr;obtain⟨x,_,hx⟩:=hr;split at hx
   ·cases hx;exact af2 p _ _
   cases hx
def GB(p:Pl)(it:Int):(Kq p it).length<=(Yy p).length:=by
 unfold Kq;cases Xg it p.aL with
 |none=>simp
 |some y=>
  simp only;cases af y.sp (Yy p)with
  |none=>simp
  |some _=>exact zzgp _ _
def tU(en:List (Int×Int)):Prop:=∀k v,af k en=some v->0<=v/\v<=1000000000
def tU.note{p:Pl}{en:List (Int×Int)}(h:tU en)(it e:Int)(he:0<=e/\e<=1000000000):tU (Zl p en it e):=fun k v hk=>by
 unfold Zl at hk;cases hf:Xg it p.aL with
 |none=>rw[hf]at hk;exact h k v hk
 |some x=>
  rw[hf]at hk;simp only[Vq]at hk;split at hk
  ·cases hk;cases ha:af x.sp en with
   |none=>simp;omega
   |some u=>have:=h _ u ha;simp;omega
  exact h k v hk
def xF{en:List (Int×Int)}(h:tU en):∀{l:List Sp}{f M:Int},(∀r∈l,0<=r.2/\r.2<=6000000000)->f<=M->7000000000<=M->Uh en l f<=M
 |[],f,M,_,h1,_=>h1
 |r::l,f,M,hl,h1,h2=>by
  rw[Uh];refine xF h (fun x hx=>hl x (by simp[hx])) ?_ h2;have:=hl r (by simp);cases ha:af r.1 en with
  |none=>exact h1
  |some e=>have:=h _ e ha;simp only;omega
def ZW(l:List Sp):Option (List Sp)->Option (List Sp)
 |none=>none
 |some r=>some (l++r)
def anR(pre post:List (List AV))(ls:List Nat)(b:Bd)(ids:List Int)(N:Int)(T:Option (List Sp))(f:Nat->AV)(m:AM):Prop:=
 ∃(i:Nat)(us en:List (Int×Int))(free last:Int)(l:List Sp)(rt:Rt)(rv:List (Int×(Rt×List Sp)))(li:List (Int×Int))(pm:List ((Int×Int)×List Sp))(bx:List (List AV))(exl:List Nat),
  f 39=I i/\i<=ids.length/\f 8=I free/\f 9=I last/\f 10=.sl rt (l.map Qe)/\l.length=i/\(-1<=last/\last<=1000000000)/\free<=9223372036854775807/\pL (N+i) us/\tU en/\De 2 ls.length (ls++exl) rt l/\Bc {b with rv:=rv,li:=li,pm:=pm}/\
  ZW l (Uy b.p (ids.drop i) us en free last)=T/\m=aR pre {b with rv:=rv,li:=li,pm:=pm} (post++([.aK 0 (bI iA us)]::[.aK 0 (bI iA en)]::bx)) (ls++exl)
def akE(pre post bx0:List (List AV))(e:En)(ls:List Nat)(b:Bd)(us en:List (Int×Int))(L:List Sp)(T:Int)(f:Nat->AV)(m:AM):Prop:=
 ∃(j:Nat)(fr:Int)(bx:List (List AV)),f 90=I j/\j<=L.length/\f 17=I fr/\Uh en (L.drop j) fr=T/\m=aR pre b (post++([.aK 0 (bI iA us)]::[.aK 0 (bI iA en)]::(bx0++(Qd e::bx)))) ls
def GC:Nat->FuncId->List AV->AV:=fun _ f _=>if f=999999 then .junk else .gd false .junk
def Qdt(pre post:List (List AV))(ls:List Nat)(b:Bd)(ids:List Int)(rt0:Rt)(N:Int)(hN:0<=N/\N<=100000000)(atz:ids.length<=100000000)
  (hc:b.p.cls.length<=1000000)(gH:b.p.sh.length<=1000000000)(cH:b.p.aL.length<=1000000000)(Iy:b.p.ens.length<=1000000000)(mD:(Yy b.p).length<=1000000000)(dx:b.p.ln<=9223372036854775807)(Ts:∀e∈b.p.ens,e.ea<=9223372036854775807)
  (S8:b.at_<=9223372036854775807)(hus:pL N b.us)(af3:tU b.en)(sB:Bc b)(Y:YT)(K:AV->AM->Prop)
  (ry:Uy b.p ids b.us b.en b.at_ (-1)=none->∀rv li pm ex exl,Bc {b with rv:=rv,li:=li,pm:=pm}->K (.aU [.sl .nil [],.bool false]) (aR pre {b with rv:=rv,li:=li,pm:=pm} (post++ex) (ls++exl)))
  (hK1:∀l,Uy b.p ids b.us b.en b.at_ (-1)=some l->∀rv li pm ex exl rt,Bc {b with rv:=rv,li:=li,pm:=pm}->De 2 ls.length (ls++exl) rt l->K (.aU [.sl rt (l.map Qe),.bool true]) (aR pre {b with rv:=rv,li:=li,pm:=pm} (post++ex) (ls++exl))):
  an Tryz.prog aq Y 122 [.ptr (pre.length+9) 0,.sl rt0 (ids.map Qy)] (aR pre b post ls) K:=by
 obtain⟨T,hT⟩:∃T,Uy b.p ids b.us b.en b.at_ (-1)=T:=⟨_,rfl⟩;rw[hT]at ry hK1;refine Xe acI GC (by simp) ?_;simp[M3,aR,bq,Qq,Qc];refine Qay [(.mp (pre.length+(post.length+10)),aR pre b (post++[[.aK 0 (bI iA b.us)]]) ls)] ?_;simp[aR,bq,Qq,Qc,GC];refine⟨OK (kn:=0) (kvs:=bI iA b.us) (by simp) ⟨by simp,by simp⟩,OK (kn:=0) (kvs:=bI iA b.en) (by simp) ?_⟩;simp;refine Qi uU (anR pre post ls b ids N T) (fun f _=>ids.length-(numOf (f 39)).toNat) ?_ ?_
 ·refine⟨0,b.us,b.en,b.at_,-1,[],.nil,b.rv,b.li,b.pm,[],[],by simp,by omega,by simp,by simp,by simp,rfl,by omega,S8,by simpa using hus,af3,.inl ⟨rfl,rfl⟩,sB,?_,by simp[aR,bq,Qq,Qc]⟩;rw[zzdb,hT];cases T<;>rfl
 rintro f m ⟨i,us,en,free,last,l,rt,rv,li,pm,bx,exl,h39,hi,h8,h9,kS,zn,hla,sE,hu,he,hO,hB,hg,rfl⟩;rcases zzaa i ids.length with ai|bw
 ·obtain⟨id,aO⟩:=aP ai;have aa:Qh (ids.map Qy) i=Qy id:=Qr (by simp[aO]);have ah:(i:Int)<(ids.length:Int):=by omega
  have hw:=bH i (by omega);rw[Xy aO,Uy]at hg;have no:T=none->∀rv li pm ex exl,Bc {b with rv:=rv,li:=li,pm:=pm}->K (.aU [.sl .nil [],.bool false]) (aR pre {b with rv:=rv,li:=li,pm:=pm} (post++ex) (ls++exl)):=ry;rcases Xp iA id (Da b.p) 0 with⟨p1,p2,_⟩|⟨u,n,p1,p2,_⟩
  ·have p1:zI id b.p.ens 0=none:=by
    rw[uz]at p1;cases hx:zI id b.p.ens 0 with
    |none=>rfl
    |some k=>rw[hx]at p1;cases p1
   rw[p1]at hg;simp[h39,h8,h9,kS,ah,aa,Qy,aR,bq,Qq,Qc,uU,p2,rR];have:=ry hg.symm rv li pm ([.aK 0 (bI iA us)]::[.aK 0 (bI iA en)]::bx) exl hB;simpa[aR,bq,Qq,Qc]using this
  obtain⟨k,pk,rfl⟩:∃k:Nat,zI id b.p.ens 0=some k/\(k:Int)=u:=by
   rw[uz]at p1;cases hx:zI id b.p.ens 0 with
   |none=>rw[hx]at p1;cases p1
   |some k=>rw[hx]at p1;cases p1;exact⟨k,rfl,rfl⟩
  rw[zzbt]at p2;rw[pk]at hg;simp only at hg;obtain⟨_,e,he1,he2,he3⟩:=rA pk;rw[zzfb]at he1;have zj:=(zza.1 he1).1;have zo:(k:Int)<(b.p.ens.length:Int):=by omega
  have xG:=Qcv he1;by_cases c1:(k:Int)<=last
  ·rw[if_pos c1]at hg;simp[h39,h8,h9,kS,ah,aa,Qy,aR,bq,Qq,Qc,uU,p2,rR,c1];have:=ry hg.symm rv li pm ([.aK 0 (bI iA us)]::[.aK 0 (bI iA en)]::bx) exl hB;simpa[aR,bq,Qq,Qc]using this
  rw[if_neg c1,he1]at hg;simp only at hg;simp[h39,h8,h9,kS,ah,aa,Qy,aR,bq,Qq,Qc,uU,p2,c1,zo,xG,Qd,GC];have k82:=fun K'=>afO pre (post++([.aK 0 (bI iA us)]::[.aK 0 (bI iA en)]::(bx++[Qd e]))) (ls++exl) {b with rv:=rv,li:=li,pm:=pm} e.it (by simp only;omega) cH hB.1 Y K';simp only[aR,bq,Qq,Qc,Qd]at k82;refine k82 _ fun sN ZX=>?_;clear k82;have oZ:Bc {b with rv:=rv,li:=sN,pm:=pm}:=⟨ZX,hB.2.1,hB.2.2⟩;obtain⟨R,hR⟩:∃R,Wn b.p e.it=R:=⟨_,rfl⟩;rw[hR]at hg
  obtain⟨cu,ud,atA⟩:∃cu,(af e.it us).getD 0=cu/\((Xh [e.it] (bI iA us) 0=none/\cu=0)\/∃n,Xh [e.it] (bI iA us) 0=some (n,I cu)):=by
   rcases Xp iA e.it us 0 with⟨q1,q2,_⟩|⟨u,n,q1,q2,_⟩
   ·exact⟨0,by rw[q1];rfl,.inl ⟨q2,rfl⟩⟩
   exact⟨u,by rw[q1];rfl,.inr ⟨_,q2⟩⟩
  rw[ud]at hg;by_cases r2:R≠ -1/\R<=cu
  ·rw[if_pos r2]at hg;have:=ry hg.symm rv sN pm ([.aK 0 (bI iA us)]::[.aK 0 (bI iA en)]::(bx++[Qd e])) exl oZ;obtain⟨r1,r2⟩:=r2;obtain⟨q2,rfl⟩|⟨n2,q2⟩:=atA
   ·simp[q2,r1,r2,hR,rR];simpa[aR,bq,Qq,Qc,Qd]using this
   simp[q2,r1,r2,hR,rR];simpa[aR,bq,Qq,Qc,Qd]using this
  rw[if_neg r2]at hg
  have r3:R= -1\/(R≠ -1/\¬R<=cu):=by
   by_cases h:R= -1
   ·exact .inl h
   exact .inr ⟨h,fun h'=>r2 ⟨h,h'⟩⟩
  clear r2;obtain r1|⟨r1,r2⟩:=r3
  ·have q2:True:=trivial;have r2:True:=trivial;simp[r1,hR];have k83:=fun K'=>GA pre (post++([.aK 0 (bI iA us)]::[.aK 0 (bI iA en)]::(bx++[Qd e]))) (ls++exl) {b with rv:=rv,li:=sN,pm:=pm} e.it (by simp only;omega) cH mD hB.2.1 Y K';simp only[aR,bq,Qq,Qc,Qd]at k83;refine k83 _ fun D8 xH ey rt3 L ZY xI=>?_;clear k83;have YM:Bc {b with rv:=D8,li:=sN,pm:=pm}:=⟨ZX,ZY,hB.2.2⟩;have hLb:∀r∈L,0<=r.2/\r.2<=6000000000:=fun r hr=>uC r (xI.mem_iff.1 hr)
   have hLl:L.length<=1000000000:=by
    rw[xI.length_eq];have:=GB b.p e.it;omega
   have hfp:=xA en xI (max e.ea free);obtain⟨F,hF⟩:∃F,Uh en (Kq b.p e.it) (max e.ea free)=F:=⟨_,rfl⟩;rw[hF]at hfp
   have hFb:F<=9223372036854775807:=by
    rw[<- hF];refine xF he uC ?_ (by omega);have:=Ts e (zzac he1);omega
   have Tj:(if e.ea<free then free else e.ea)=max e.ea free:=by omega
   simp[Tj];refine Qi iM (akE pre post bx e (ls++(exl++ey)) {b with rv:=D8,li:=sN,pm:=pm} us en L F) (fun f _=>L.length-(numOf (f 90)).toNat) ?_ ?_
   ·exact⟨0,max e.ea free,xH,by simp,by omega,by simp,by rw[zzdb];exact hfp,by simp[aR,bq,Qq,Qc,Qd]⟩
   rintro g m ⟨j,fr,bx4,g90,hj,g17,Dh,rfl⟩;rcases zzaa j L.length with jlt|jge
   ·obtain⟨r,hr⟩:=aP jlt;have ZZ:=Zd hr;have Z0:(j:Int)<(L.length:Int):=by omega
    have w9:=bH j (by omega);rw[Xy hr,Uh]at Dh;have uq:=hLb r (zzac hr);rcases Xp iA r.1 en 0 with⟨v1,v2,_⟩|⟨v,nv,v1,v2,_⟩
    ·rw[v1]at Dh;simp[g90,g17,iM,Z0,ZZ,w9,aR,bq,Qq,Qc,Qd,v2];refine⟨aN,⟨j+1,fr,bx4++[Qe r],by simp,by omega,by simp,Dh,by simp[aR,bq,Qq,Qc,Qe,Qd]⟩,by omega⟩
    rw[v1]at Dh;have hvb:=he r.1 v v1;have hwv:IntKind.i64.wrap (v+r.2)=v+r.2:=by rw[Qk]<;>omega
    have hmv:(if fr<v+r.2 then v+r.2 else fr)=max fr (v+r.2):=by omega
    simp[g90,g17,iM,Z0,ZZ,w9,aR,bq,Qq,Qc,Qd,v2,hwv,hmv];refine⟨aN,⟨j+1,max fr (v+r.2),bx4++[Qe r],by simp,by omega,by simp,Dh,by simp[aR,bq,Qq,Qc,Qe,Qd]⟩,by omega⟩
   have jin:¬(j:Int)<(L.length:Int):=by omega
   rw[zzan jge]at Dh;have Dh:fr=F:=Dh;subst Dh;have k84:=fun K'=>OF pre (post++([.aK 0 (bI iA us)]::[.aK 0 (bI iA en)]::(bx++(Qd e::bx4)))) (ls++(exl++ey)) {b with rv:=D8,li:=sN,pm:=pm} e fr hc gH cH dx hFb hB.2.2 Y K';simp only[aR,bq,Qq,Qc,Qd]at k84;have hO':De 2 ls.length (ls++(exl++ey)) rt l:=by rw[<- zzba];exact hO.app
   rw[hF]at hg;simp[g90,g17,jin,iM,h39,aR,bq,Qq,Qc,Qd,GC];refine k84 _ fun Z1 IF anS=>?_;clear k84;have Z2:Bc {b with rv:=D8,li:=sN,pm:=Z1}:=⟨ZX,ZY,anS⟩;cases hs:Vz b.p e fr with
   |none=>
    rw[hs]at hg;have:=ry hg.symm D8 sN Z1 ([.aK 0 (bI iA us)]::[.aK 0 (bI iA en)]::(bx++(Qd e::(bx4++IF)))) (exl++ey) Z2;simp[Wz,rR];simpa[aR,bq,Qq,Qc,Qd]using this
   |some s=>
    rw[hs]at hg;simp only at hg
    have hg:ZW (l++[(id,s)]) (Uy b.p (ids.drop (i+1)) (Vr us e.it) (Zl b.p en e.it (s+e.fr)) (s+e.fr) k)=T:=by
     rw[<- hg];cases Uy b.p (ids.drop (i+1)) (Vr us e.it) (Zl b.p en e.it (s+e.fr)) (s+e.fr) k<;>simp[ZW]
    obtain⟨a1,a2,a3,a4,a5,a6,_⟩:=Qax hs;have hws:IntKind.i64.wrap (s+e.fr)=s+e.fr:=by rw[Qk]<;>omega
    have kn:=fun LS K'=>ZU pre post (bx++(Qd e::(bx4++IF))) LS {b with rv:=D8,li:=sN,pm:=Z1} us en e.it (s+e.fr) (fun k v h=>by have:=hu k v h;omega) Y K';simp only[aR,bq,Qq,Qc,Qd]at kn;have J6:=hu.note (by omega) e.it;have he2:tU (Zl b.p en e.it (s+e.fr)):=he.note e.it _ (by omega);have hN1:N+i+1=N+(i+1:Nat):=by omega
    rw[hN1]at J6;obtain⟨me,tH⟩|⟨k2,tH,cZ,dw,_⟩:=hO'
    ·subst tH;subst me;simp[Wz,hws];refine kn _ _ fun ex5=>?_;refine⟨aN,⟨i+1,Vr us e.it,Zl b.p en e.it (s+e.fr),s+e.fr,k,[(id,s)],.own (ls.length+(exl.length+ey.length)) 2,D8,sN,Z1,bx++(Qd e::(bx4++IF++ex5)),exl++(ey++[1]),by simp[hw],by omega,by simp,by simp,by simp[Qe],by simp at zn;simp[zn],by omega,by omega,J6,he2,.inr ⟨_,rfl,by omega,?_,by simp⟩,Z2,hg,?_⟩,by simp[hw];omega⟩
     ·have:(ls++(exl++(ey++[1])))=(ls++(exl++ey))++[1]:=by simp
      rw[this,zzal (by simp)];simp
     simp[aR,bq,Qq,Qc,Qd]
    subst tH;have A4:=(zza.1 dw).1;have bW:(ls++(exl++ey)).set k2 (l.length+1)=ls++(exl++ey).set (k2-ls.length) (l.length+1):=zzcq _ _ cZ;simp[Wz,hws,dw];refine⟨⟨?_,by omega⟩,kn _ _ fun ex5=>?_⟩
    ·rintro row (⟨a,b,_,rfl⟩|rfl)<;>rfl
    refine⟨aN,⟨i+1,Vr us e.it,Zl b.p en e.it (s+e.fr),s+e.fr,k,l++[(id,s)],.own k2 2,D8,sN,Z1,bx++(Qd e::(bx4++IF++ex5)),(exl++ey).set (k2-ls.length) (l.length+1),by simp[hw],by omega,by simp,by simp,by simp[Qe],by simp[zn],by omega,by omega,J6,he2,.inr ⟨k2,rfl,cZ,?_,by simp⟩,Z2,hg,?_⟩,by simp[hw];omega⟩
    ·rw[<- bW,zzaz A4];simp
    simp only[bW];simp[aR,bq,Qq,Qc,Qd]
  obtain⟨q2,rfl⟩|⟨n2,q2⟩:=atA
  all_goals
   simp[q2,r1,r2,hR];have k83:=fun K'=>GA pre (post++([.aK 0 (bI iA us)]::[.aK 0 (bI iA en)]::(bx++[Qd e]))) (ls++exl) {b with rv:=rv,li:=sN,pm:=pm} e.it (by simp only;omega) cH mD hB.2.1 Y K';simp only[aR,bq,Qq,Qc,Qd]at k83;refine k83 _ fun D8 xH ey rt3 L ZY xI=>?_;clear k83;have YM:Bc {b with rv:=D8,li:=sN,pm:=pm}:=⟨ZX,ZY,hB.2.2⟩;have hLb:∀r∈L,0<=r.2/\r.2<=6000000000:=fun r hr=>uC r (xI.mem_iff.1 hr)
   have hLl:L.length<=1000000000:=by
    rw[xI.length_eq];have:=GB b.p e.it;omega
   have hfp:=xA en xI (max e.ea free);obtain⟨F,hF⟩:∃F,Uh en (Kq b.p e.it) (max e.ea free)=F:=⟨_,rfl⟩;rw[hF]at hfp
   have hFb:F<=9223372036854775807:=by
    rw[<- hF];refine xF he uC ?_ (by omega);have:=Ts e (zzac he1);omega
   have Tj:(if e.ea<free then free else e.ea)=max e.ea free:=by omega
   simp[Tj];refine Qi iM (akE pre post bx e (ls++(exl++ey)) {b with rv:=D8,li:=sN,pm:=pm} us en L F) (fun f _=>L.length-(numOf (f 90)).toNat) ?_ ?_
   ·exact⟨0,max e.ea free,xH,by simp,by omega,by simp,by rw[zzdb];exact hfp,by simp[aR,bq,Qq,Qc,Qd]⟩
   rintro g m ⟨j,fr,bx4,g90,hj,g17,Dh,rfl⟩;rcases zzaa j L.length with jlt|jge
   ·obtain⟨r,hr⟩:=aP jlt;have ZZ:=Zd hr;have Z0:(j:Int)<(L.length:Int):=by omega
    have w9:=bH j (by omega);rw[Xy hr,Uh]at Dh;have uq:=hLb r (zzac hr);rcases Xp iA r.1 en 0 with⟨v1,v2,_⟩|⟨v,nv,v1,v2,_⟩
    ·rw[v1]at Dh;simp[g90,g17,iM,Z0,ZZ,w9,aR,bq,Qq,Qc,Qd,v2];refine⟨aN,⟨j+1,fr,bx4++[Qe r],by simp,by omega,by simp,Dh,by simp[aR,bq,Qq,Qc,Qe,Qd]⟩,by omega⟩
    rw[v1]at Dh;have hvb:=he r.1 v v1;have hwv:IntKind.i64.wrap (v+r.2)=v+r.2:=by rw[Qk]<;>omega
    have hmv:(if fr<v+r.2 then v+r.2 else fr)=max fr (v+r.2):=by omega
    simp[g90,g17,iM,Z0,ZZ,w9,aR,bq,Qq,Qc,Qd,v2,hwv,hmv];refine⟨aN,⟨j+1,max fr (v+r.2),bx4++[Qe r],by simp,by omega,by simp,Dh,by simp[aR,bq,Qq,Qc,Qe,Qd]⟩,by omega⟩
   have jin:¬(j:Int)<(L.length:Int):=by omega
   rw[zzan jge]at Dh;have Dh:fr=F:=Dh;subst Dh;have k84:=fun K'=>OF pre (post++([.aK 0 (bI iA us)]::[.aK 0 (bI iA en)]::(bx++(Qd e::bx4)))) (ls++(exl++ey)) {b with rv:=D8,li:=sN,pm:=pm} e fr hc gH cH dx hFb hB.2.2 Y K';simp only[aR,bq,Qq,Qc,Qd]at k84;have hO':De 2 ls.length (ls++(exl++ey)) rt l:=by rw[<- zzba];exact hO.app
   rw[hF]at hg;simp[g90,g17,jin,iM,h39,aR,bq,Qq,Qc,Qd,GC];refine k84 _ fun Z1 IF anS=>?_;clear k84;have Z2:Bc {b with rv:=D8,li:=sN,pm:=Z1}:=⟨ZX,ZY,anS⟩;cases hs:Vz b.p e fr with
   |none=>
    rw[hs]at hg;have:=ry hg.symm D8 sN Z1 ([.aK 0 (bI iA us)]::[.aK 0 (bI iA en)]::(bx++(Qd e::(bx4++IF)))) (exl++ey) Z2;simp[Wz,rR];simpa[aR,bq,Qq,Qc,Qd]using this
   |some s=>
    rw[hs]at hg;simp only at hg
    have hg:ZW (l++[(id,s)]) (Uy b.p (ids.drop (i+1)) (Vr us e.it) (Zl b.p en e.it (s+e.fr)) (s+e.fr) k)=T:=by
     rw[<- hg];cases Uy b.p (ids.drop (i+1)) (Vr us e.it) (Zl b.p en e.it (s+e.fr)) (s+e.fr) k<;>simp[ZW]
    obtain⟨a1,a2,a3,a4,a5,a6,_⟩:=Qax hs;have hws:IntKind.i64.wrap (s+e.fr)=s+e.fr:=by rw[Qk]<;>omega
    have kn:=fun LS K'=>ZU pre post (bx++(Qd e::(bx4++IF))) LS {b with rv:=D8,li:=sN,pm:=Z1} us en e.it (s+e.fr) (fun k v h=>by have:=hu k v h;omega) Y K';simp only[aR,bq,Qq,Qc,Qd]at kn;have J6:=hu.note (by omega) e.it;have he2:tU (Zl b.p en e.it (s+e.fr)):=he.note e.it _ (by omega);have hN1:N+i+1=N+(i+1:Nat):=by omega
    rw[hN1]at J6;obtain⟨me,tH⟩|⟨k2,tH,cZ,dw,_⟩:=hO'
    ·subst tH;subst me;simp[Wz,hws];refine kn _ _ fun ex5=>?_;refine⟨aN,⟨i+1,Vr us e.it,Zl b.p en e.it (s+e.fr),s+e.fr,k,[(id,s)],.own (ls.length+(exl.length+ey.length)) 2,D8,sN,Z1,bx++(Qd e::(bx4++IF++ex5)),exl++(ey++[1]),by simp[hw],by omega,by simp,by simp,by simp[Qe],by simp at zn;simp[zn],by omega,by omega,J6,he2,.inr ⟨_,rfl,by omega,?_,by simp⟩,Z2,hg,?_⟩,by simp[hw];omega⟩
     ·have:(ls++(exl++(ey++[1])))=(ls++(exl++ey))++[1]:=by simp
      rw[this,zzal (by simp)];simp
     simp[aR,bq,Qq,Qc,Qd]
    subst tH;have A4:=(zza.1 dw).1;have bW:(ls++(exl++ey)).set k2 (l.length+1)=ls++(exl++ey).set (k2-ls.length) (l.length+1):=zzcq _ _ cZ;simp[Wz,hws,dw];refine⟨⟨?_,by omega⟩,kn _ _ fun ex5=>?_⟩
    ·rintro row (⟨a,b,_,rfl⟩|rfl)<;>rfl
    refine⟨aN,⟨i+1,Vr us e.it,Zl b.p en e.it (s+e.fr),s+e.fr,k,l++[(id,s)],.own k2 2,D8,sN,Z1,bx++(Qd e::(bx4++IF++ex5)),(exl++ey).set (k2-ls.length) (l.length+1),by simp[hw],by omega,by simp,by simp,by simp[Qe],by simp[zn],by omega,by omega,J6,he2,.inr ⟨k2,rfl,cZ,?_,by simp⟩,Z2,hg,?_⟩,by simp[hw];omega⟩
    ·rw[<- bW,zzaz A4];simp
    simp only[bW];simp[aR,bq,Qq,Qc,Qd]
 have bJ:¬(i:Int)<(ids.length:Int):=by omega
 rw[zzan bw,Uy]at hg;have hg:some (l++[])=T:=hg;rw[zzat]at hg;have:=hK1 l hg.symm rv li pm ([.aK 0 (bI iA us)]::[.aK 0 (bI iA en)]::bx) exl rt hB hO;simp[h39,h8,h9,kS,bJ,uU,rR];simpa[aR,bq,Qq,Qc]using this
open Go Go.Abs
def af4(l:List Int)(hl:l.length<=1000000000):Pure Tryz.prog aq 93 [.sl .ro (l.map Qy)] (.sl .ro (l.map Qy)):=by
 cases l with
 |nil=>
  refine Vk (Qz (?_:Pure Tryz.prog aq 93 [.sl .nil []] (.sl .nil [])) (Wk.sl _ _)) ?_
  ·refine Qn qu (fun _ _ _=>.junk) (by simp) ?_;simp[I5,I6]
  refine Qn qu (fun _ _ _=>.junk) (by simp) ?_;simp[I5,I6]
 |cons x r=>
  refine Qn qu (fun _ _ _=>.junk) (by simp) ?_;simp[I5,I6,Qy];simp at hl;omega
def Be{α:Type}(c:List α)(i:Nat)(h:i<c.length):(c.take i++c.drop (i+1)).length+1=c.length:=by
 simp;omega
def GD(ok:List Int->Bool)(c:List Int)(i:Nat):List Int:=
 if h:i<c.length then(if ok (c.take i++c.drop (i+1))=true then GD ok c (i+1)else GD ok (c.take i++c.drop (i+1)) i)else c
termination_by c.length-i
decreasing_by
 ·omega
 have:=Be c i h;omega
def om(b:Bd)(ids:List Int):Bool:=(Uy b.p ids b.us b.en b.at_ (-1)).isSome
def nO(b:Bd)(ids:List Int):List Int:=if om b ids=true then[]else GD (om b) ids 0
def atB(pre post:List (List AV))(ls:List Nat)(b:Bd)(N:Nat)(T:List Int)(f:Nat->AV)(m:AM):Prop:=
 ∃(i:Nat)(c:List Int)(rv:List (Int×(Rt×List Sp)))(li:List (Int×Int))(pm:List ((Int×Int)×List Sp))(ex:List (List AV))(exl:List Nat),
  f 7=.sl .ro (c.map Qy)/\f 8=I i/\i<=c.length/\c.length<=N/\GD (om b) c i=T/\Bc {b with rv:=rv,li:=li,pm:=pm}/\m=aR pre {b with rv:=rv,li:=li,pm:=pm} (post++ex) (ls++exl)
def Z3(ids:List Int):Nat->FuncId->List AV->AV:=fun _ f l=>if f=122 then .gd false .junk else if f=93 then .sl .ro (ids.map Qy)else
 (match l with|[.sl _ [[.sl _ a],[.sl _ c]]]=>.sl .ro (a++c)|_=>.junk)
def Lw(pre post:List (List AV))(ls:List Nat)(b:Bd)(ids:List Int)(rt0:Rt)(h85:∀m,Abs.Pure Tryz.prog aq 93 [bF m 6 (.sl rt0 (ids.map Qy))] (.sl .ro (ids.map Qy)))(N:Int)(hN:0<=N/\N<=100000000)(atz:ids.length<=100000000)
  (hc:b.p.cls.length<=1000000)(gH:b.p.sh.length<=1000000000)(cH:b.p.aL.length<=1000000000)(Iy:b.p.ens.length<=1000000000)(mD:(Yy b.p).length<=1000000000)(dx:b.p.ln<=9223372036854775807)(Ts:∀e∈b.p.ens,e.ea<=9223372036854775807)
  (S8:b.at_<=9223372036854775807)(hus:pL N b.us)(af3:tU b.en)(sB:Bc b)(Y:YT)(K:AV->AM->Prop)
  (hK:∀rv li pm ex exl,Bc {b with rv:=rv,li:=li,pm:=pm}->K (.sl (if om b ids=true then .nil else .ro) ((nO b ids).map Qy)) (aR pre {b with rv:=rv,li:=li,pm:=pm} (post++ex) (ls++exl))):
  an Tryz.prog aq Y 123 [.ptr (pre.length+9) 0,.sl rt0 (ids.map Qy)] (aR pre b post ls) K:=by
 refine Xe acJ (Z3 ids) (by simp) ?_;simp[T3,aR,bq,Qq,Qc,Z3];have k42:=fun K'=>Qdt pre post ls b ids rt0 N hN atz hc gH cH Iy mD dx Ts S8 hus af3 sB Y K';simp only[aR,bq,Qq,Qc]at k42;refine k42 _ (fun h0 rv li pm ex exl hB=>?_) (fun l h1 rv li pm ex exl rt hB hO=>?_)
 ·have bT:om b ids=false:=by simp[om,h0]
  simp;refine⟨h85 _,?_⟩;refine Qi I9 (atB pre post ls b ids.length (nO b ids)) (fun f _=>(match f 7 with|.sl _ c=>c.length|_=>0)-(numOf (f 8)).toNat) ?_ ?_
  ·exact⟨0,ids,rv,li,pm,ex,exl,by simp,by simp,by omega,by omega,by simp[nO,bT],hB,by simp[aR,bq,Qq,Qc]⟩
  rintro f m ⟨i,c,rv,li,pm,ex,exl,h7,h8,hi,qj,hT,hB,rfl⟩;rcases zzaa i c.length with ai|bw
  ·have ah:(i:Int)<(c.length:Int):=by omega
   have hw:=bH i (by omega);simp[h7,h8,ah,I9,aR,bq,Qq,Qc,Z3,hw];have eA:List.take i (List.map Qy c)=(c.take i).map Qy:=by simp
   have eB:List.take (c.length-(i+1)) (List.drop (i+1) (List.map Qy c))=(c.drop (i+1)).map Qy:=by
    rw[zzam (by simp)];simp
   rw[eA,eB,<- zzbw];have k86:=ZO [(.ro,c.take i),(.ro,c.drop (i+1))] (by simp) (by simp) (by simp;omega);have Iv:=Be c i ai;rw[GD,dif_pos ai]at hT;have gr:(List.map (fun x:Rt×List Int=>x.2) [(Rt.ro,c.take i),(Rt.ro,c.drop (i+1))]).flatten=c.take i++c.drop (i+1):=by simp
   rw[gr]at k86;obtain⟨o,ho⟩:∃o,c.take i++c.drop (i+1)=o:=⟨_,rfl⟩;rw[ho]at k86 Iv hT |-
   refine⟨⟨by omega,fun _ _=>rfl⟩,⟨by omega,fun _ _=>rfl⟩,k86,?_⟩;have k42:=fun K'=>Qdt pre (post++ex) (ls++exl) {b with rv:=rv,li:=li,pm:=pm} o .ro N hN (by omega) hc gH cH Iy mD dx Ts S8 hus af3 hB Y K';simp only[aR,bq,Qq,Qc]at k42;refine k42 _ (fun h0 rv2 sN OG eD anT oZ=>?_) (fun l h1 rv2 sN OG eD anT rt oZ hO=>?_)
   ·have bT:om b o=false:=by simp only[om];rw[h0];rfl
    rw[bT]at hT;have hT:GD (om b) o i=nO b ids:=hT;simp;refine⟨aN,⟨i,o,rv2,sN,OG,ex++eD,exl++anT,by simp,by simp,by omega,by omega,hT,oZ,by simp[aR,bq,Qq,Qc]⟩,?_⟩
    ·rw[zzgv (Nat.le_of_lt ai),zzdn];exact Nat.sub_lt_sub_left ai (Nat.lt_succ_self i)
   have bT:om b o=true:=by simp only[om];rw[h1];rfl
   rw[bT]at hT;have hT:GD (om b) c (i+1)=nO b ids:=hT;simp;refine⟨aN,⟨i+1,c,rv2,sN,OG,ex++eD,exl++anT,by simp,by simp,by omega,by omega,hT,oZ,by simp[aR,bq,Qq,Qc]⟩,by omega⟩
  have bJ:¬(i:Int)<(c.length:Int):=by omega
  rw[GD,dif_neg (by omega)]at hT;have:=hK rv li pm ex exl hB;rw[<- hT,bT,if_neg (by simp)]at this;simp[h7,h8,bJ,I9,T4];simpa[aR,bq,Qq,Qc]using this
 have bT:om b ids=true:=by simp[om,h1]
 have:=hK rv li pm ex exl hB;rw[bT,if_pos rfl]at this;simp[T4];simpa[aR,bq,Qq,Qc,nO,bT]using this
open Go Go.Abs
def Ud(p:Pl):List Int:=p.ens.map fun e=>e.id
def IG(p:Pl):Bd:=⟨p,0,[],[],[],[],[]⟩
def II(l:List Sp):AV:=if l=[]then .sl .nil []else .sl .ro (l.map Qe)
def RJ(p:Pl):AV:=if qp p=false then .aU [.sl .nil [],.sl .nil [],I 80]else match Uy p (Ud p) [] [] 0 (-1)with
 |some l=>.aU [II l,.sl .nil [],I 0]
 |none=>.aU [.sl .nil [],.sl .ro ((nO (IG p) (Ud p)).map Qy),I 90]
def Bf(p:Pl):Nat->FuncId->List AV->AV:=fun _ f _=>if f=999999 then .junk else if f=120 then .bool (qp p)else .gd false .junk
def atC(p:Pl)(f:Nat->AV)(m:AM):Prop:=∃(i:Nat)(rt:Rt)(ls:List Nat)(bx:List (List AV)),f 17=I i/\i<=p.ens.length/\f 5=.sl rt ((Ud p).take i |>.map Qy)/\De 1 0 ls rt ((Ud p).take i)/\m=⟨Qc p::bx,ls,fun _=>.gone,0⟩
def pM:∀(l:List It)(a:List (Int×It))(s:List (Int×Int)),(zG l a s).length<=s.length+l.length
 |[],a,s=>by simp[zG]
 |x::r,a,s=>by
  rw[zG];cases af x.id a with
  |some _=>
   have:=pM r a s;simp only[zzbd];omega
  |none=>
   have h:=pM r (Zt x.id x a) (if 1<=x.sp/\x.sp<=200 then Zt x.sp x.id s else s)
   have h2:(if 1<=x.sp/\x.sp<=200 then Zt x.sp x.id s else s).length<=s.length+1:=by
    split
    ·exact Gp _ _ _
    omega
   simp only[zzbd];omega
def anU(p:Pl):Bc (IG p):=⟨fun _ _ h=>(by cases h),fun _ _ h=>(by cases h),fun _ _ h=>(by cases h)⟩
def RK(p:Pl)(hs:PlS p)(hc:p.cls.length<=1000000)(Iy:p.ens.length<=10000000)(dx:p.ln<=9223372036854775807)(Ts:∀e∈p.ens,e.ea<=9223372036854775807):Pure Tryz.prog aq 60 [.agg (Qc p)] (RJ p):=by
 have k22:=Wq p hs;obtain⟨l1,l2,l3,l4,l5,l6⟩:=hs
 have mD:(Yy p).length<=1000000000:=by
  have:=pM p.aL [] [];simp only[Yy]at*
  simp at this;omega
 refine Qn alS (Bf p) (by simp) ?_;cases hv:qp p with
 |false=>
  rw[hv]at k22;have:RJ p=.aU [.sl .nil [],.sl .nil [],I 80]:=by rw[RJ,if_pos hv]
  rw[this];simp[alR,TP,Qc,Bf,hv];simpa[Qc]using k22
 |true=>
  rw[hv]at k22;simp[alR,Qc,Bf,hv];refine⟨by simpa[Qc]using k22,?_⟩;refine Qi MT (atC p) (fun f _=>p.ens.length-(numOf (f 17)).toNat) ?_ ?_
  ·exact⟨0,.nil,[],[],by simp,by omega,by simp,.inl ⟨by simp,rfl⟩,by simp[Qc]⟩
  rintro f m ⟨i,rt,ls,bx,h17,hi,h5,hO,rfl⟩;rcases zzaa i p.ens.length with ai|bw
  ·obtain⟨e,he⟩:=aP ai;have aa:=Qcv he;have ah:(i:Int)<(p.ens.length:Int):=by omega
   have hw:=bH i (by omega);have bA:(Ud p).take (i+1)=(Ud p).take i++[e.id]:=by rw[zzar];simp[Ud,he]
   have qQ:((Ud p).take i).length=i:=by simp[Ud];omega
   obtain⟨S,hS⟩:∃S,(Ud p).take i=S:=⟨_,rfl⟩;rw[hS]at h5 hO bA qQ;obtain⟨rfl,rfl⟩|⟨k,rfl,cZ,dw,A4⟩:=hO
   ·simp[h17,h5,ah,aa,Qd,Qc,Bf,MT,hw];refine⟨aN,⟨i+1,.own ls.length 1,ls++[1],bx++[Qd e],by simp,by omega,by rw[bA];simp[Qy],.inr ⟨_,rfl,by omega,by rw[bA];simp,by rw[bA];simp⟩,by simp[Qc,Qd]⟩,by omega⟩
   have Ol:=(zza.1 dw).1;simp[h17,h5,ah,aa,Qd,Qc,Bf,MT,hw,dw];refine⟨⟨?_,by omega⟩,aN,⟨i+1,.own k 1,ls.set k (S.length+1),bx++[Qd e],by simp,by omega,by rw[bA];simp[Qy],.inr ⟨_,rfl,by omega,by rw[bA];simp[Ol],by rw[bA];simp⟩,by simp[Qc,Qd]⟩,by omega⟩
   ·rintro row (⟨a,_,rfl⟩|rfl)<;>rfl
  have bJ:¬(i:Int)<(p.ens.length:Int):=by omega
  have qQ:(Ud p).take i=Ud p:=zzam (by simp[Ud];omega);rw[qQ]at h5 hO;have aO:(Ud p).length<=10000000:=by simp[Ud];omega
  have k41:=fun K'=>xE (Qc p::bx) ls p 0 [] .nil (by omega) l2 (by simp) Y0 K';simp only[Qc,zzce]at k41;simp[h17,h5,bJ,MT,Qc,Bf];refine k41 _ fun ex=>?_;clear k41
  have h85:∀m,Abs.Pure Tryz.prog aq 93 [bF m 6 (.sl rt ((Ud p).map Qy))] (.sl .ro ((Ud p).map Qy)):=fun m=>by
   have kc:=af4 (Ud p) (by omega);obtain⟨h1,rfl⟩|⟨k,rfl,_⟩:=hO
   ·exact Zj kc ⟨Wk.sl _ _,trivial⟩
   exact kc
  simp;refine Qdt (Qc p::bx) ex ls (IG p) (Ud p) rt 0 (by omega) (by omega) hc l1 l2 l3 mD dx Ts (by simp[IG]) (fun _ _ h=>(by cases h)) (fun _ _ h=>(by cases h)) (anU p) Y0 _ (fun h0 rv li pm eD exl hB=>?_) (fun l h1 rv li pm eD exl JX hB F7=>?_)
  ·have h0:Uy p (Ud p) [] [] 0 (-1)=none:=h0;have hr:RJ p=.aU [.sl .nil [],.sl .ro ((nO (IG p) (Ud p)).map Qy),I 90]:=by rw[RJ,if_neg (by simp[hv]),h0]
   have bT:om (IG p) (Ud p)=false:=by show(Uy p (Ud p) [] [] 0 (-1)).isSome=false;rw[h0];rfl
   rw[hr];simp;refine Lw (Qc p::bx) (ex++eD) (ls++exl) {IG p with rv:=rv,li:=li,pm:=pm} (Ud p) rt h85 0 (by omega) (by omega) hc l1 l2 l3 mD dx Ts (by simp[IG]) (fun _ _ h=>(by cases h)) (fun _ _ h=>(by cases h)) hB Y0 _ (fun D8 li3 pm3 xH ey YM=>?_);have ax6:om {IG p with rv:=rv,li:=li,pm:=pm} (Ud p)=false:=bT;have qI:nO {IG p with rv:=rv,li:=li,pm:=pm} (Ud p)=nO (IG p) (Ud p):=rfl;rw[ax6,qI,if_neg (by simp)];simp[TP]
  have h1:Uy p (Ud p) [] [] 0 (-1)=some l:=h1;have hr:RJ p=.aU [II l,.sl .nil [],I 0]:=by rw[RJ,if_neg (by simp[hv]),h1]
  rw[hr];obtain⟨rfl,rfl⟩|⟨k2,rfl,_,_,aJ⟩:=F7
  ·simp[TP,II]
  simp[TP,II,aJ]
end Go.Proofs.YtnopaopphmjnmaaGreatDoor
