import Derived.Test.YtnopaopphmjnmaaGreatDoorMLMS
set_option linter.all false
set_option maxRecDepth 100000
set_option maxHeartbeats 64000000
namespace Go.Proofs.YtnopaopphmjnmaaGreatDoor
open Go Go.Abs
def Gx{l:List Nat}{n:Nat}(h:l.Nodup)(hb:∀i∈l,i<n):l.length<=n:=by
 have hp:l.Perm ((List.range n).filter fun i=>decide (i∈l)):=by
  rw[zzgn h (zzdt.filter _)];intro i;simp only[zzck,zzbf,decide_eq_true_eq];exact⟨fun hi=>⟨hb i hi,hi⟩,fun hi=>hi.2⟩
 rw[hp.length_eq];refine zzbn (zzbr _ _) ?_;simp
def OA(id:Nat)(m:AM):Nat:=match Qh m.boxes id with
 |[.mitr _ _ s]=>s.length
 |_=>0
def afF{α:Type}{row:α->AV}{L:List (Int×α)}{i:Nat}{k:List Int}{c:AV}(h:(bH row L)[i]?=some (k,c)):∃o x,L[i]?=some (o,x)/\k=[o]/\c=row x/\(bH row L).getD i ([],.junk)=([o],row x)/\i<L.length:=by
 have hg:(bH row L).getD i ([],.junk)=(k,c):=by rw[zzar,h];rfl
 rw[bH,zzbl]at h;cases hL:L[i]? with
 |none=>rw[hL]at h;cases h
 |some y=>
  rw[hL]at h;cases h;exact⟨y.1,y.2,rfl,rfl,rfl,hg,(zza.1 hL).1⟩
def Ln(p:Pl)(it:Int)(L:List (Int×Int))(o x:Int):xO p it (L++[(o,x)])=if 0<Ke p x it then xO p it L++[(o,Ke p x it)]else xO p it L:=by
 unfold xO;rw[List.filterMap_append];by_cases h:0<Ke p x it
 ·rw[if_pos h];simp[h]
 rw[if_neg h];simp[h]
def Gy{m:AM}{K:AV->AM->Prop}{id mid n kn:Nat}{seen:List Nat}{kvs:List (List Int×AV)}(h1:Qh m.boxes id=[.mitr mid n seen])(h2:Qh m.boxes mid=[.aJ kn kvs])(h:kvs.length=n)
  (hs:∀i k c,kvs[i]?=some (k,c)->i ∉ seen->K (.aW [.bool true,keyAV kn k,c]) {m with boxes:=m.boxes.set id [.mitr mid n (seen++[i])]})(he:(∀i,i<n->i∈seen)->K (.aW [.bool false]) m):vcNxt m K (.it id):=by
 simp only[vcNxt,Vn,h1,h2];exact⟨h,hs,he⟩
def OB(p:Pl)(it:Int):Nat->FuncId->List AV->AV:=fun _ f l=>if f=274 then(match l with|[_,.int _ x,_]=>I (Ke p x it)|_=>.junk)else .junk
def asC(pre:List (List AV))(b:Bd)(post:List (List AV))(ls:List Nat)(it:Int)(f:Nat->AV)(m:AM):Prop:=∃(seen:List Nat)(l:List Sp)(rt:Rt)(exl:List Nat),
 seen.Nodup/\(∀i∈seen,i<(Ub b.p).length)/\l=xO b.p it (atL (0,0) (Ub b.p) seen)/\f 8=.sl rt (l.map Qe)/\(l=[]/\rt=.nil/\exl=[]\/l≠[]/\rt=.own ls.length 2/\exl=[l.length])/\
 m=aP pre b (post++[[.mitr (pre.length+3) (Ub b.p).length seen]]) (ls++exl)
def Gz(pre post:List (List AV))(ls:List Nat)(b:Bd)(it:Int)(hc:b.p.cls.length<=1000000000)(cm:b.p.aL.length<=1000000000)(mN:(Ub b.p).length<=1000000000)(IM:aft b)(Y:YT)(K:AV->AM->Prop)
  (hK:∀(rv:List (Int×(Rt×List Sp)))(ex:List (List AV))(exl:List Nat)(rt:Rt)(l:List Sp),aft {b with rv:=rv}->l.Perm (Kt b.p it)->K (.sl rt (l.map Qe)) (aP pre {b with rv:=rv} (post++ex) (ls++exl))):
  an Tryz.prog az Y 200 [.ptr (pre.length+9) 0,I it] (aP pre b post ls) K:=by
 have nil:Kt b.p it=[]->K (.sl .nil []) (aP pre b post ls):=fun h=>by
  have:=hK b.rv [] [] .nil [] IM (by rw[h]);simpa using this
 refine Xe adg (OB b.p it) (by simp) ?_
 have awY:∃r,Xj [it] (bH rG (zQ b.p)) 0=r/\((∃n y,Xh it b.p.aL=some y/\r=some (n,rG y))\/(Xh it b.p.aL=none/\r=none)):=by
  rcases Xr rG it (zQ b.p) 0 with⟨h1,h2,_,_⟩|⟨u,n,h1,h2,_⟩
  ·rw[uI]at h1;exact⟨_,rfl,.inr ⟨h1,h2⟩⟩
  rw[uI]at h1;exact⟨_,rfl,.inl ⟨_,u,h1,h2⟩⟩
 obtain⟨r,hr,RA⟩:=awY;obtain⟨n,y,hf,rfl⟩|⟨hf,rfl⟩:=RA
 ·rcases Xr iA y.sp (Ub b.p) 0 with⟨s1,s2,_,_⟩|⟨su,sn,s1,s2,_⟩
  ·simp[Ah,EE,aP,aU,Qp,Qb,hr,rG,Qm,s2];exact nil (by simp[Kt,hf,s1])
  have hrl:Kt b.p it=xO b.p it (Ub b.p):=by simp[Kt,hf,s1,xO]
  rcases Xr rvA y.sp b.rv 0 with⟨m1,m2,_,m4⟩|⟨mu,mn,m1,m2,_⟩
  ·simp[Ah,aP,aU,Qp,Qb,hr,rG,Qm,s2,m2];refine Qi vq (asC pre b post ls it) (fun _ m=>(Ub b.p).length-OA (pre.length+(post.length+10)) m) ?_ ?_
   ·exact⟨[],[],.nil,[],List.nodup_nil,by simp,rfl,by simp,.inl ⟨rfl,rfl,rfl⟩,by simp[aP,aU,Qp,Qb]⟩
   rintro f m ⟨seen,l,rt,exl,hn,hb,hl,h8,aR,rfl⟩;have gP:seen.length<=(Ub b.p).length:=Gx hn hb;simp[-vcNxt,aP,aU,Qp,Qb,vq];refine Gy (mid:=pre.length+3) (n:=(Ub b.p).length) (kn:=0) (seen:=seen) (kvs:=bH iA (Ub b.p)) ?_ ?_ ?_ (fun i k c hi hns=>?_) fun bR=>?_
   ·simp
   ·simp
   ·simp
   ·obtain⟨o,x,hx,rfl,rfl,Wc,ai⟩:=afF hi
    have bu:(bH iA (Ub b.p))[i]'(by simpa using ai)=([o],iA x):=by
     have:=zza.1 hi;exact this.2
    have am1:=amY b.p x it hc cm;have si:(seen++[i]).Nodup:=List.nodup_append.2 ⟨hn,by simp,fun a ha c hc=>by simp at hc;subst hc;rintro rfl;exact hns ha⟩
    have cH:∀j∈seen++[i],j<(Ub b.p).length:=fun j hj=>by
     rcases zzao.1 hj with h|h
     ·exact hb j h
     simp at h;subst h;exact ai
    have ck:seen.length+1<=(Ub b.p).length:=by simpa using Gx si cH
    have hxo:(Ub b.p).getD i (0,0)=(o,x):=by rw[zzar,hx];rfl
    have Tf:atL (0,0) (Ub b.p) (seen++[i])=atL (0,0) (Ub b.p) seen++[(o,x)]:=by
     simp only[atL,zzc,zzaz,zzcf,hxo]
    have Fa:=Ln b.p it (atL (0,0) (Ub b.p) seen) o x;rw[<- Tf,<- hl]at Fa;by_cases hg:0<Ke b.p x it
    ·rw[if_pos hg]at Fa
     have wI:l.length<=(Ub b.p).length:=by
      rw[hl];refine zzbn (zzh _ _) ?_;simp only[atL,zzbg];exact gP
     obtain⟨rfl,rfl,rfl⟩|⟨oy,rfl,rfl⟩:=aR
     ·simp[keyAV,hi,bu,ai,OB,hg,h8,vq,OA];refine⟨by simpa[Qb]using am1,aO,⟨seen++[i],_,_,[1],si,cH,rfl,by simp[Fa,Qe],.inr ⟨by simp[Fa],rfl,by simp[Fa]⟩,by simp[aP,aU,Qp,Qb]⟩,by omega⟩
     simp[keyAV,hi,bu,ai,OB,hg,h8,vq,OA];refine⟨by simpa[Qb]using am1,⟨?_,by omega⟩,aO,⟨seen++[i],_,_,[l.length+1],si,cH,rfl,by simp[Fa,Qe],.inr ⟨by simp[Fa],rfl,by simp[Fa]⟩,by simp[aP,aU,Qp,Qb]⟩,by omega⟩
     ·rintro row (⟨a,b,_,rfl⟩|rfl)<;>rfl
    rw[if_neg hg]at Fa;simp[keyAV,hi,bu,ai,OB,hg,h8,vq,OA];refine⟨by simpa[Qb]using am1,aO,⟨seen++[i],l,rt,exl,si,cH,Fa.symm,by simp[h8],aR,by simp[aP,aU,Qp,Qb]⟩,by omega⟩
   have hpm:l.Perm (Kt b.p it):=by
    rw[hl,hrl];exact(afu _ _ _ hn bR hb).filterMap _
   have awZ:aft {b with rv:=Zq y.sp (rt,l) b.rv}:=fun k x h it' y' hf' dy=>by
    rw[Yc]at h;split at h
    ·rename_i e;cases h;rw[afw hf' hf (by rw[dy,e])];exact hpm
    exact IM k x h it' y' hf' dy
   have:=hK _ [[.mitr (pre.length+3) (Ub b.p).length seen]] exl rt l awZ hpm;have m4':bH rvA b.rv++[([y.sp],.sl rt (l.map Qe))]=bH rvA (Zq y.sp (rt,l) b.rv):=m4 (rt,l);simp[h8,m2,EE];rw[m4'];simpa[aP,aU,Qp,Qb]using this
  simp[Ah,EE,aP,aU,Qp,Qb,hr,rG,Qm,s2,m2,rvA];have:=hK b.rv [] [] mu.1 mu.2 IM (IM _ _ m1 it y hf rfl);simpa[aP,aU,Qp,Qb]using this
 have s2:Xj [0] (bH iA (Ub b.p)) 0=none:=by
  rcases Xr iA 0 (Ub b.p) 0 with⟨_,s2,_,_⟩|⟨su,sn,s1,_⟩
  ·exact s2
  rw[Ub,xP _ _ _ rfl]at s1;cases s1
 simp[Ah,EE,aP,aU,Qp,Qb,hr,s2];exact nil (by simp[Kt,hf])
open Go Go.Abs
def zS(pre:List (List AV))(p:Pl)(at_:Int)(pl:List (Int×Int))(im:List (Int×It))(sp:List (Int×Int))(post:List (List AV))(ls:List Nat):AM:=
 ⟨pre++(Qb p::[.aJ 0 (bH iA pl)]::[.aJ 0 (bH rG im)]::[.aJ 0 (bH iA sp)]::[.aJ 0 []]::[.aJ 0 []]::[.aJ 0 []]::[.aJ 0 []]::[.aJ 2 []]::Qp pre.length ⟨p,at_,[],[],[],[],[]⟩::post),ls,fun _=>.gone,0⟩
def aw0(pre:List (List AV))(p:Pl)(at_:Int)(ls:List Nat)(f:Nat->AV)(m:AM):Prop:=∃(i:Nat)(pl:List (Int×Int))(post:List (List AV)),f 36=I i/\i<=p.ens.length/\Gn (p.ens.drop i) i pl=Dj p/\m=zS pre p at_ pl [] [] post ls
def aw1(pre:List (List AV))(p:Pl)(at_:Int)(ls:List Nat)(f:Nat->AV)(m:AM):Prop:=∃(i:Nat)(im:List (Int×It))(sp:List (Int×Int))(post:List (List AV)),f 67=I i/\i<=p.aL.length/\Lg (p.aL.drop i) im=zQ p/\zP (p.aL.drop i) im sp=Ub p/\m=zS pre p at_ (Dj p) im sp post ls
def aw2(pre:List (List AV))(p:Pl)(at_:Int)(past:List Ad)(ls:List Nat)(f:Nat->AV)(m:AM):Prop:=∃(i:Nat)(us en:List (Int×Int))(post:List (List AV)),f 108=I i/\i<=past.length/\pU i us/\Oq (past.drop i) us=Oq past []/\Ot p (past.drop i) en=Ot p past []/\m=aP pre ⟨p,at_,us,en,[],[],[]⟩ post ls
def IN:Nat->FuncId->List AV->AV:=fun _ f _=>if f=999999 then .junk else .gd false .junk
def xR(pre:List (List AV))(ls:List Nat)(p:Pl)(at_:Int)(past:List Ad)(rtp:Rt)(II:p.ens.length<=1000000000)(cm:p.aL.length<=1000000000)(iX:past.length<=1000000000)(Y:YT)(K:AV->AM->Prop)
  (hK:∀ex,K (.ptr (pre.length+9) 0) (aP pre ⟨p,at_,Oq past [],Ot p past [],[],[],[]⟩ ex ls)):
  an Tryz.prog az Y 121 [.agg (Qb p),I at_,.sl rtp (past.map Vi)] ⟨pre,ls,fun _=>.gone,0⟩ K:=by
 refine Xe acu IN (by simp) ?_;simp[Er,Qb,IN];refine Qi BR (aw0 pre p at_ ls) (fun f _=>p.ens.length-(numOf (f 36)).toNat) ?_ ?_
 ·exact⟨0,[],[],by simp,by omega,rfl,by simp[zS,Qp,Qb]⟩
 rintro f m ⟨i,pl,post,h36,hi,gG,rfl⟩;rcases zzaa i p.ens.length with ai|bu
 ·obtain⟨e,he⟩:=aS ai;have ah:=Qdb he;have aa:(i:Int)<(p.ens.length:Int):=by omega
  have hw:=bJ i (by omega);rw[Zb he,Gn]at gG;rcases Xr iA e.id pl 0 with⟨h1,h2,_,h4⟩|⟨u,n,h1,h2,_⟩
  ·rw[h1]at gG;have IL:bH iA pl++[([e.id],I i)]=bH iA (Zq e.id (i:Int) pl):=h4 _;simp[h36,ai,aa,ah,Qd,zS,Qp,Qb,h2,BR,hw];refine⟨aO,⟨i+1,_,post++[Qd e],by simp,by omega,gG,?_⟩,by omega⟩
   ·rw[IL];simp[zS,Qp,Qb,Qd]
  rw[h1]at gG;simp[h36,ai,aa,ah,Qd,zS,Qp,Qb,h2,BR,hw];refine⟨aO,⟨i+1,pl,post++[Qd e],by simp,by omega,gG,by simp[zS,Qp,Qb,Qd]⟩,by omega⟩
 have bI:¬(i:Int)<(p.ens.length:Int):=by omega
 rw[zzam bu,Gn]at gG;subst gG;simp[h36,bI,zzbm.2 bu,BR,zS,Qp,Qb,IN];refine Qi iN (aw1 pre p at_ ls) (fun f _=>p.aL.length-(numOf (f 67)).toNat) ?_ ?_
 ·exact⟨0,[],[],post,by simp,by omega,rfl,rfl,by simp[zS,Qp,Qb]⟩
 clear bu bI hi h36;rintro g m ⟨i,im,sp,post,h67,hi,RJ,dy,rfl⟩;rcases zzaa i p.aL.length with ai|bu
 ·obtain⟨x,hx⟩:=aS ai;have ah:Qh (p.aL.map Qm) i=Qm x:=Qs (by simp[hx]);have aa:(i:Int)<(p.aL.length:Int):=by omega
  have hw:=bJ i (by omega);rw[Zb hx,Lg]at RJ;rw[Zb hx,zP]at dy;simp[h67,ai,aa,ah,Qm,zS,Qp,Qb,iN,hw,IN];refine Xu ?_;rcases Xr rG x.id im 0 with⟨h1,h2,_,h4⟩|⟨u,n,h1,h2,_⟩
  ·rw[h1]at RJ dy;have IL:bH rG im++[([x.id],.agg [I x.id,I x.ki,I x.fr,I x.sp,I x.ra])]=bH rG (Zq x.id x im):=h4 x;simp only at RJ dy;by_cases s1:1<=x.sp
   ·by_cases s2:x.sp<=200
    ·rw[if_pos ⟨s1,s2⟩]at dy;rcases Xr iA x.sp sp 0 with⟨_,q2,_,q4⟩|⟨u,n,_,q2,_,_,_,q4⟩
     ·have q4':bH iA sp++[([x.sp],I x.id)]=bH iA (Zq x.sp x.id sp):=q4 _;simp[h67,ai,aa,ah,Qm,zS,Qp,Qb,iN,hw,IN,h2,s1,s2,q2];refine⟨aO,⟨i+1,Zq x.id x im,Zq x.sp x.id sp,post++[Qm x,[I 0,I 0,I 0,I 0,I 0]],by simp,by omega,RJ,dy,?_⟩,by omega⟩
      ·rw[IL,q4'];simp[zS,Qp,Qb,Qm]
     have q4':(bH iA sp).set n ([x.sp],I x.id)=bH iA (Zq x.sp x.id sp):=q4 _;rw[zzbv]at q2;simp[h67,ai,aa,ah,Qm,zS,Qp,Qb,iN,hw,IN,h2,s1,s2,q2];refine⟨aO,⟨i+1,Zq x.id x im,Zq x.sp x.id sp,post++[Qm x,[I 0,I 0,I 0,I 0,I 0]],by simp,by omega,RJ,dy,?_⟩,by omega⟩
     ·rw[IL,q4'];simp[zS,Qp,Qb,Qm]
    rw[if_neg (fun h=>s2 h.2)]at dy;simp[h67,ai,aa,ah,Qm,zS,Qp,Qb,iN,hw,IN,h2,s1,s2];refine⟨aO,⟨i+1,Zq x.id x im,sp,post++[Qm x,[I 0,I 0,I 0,I 0,I 0]],by simp,by omega,RJ,dy,?_⟩,by omega⟩
    ·rw[IL];simp[zS,Qp,Qb,Qm]
   rw[if_neg (fun h=>s1 h.1)]at dy;simp[h67,ai,aa,ah,Qm,zS,Qp,Qb,iN,hw,IN,h2,s1];refine⟨aO,⟨i+1,Zq x.id x im,sp,post++[Qm x,[I 0,I 0,I 0,I 0,I 0]],by simp,by omega,RJ,dy,?_⟩,by omega⟩
   ·rw[IL];simp[zS,Qp,Qb,Qm]
  rw[h1]at RJ dy;simp[h67,ai,aa,ah,Qm,zS,Qp,Qb,iN,hw,IN,h2,rG];refine⟨aO,⟨i+1,im,sp,post++[Qm x,Qm u],by simp,by omega,RJ,dy,by simp[zS,Qp,Qb,Qm]⟩,by omega⟩
 have bI:¬(i:Int)<(p.aL.length:Int):=by omega
 rw[zzam bu]at RJ dy;have RJ:im=zQ p:=RJ;have dy:sp=Ub p:=dy;subst RJ;subst dy;simp[h67,bI,zzbm.2 bu,iN,zS,Qp,Qb,IN];refine Qi gq (aw2 pre p at_ past ls) (fun f _=>past.length-(numOf (f 108)).toNat) ?_ ?_
 ·exact⟨0,[],[],post,by simp,by omega,fun k v h=>(by cases h),rfl,rfl,by simp[aP,aU,Qp,Qb,Tv]⟩
 clear bu bI hi h67;rintro h m ⟨i,us,en,post,h108,hi,hus,hu,he,rfl⟩;rcases zzaa i past.length with ai|bu
 ·obtain⟨a,ha⟩:=aS ai;have ah:Qh (past.map Vi) i=Vi a:=Qs (by simp[ha]);have aa:(i:Int)<(past.length:Int):=by omega
  have hw:=bJ i (by omega);rw[Zb ha,Oq]at hu;rw[Zb ha,Ot]at he;have ZK:pU (i+1:Nat) us:=fun k v h=>by have:=hus k v h;omega
  have skip:rE a=false->Oq (past.drop (i+1)) us=Oq past []/\Ot p (past.drop (i+1)) en=Ot p past []:=fun h=>by
   rw[h]at hu he;exact⟨hu,he⟩
  by_cases c1:a.re=0
  ·by_cases c2:0<=a.fr
   ·by_cases c3:a.fr<=100000000
    ·by_cases c4:1<=a.fs
     ·by_cases c5:a.fs<=100000000
      ·have hc:rE a=true:=by simp[rE];omega
       rw[hc]at hu he;simp only[if_true]at hu he;have hwa:IntKind.i64.wrap (a.fr+a.fs)=a.fr+a.fs:=by rw[Qk]<;>omega
       simp[h108,ai,aa,ah,Vi,aP,aU,Qp,Qb,gq,hw,IN,c1,c2,c3,c4,c5,hwa];have kn:=afE pre (post++[Vi a]) ls ⟨p,at_,us,en,[],[],[]⟩ us en a.it (a.fr+a.fs) (fun k v h=>by have:=hus k v h;omega) Y;simp only[aP,aU,Qp,Qb,Vi,c1]at kn;refine kn _ fun ex=>?_;simp[h108,gq,hw];refine⟨aO,⟨i+1,Vt us a.it,Zl p en a.it (a.fr+a.fs),post++[[I a.it,I 0,I a.fr,I a.fs]]++ex,by simp,by omega,?_,hu,he,by simp[aP,aU,Qp,Qb]⟩,by omega⟩
       ·have:=hus.note (by omega) a.it;exact this
      obtain⟨hu,he⟩:=skip (by simp[rE];omega);simp[h108,ai,aa,ah,Vi,aP,aU,Qp,Qb,gq,hw,IN,c1,c2,c3,c4,c5];refine⟨aO,⟨i+1,us,en,post++[[I a.it,I 0,I a.fr,I a.fs]],by simp,by omega,ZK,hu,he,by simp[aP,aU,Qp,Qb]⟩,by omega⟩
     obtain⟨hu,he⟩:=skip (by simp[rE];omega);simp[h108,ai,aa,ah,Vi,aP,aU,Qp,Qb,gq,hw,IN,c1,c2,c3,c4];refine⟨aO,⟨i+1,us,en,post++[[I a.it,I 0,I a.fr,I a.fs]],by simp,by omega,ZK,hu,he,by simp[aP,aU,Qp,Qb]⟩,by omega⟩
    obtain⟨hu,he⟩:=skip (by simp[rE];omega);simp[h108,ai,aa,ah,Vi,aP,aU,Qp,Qb,gq,hw,IN,c1,c2,c3];refine⟨aO,⟨i+1,us,en,post++[[I a.it,I 0,I a.fr,I a.fs]],by simp,by omega,ZK,hu,he,by simp[aP,aU,Qp,Qb]⟩,by omega⟩
   obtain⟨hu,he⟩:=skip (by simp[rE];omega);simp[h108,ai,aa,ah,Vi,aP,aU,Qp,Qb,gq,hw,IN,c1,c2];refine⟨aO,⟨i+1,us,en,post++[[I a.it,I 0,I a.fr,I a.fs]],by simp,by omega,ZK,hu,he,by simp[aP,aU,Qp,Qb]⟩,by omega⟩
  obtain⟨hu,he⟩:=skip (by simp[rE,c1]);simp[h108,ai,aa,ah,Vi,aP,aU,Qp,Qb,gq,hw,IN,c1];refine⟨aO,⟨i+1,us,en,post++[[I a.it,I a.re,I a.fr,I a.fs]],by simp,by omega,ZK,hu,he,by simp[aP,aU,Qp,Qb]⟩,by omega⟩
 have bI:¬(i:Int)<(past.length:Int):=by omega
 rw[zzam bu]at hu he;have hu:us=Oq past []:=hu;have he:en=Ot p past []:=he;subst hu;subst he;simp[h108,bI,zzbm.2 bu,gq,ahr];simpa[aP,aU,Qp,Qb,Tv]using hK post
open Go Go.Abs
def Bl(b:Bd):Prop:=amZ b/\aft b/\Li b
def Dn{α:Type}(sz:Nat)(lo:Nat)(ls:List Nat)(rt:Rt)(l:List α):Prop:=(l=[]/\rt=.nil)\/∃k,rt=.own k sz/\lo<=k/\ls[k]?=some l.length/\l≠[]
def Dn.app{α:Type}{sz lo:Nat}{ls exl:List Nat}{rt:Rt}{l:List α}(h:Dn sz lo ls rt l):Dn sz lo (ls++exl) rt l:=by
 obtain h|⟨k,h1,h2,h3,h4⟩:=h
 ·exact .inl h
 exact .inr ⟨k,h1,h2,by rw[zzag (zza.1 h3).1];exact h3,h4⟩
def afG(p:Pl)(a b:Int):0<=Ke p a b/\Ke p a b<=6000000000:=by
 unfold Ke;cases Xh a p.aL with
 |none=>simp
 |some x=>
  cases Xh b p.aL with
  |none=>simp
  |some y=>
   simp only;split
   ·omega
   rename_i h;simp only[not_or]at h;have hv:Vf p.nu p.de=true:=by simpa using h.2.1
   obtain⟨v1,v2,v3,v4,v5⟩:=Jt hv;have hg:=Ov x.sp y.sp p.cls 0 (by omega);generalize pS x.sp y.sp p.cls 0=g at hg;rw[xu,if_pos ⟨hv,by omega,by omega⟩];have hp:=Dp hg ⟨(by omega:0<=p.nu),v2⟩;have:=Dq (x:=g*p.nu+p.de-1) (y:=p.de) (by omega) (by omega);omega
def uL{p:Pl}{it:Int}:∀r∈Kt p it,0<=r.2/\r.2<=6000000000:=fun r hr=>by
 unfold Kt at hr;cases hf:Xh it p.aL with
 |none=>rw[hf]at hr;cases hr
 |some y=>
  rw[hf]at hr;simp only at hr;cases ha:af y.sp (Ub p)with
  |none=>rw[ha]at hr;cases hr
  |some _=>
   rw[ha]at hr;simp only[zzfh]at hr;obtain⟨x,_,hx⟩:=hr;split at hx
   ·cases hx;exact afG p _ _
   cases hx
def GA(p:Pl)(it:Int):(Kt p it).length<=(Ub p).length:=by
 unfold Kt;cases Xh it p.aL with
 |none=>simp
 |some y=>
  simp only;cases af y.sp (Ub p)with
  |none=>simp
  |some _=>exact zzh _ _
def tX(en:List (Int×Int)):Prop:=∀k v,af k en=some v->0<=v/\v<=1000000000
def tX.note{p:Pl}{en:List (Int×Int)}(h:tX en)(it e:Int)(he:0<=e/\e<=1000000000):tX (Zl p en it e):=fun k v hk=>by
 unfold Zl at hk;cases hf:Xh it p.aL with
 |none=>rw[hf]at hk;exact h k v hk
 |some x=>
  rw[hf]at hk;simp only[Yc]at hk;split at hk
  ·cases hk;cases ha:af x.sp en with
   |none=>simp;omega
   |some u=>have:=h _ u ha;simp;omega
  exact h k v hk
def xS{en:List (Int×Int)}(h:tX en):∀{l:List Sp}{f M:Int},(∀r∈l,0<=r.2/\r.2<=6000000000)->f<=M->7000000000<=M->Uj en l f<=M
 |[],f,M,_,h1,_=>h1
 |r::l,f,M,hl,h1,h2=>by
  rw[Uj];refine xS h (fun x hx=>hl x (by simp[hx])) ?_ h2;have:=hl r (by simp);cases ha:af r.1 en with
  |none=>exact h1
  |some e=>have:=h _ e ha;simp only;omega
def ZL(l:List Sp):Option (List Sp)->Option (List Sp)
 |none=>none
 |some r=>some (l++r)
def am2(pre post:List (List AV))(ls:List Nat)(b:Bd)(ids:List Int)(N:Int)(T:Option (List Sp))(f:Nat->AV)(m:AM):Prop:=
 ∃(i:Nat)(us en:List (Int×Int))(free last:Int)(l:List Sp)(rt:Rt)(rv:List (Int×(Rt×List Sp)))(li:List (Int×Int))(pm:List ((Int×Int)×List Sp))(bx:List (List AV))(exl:List Nat),
  f 39=I i/\i<=ids.length/\f 8=I free/\f 9=I last/\f 10=.sl rt (l.map Qe)/\l.length=i/\(-1<=last/\last<=1000000000)/\free<=9223372036854775807/\pU (N+i) us/\tX en/\Dn 2 ls.length (ls++exl) rt l/\Bl {b with rv:=rv,li:=li,pm:=pm}/\
  ZL l (Jk b.p (ids.drop i) us en free last)=T/\m=aP pre {b with rv:=rv,li:=li,pm:=pm} (post++([.aJ 0 (bH iA us)]::[.aJ 0 (bH iA en)]::bx)) (ls++exl)
def aj2(pre post bx0:List (List AV))(e:En)(ls:List Nat)(b:Bd)(us en:List (Int×Int))(L:List Sp)(T:Int)(f:Nat->AV)(m:AM):Prop:=
 ∃(j:Nat)(fr:Int)(bx:List (List AV)),f 90=I j/\j<=L.length/\f 17=I fr/\Uj en (L.drop j) fr=T/\m=aP pre b (post++([.aJ 0 (bH iA us)]::[.aJ 0 (bH iA en)]::(bx0++(Qd e::bx)))) ls
def IP:Nat->FuncId->List AV->AV:=fun _ f _=>if f=999999 then .junk else .gd false .junk
def Qeb(pre post:List (List AV))(ls:List Nat)(b:Bd)(ids:List Int)(rt0:Rt)(N:Int)(hN:0<=N/\N<=100000000)(asD:ids.length<=100000000)
  (hc:b.p.cls.length<=1000000)(gK:b.p.sh.length<=1000000000)(cm:b.p.aL.length<=1000000000)(II:b.p.ens.length<=1000000000)(mN:(Ub b.p).length<=1000000000)(dg:b.p.ln<=9223372036854775807)(Tw:∀e∈b.p.ens,e.ea<=9223372036854775807)
  (Tf:b.at_<=9223372036854775807)(hus:pU N b.us)(afH:tX b.en)(sE:Bl b)(Y:YT)(K:AV->AM->Prop)
  (rC:Jk b.p ids b.us b.en b.at_ (-1)=none->∀rv li pm ex exl,Bl {b with rv:=rv,li:=li,pm:=pm}->K (.aW [.sl .nil [],.bool false]) (aP pre {b with rv:=rv,li:=li,pm:=pm} (post++ex) (ls++exl)))
  (hK1:∀l,Jk b.p ids b.us b.en b.at_ (-1)=some l->∀rv li pm ex exl rt,Bl {b with rv:=rv,li:=li,pm:=pm}->Dn 2 ls.length (ls++exl) rt l->K (.aW [.sl rt (l.map Qe),.bool true]) (aP pre {b with rv:=rv,li:=li,pm:=pm} (post++ex) (ls++exl))):
  an Tryz.prog az Y 122 [.ptr (pre.length+9) 0,.sl rt0 (ids.map Qy)] (aP pre b post ls) K:=by
 obtain⟨T,hT⟩:∃T,Jk b.p ids b.us b.en b.at_ (-1)=T:=⟨_,rfl⟩;rw[hT]at rC hK1;refine Xe acv IP (by simp) ?_;simp[Es,aP,aU,Qp,Qb];refine Qbg [(.mp (pre.length+(post.length+10)),aP pre b (post++[[.aJ 0 (bH iA b.us)]]) ls)] ?_;simp[Es,aP,aU,Qp,Qb,IP];refine⟨OC (kn:=0) (kvs:=bH iA b.us) (by simp) ⟨by simp,by simp⟩,OC (kn:=0) (kvs:=bH iA b.en) (by simp) ?_⟩;simp[IP];refine Qi nc (am2 pre post ls b ids N T) (fun f _=>ids.length-(numOf (f 39)).toNat) ?_ ?_
 ·refine⟨0,b.us,b.en,b.at_,-1,[],.nil,b.rv,b.li,b.pm,[],[],by simp,by omega,by simp,by simp,by simp,rfl,by omega,Tf,by simpa using hus,afH,.inl ⟨rfl,rfl⟩,sE,?_,by simp[aP,aU,Qp,Qb]⟩;rw[zzde,hT];cases T<;>rfl
 rintro f m ⟨i,us,en,free,last,l,rt,rv,li,pm,bx,exl,h39,hi,h8,h9,fU,wI,hla,uv,hu,he,hO,hB,hg,rfl⟩;rcases zzaa i ids.length with ai|bu
 ·obtain⟨id,aN⟩:=aS ai;have ah:Qh (ids.map Qy) i=Qy id:=Qs (by simp[aN]);have aa:(i:Int)<(ids.length:Int):=by omega
  have hw:=bJ i (by omega);rw[Zb aN,Jk]at hg;have no:T=none->∀rv li pm ex exl,Bl {b with rv:=rv,li:=li,pm:=pm}->K (.aW [.sl .nil [],.bool false]) (aP pre {b with rv:=rv,li:=li,pm:=pm} (post++ex) (ls++exl)):=rC;rcases Xr iA id (Dj b.p) 0 with⟨p1,p2,_⟩|⟨u,n,p1,p2,_⟩
  ·have p1:zR id b.p.ens 0=none:=by
    rw[uH]at p1;cases hx:zR id b.p.ens 0 with
    |none=>rfl
    |some k=>rw[hx]at p1;cases p1
   rw[p1]at hg;simp[h39,h8,h9,fU,ai,aa,ah,Qy,aP,aU,Qp,Qb,nc,p2,rV];have:=rC hg.symm rv li pm ([.aJ 0 (bH iA us)]::[.aJ 0 (bH iA en)]::bx) exl hB;simpa[aP,aU,Qp,Qb]using this
  obtain⟨k,pk,rfl⟩:∃k:Nat,zR id b.p.ens 0=some k/\(k:Int)=u:=by
   rw[uH]at p1;cases hx:zR id b.p.ens 0 with
   |none=>rw[hx]at p1;cases p1
   |some k=>rw[hx]at p1;cases p1;exact⟨k,rfl,rfl⟩
  rw[zzbv]at p2;rw[pk]at hg;simp only at hg;obtain⟨_,e,he1,he2,he3⟩:=rF pk;rw[zzfg]at he1;have oz:=(zza.1 he1).1;have zC:(k:Int)<(b.p.ens.length:Int):=by omega
  have xU:=Qdb he1;by_cases c1:(k:Int)<=last
  ·rw[if_pos c1]at hg;simp[h39,h8,h9,fU,ai,aa,ah,Qy,aP,aU,Qp,Qb,nc,p2,rV,c1];have:=rC hg.symm rv li pm ([.aJ 0 (bH iA us)]::[.aJ 0 (bH iA en)]::bx) exl hB;simpa[aP,aU,Qp,Qb]using this
  rw[if_neg c1,he1]at hg;simp only at hg;simp[h39,h8,h9,fU,ai,aa,ah,Qy,aP,aU,Qp,Qb,nc,p2,c1,oz,zC,xU,Qd,IP];have k82:=fun K'=>afs pre (post++([.aJ 0 (bH iA us)]::[.aJ 0 (bH iA en)]::(bx++[Qd e]))) (ls++exl) {b with rv:=rv,li:=li,pm:=pm} e.it (by simp only;omega) cm hB.1 Y K';simp only[aP,aU,Qp,Qb,Qd]at k82;refine k82 _ fun sR ZM=>?_;clear k82;have ri:Bl {b with rv:=rv,li:=sR,pm:=pm}:=⟨ZM,hB.2.1,hB.2.2⟩;obtain⟨R,hR⟩:∃R,Wp b.p e.it=R:=⟨_,rfl⟩;rw[hR]at hg
  obtain⟨cu,ue,asE⟩:∃cu,(af e.it us).getD 0=cu/\((Xj [e.it] (bH iA us) 0=none/\cu=0)\/∃n,Xj [e.it] (bH iA us) 0=some (n,I cu)):=by
   rcases Xr iA e.it us 0 with⟨q1,q2,_⟩|⟨u,n,q1,q2,_⟩
   ·exact⟨0,by rw[q1];rfl,.inl ⟨q2,rfl⟩⟩
   exact⟨u,by rw[q1];rfl,.inr ⟨_,q2⟩⟩
  rw[ue]at hg;by_cases r2:R≠ -1/\R<=cu
  ·rw[if_pos r2]at hg;have:=rC hg.symm rv sR pm ([.aJ 0 (bH iA us)]::[.aJ 0 (bH iA en)]::(bx++[Qd e])) exl ri;obtain⟨r1,r2⟩:=r2;obtain⟨q2,rfl⟩|⟨n2,q2⟩:=asE
   ·simp[aP,aU,Qp,Qb,Qd,IP,q2,r1,r2,hR,rV];simpa[aP,aU,Qp,Qb,Qd]using this
   simp[aP,aU,Qp,Qb,Qd,IP,q2,r1,r2,hR,rV];simpa[aP,aU,Qp,Qb,Qd]using this
  rw[if_neg r2]at hg
  have r3:R= -1\/(R≠ -1/\¬R<=cu):=by
   by_cases h:R= -1
   ·exact .inl h
   exact .inr ⟨h,fun h'=>r2 ⟨h,h'⟩⟩
  clear r2;obtain r1|⟨r1,r2⟩:=r3
  ·have q2:True:=trivial;have r2:True:=trivial;simp[h39,h8,h9,fU,aP,aU,Qp,Qb,Qd,IP,q2,r1,r2,hR];have k83:=fun K'=>Gz pre (post++([.aJ 0 (bH iA us)]::[.aJ 0 (bH iA en)]::(bx++[Qd e]))) (ls++exl) {b with rv:=rv,li:=sR,pm:=pm} e.it (by simp only;omega) cm mN hB.2.1 Y K';simp only[aP,aU,Qp,Qb,Qd]at k83;refine k83 _ fun D9 y8 ew rt3 L ZN xV=>?_;clear k83;have YB:Bl {b with rv:=D9,li:=sR,pm:=pm}:=⟨ZM,ZN,hB.2.2⟩;have hLb:∀r∈L,0<=r.2/\r.2<=6000000000:=fun r hr=>uL r (xV.mem_iff.1 hr)
   have hLl:L.length<=1000000000:=by
    rw[xV.length_eq];have:=GA b.p e.it;omega
   have hfp:=xN en xV (max e.ea free);obtain⟨F,hF⟩:∃F,Uj en (Kt b.p e.it) (max e.ea free)=F:=⟨_,rfl⟩;rw[hF]at hfp
   have hFb:F<=9223372036854775807:=by
    rw[<- hF];refine xS he uL ?_ (by omega);have:=Tw e (zzad he1);omega
   have Tp:(if e.ea<free then free else e.ea)=max e.ea free:=by omega
   simp[h39,h8,h9,fU,aP,aU,Qp,Qb,Qd,IP,Tp];refine Qi iO (aj2 pre post bx e (ls++(exl++ew)) {b with rv:=D9,li:=sR,pm:=pm} us en L F) (fun f _=>L.length-(numOf (f 90)).toNat) ?_ ?_
   ·exact⟨0,max e.ea free,y8,by simp,by omega,by simp,by rw[zzde];exact hfp,by simp[aP,aU,Qp,Qb,Qd]⟩
   rintro g m ⟨j,fr,bx4,g90,hj,g17,Dr,rfl⟩;rcases zzaa j L.length with jlt|jge
   ·obtain⟨r,hr⟩:=aS jlt;have ZO:=Zc hr;have ZP:(j:Int)<(L.length:Int):=by omega
    have xz:=bJ j (by omega);rw[Zb hr,Uj]at Dr;have uy:=hLb r (zzad hr);rcases Xr iA r.1 en 0 with⟨v1,v2,_⟩|⟨v,nv,v1,v2,_⟩
    ·rw[v1]at Dr;simp[g90,g17,iO,jlt,ZP,ZO,Qe,xz,aP,aU,Qp,Qb,Qd,v2];refine⟨aO,⟨j+1,fr,bx4++[Qe r],by simp,by omega,by simp[g17],Dr,by simp[aP,aU,Qp,Qb,Qe,Qd]⟩,by omega⟩
    rw[v1]at Dr;have X5:=he r.1 v v1;have hwv:IntKind.i64.wrap (v+r.2)=v+r.2:=by rw[Qk]<;>omega
    have hmv:(if fr<v+r.2 then v+r.2 else fr)=max fr (v+r.2):=by omega
    simp[g90,g17,iO,jlt,ZP,ZO,Qe,xz,aP,aU,Qp,Qb,Qd,v2,hwv,hmv];refine⟨aO,⟨j+1,max fr (v+r.2),bx4++[Qe r],by simp,by omega,by simp,Dr,by simp[aP,aU,Qp,Qb,Qe,Qd]⟩,by omega⟩
   have jin:¬(j:Int)<(L.length:Int):=by omega
   rw[zzam jge]at Dr;have Dr:fr=F:=Dr;subst Dr;have k84:=fun K'=>Oy pre (post++([.aJ 0 (bH iA us)]::[.aJ 0 (bH iA en)]::(bx++(Qd e::bx4)))) (ls++(exl++ew)) {b with rv:=D9,li:=sR,pm:=pm} e fr hc gK cm dg hFb hB.2.2 Y K';simp only[aP,aU,Qp,Qb,Qd]at k84;have hO':Dn 2 ls.length (ls++(exl++ew)) rt l:=by rw[<- zzaw];exact hO.app
   rw[hF]at hg;simp[g90,g17,jin,zzbm.2 jge,iO,nc,h39,h8,h9,fU,aP,aU,Qp,Qb,Qd,IP];refine k84 _ fun ZQ IQ am3=>?_;clear k84;have ZR:Bl {b with rv:=D9,li:=sR,pm:=ZQ}:=⟨ZM,ZN,am3⟩;cases hs:Ye b.p e fr with
   |none=>
    rw[hs]at hg;have:=rC hg.symm D9 sR ZQ ([.aJ 0 (bH iA us)]::[.aJ 0 (bH iA en)]::(bx++(Qd e::(bx4++IQ)))) (exl++ew) ZR;simp[Gs,rV];simpa[aP,aU,Qp,Qb,Qd]using this
   |some s=>
    rw[hs]at hg;simp only at hg
    have hg:ZL (l++[(id,s)]) (Jk b.p (ids.drop (i+1)) (Vt us e.it) (Zl b.p en e.it (s+e.fr)) (s+e.fr) k)=T:=by
     rw[<- hg];cases Jk b.p (ids.drop (i+1)) (Vt us e.it) (Zl b.p en e.it (s+e.fr)) (s+e.fr) k<;>simp[ZL]
    obtain⟨a1,a2,a3,a4,a5,a6,_⟩:=Qbf hs;have hws:IntKind.i64.wrap (s+e.fr)=s+e.fr:=by rw[Qk]<;>omega
    have kn:=fun LS K'=>ZJ pre post (bx++(Qd e::(bx4++IQ))) LS {b with rv:=D9,li:=sR,pm:=ZQ} us en e.it (s+e.fr) (fun k v h=>by have:=hu k v h;omega) Y K';simp only[aP,aU,Qp,Qb,Qd]at kn;have JZ:=hu.note (by omega) e.it;have he2:tX (Zl b.p en e.it (s+e.fr)):=he.note e.it _ (by omega);have hN1:N+i+1=N+(i+1:Nat):=by omega
    rw[hN1]at JZ;obtain⟨oy,tI⟩|⟨k2,tI,cV,dw,_⟩:=hO'
    ·subst tI;subst oy;simp[Gs,h39,h8,h9,fU,aP,aU,Qp,Qb,Qd,IP,hws];refine kn _ _ fun ex5=>?_;refine⟨aO,⟨i+1,Vt us e.it,Zl b.p en e.it (s+e.fr),s+e.fr,k,[(id,s)],.own (ls.length+(exl.length+ew.length)) 2,D9,sR,ZQ,bx++(Qd e::(bx4++IQ++ex5)),exl++(ew++[1]),by simp[hw],by omega,by simp,by simp,by simp[Qe],by simp at wI;simp[wI],by omega,by omega,JZ,he2,.inr ⟨_,rfl,by omega,?_,by simp⟩,ZR,hg,?_⟩,by simp[hw];omega⟩
     ·have:(ls++(exl++(ew++[1])))=(ls++(exl++ew))++[1]:=by simp
      rw[this,zzal (by simp)];simp
     simp[aP,aU,Qp,Qb,Qd]
    subst tI;have Bb:=(zza.1 dw).1;have bV:(ls++(exl++ew)).set k2 (l.length+1)=ls++(exl++ew).set (k2-ls.length) (l.length+1):=zzcs _ _ cV;simp[Gs,h39,h8,h9,fU,aP,aU,Qp,Qb,Qd,IP,hws,dw];refine⟨⟨?_,by omega⟩,kn _ _ fun ex5=>?_⟩
    ·rintro row (⟨a,b,_,rfl⟩|rfl)<;>rfl
    refine⟨aO,⟨i+1,Vt us e.it,Zl b.p en e.it (s+e.fr),s+e.fr,k,l++[(id,s)],.own k2 2,D9,sR,ZQ,bx++(Qd e::(bx4++IQ++ex5)),(exl++ew).set (k2-ls.length) (l.length+1),by simp[hw],by omega,by simp,by simp,by simp[Qe],by simp[wI],by omega,by omega,JZ,he2,.inr ⟨k2,rfl,cV,?_,by simp⟩,ZR,hg,?_⟩,by simp[hw];omega⟩
    ·rw[<- bV,zzb Bb];simp
    simp only[bV];simp[aP,aU,Qp,Qb,Qd]
  obtain⟨q2,rfl⟩|⟨n2,q2⟩:=asE
  all_goals
   simp[h39,h8,h9,fU,aP,aU,Qp,Qb,Qd,IP,q2,r1,r2,hR];have k83:=fun K'=>Gz pre (post++([.aJ 0 (bH iA us)]::[.aJ 0 (bH iA en)]::(bx++[Qd e]))) (ls++exl) {b with rv:=rv,li:=sR,pm:=pm} e.it (by simp only;omega) cm mN hB.2.1 Y K';simp only[aP,aU,Qp,Qb,Qd]at k83;refine k83 _ fun D9 y8 ew rt3 L ZN xV=>?_;clear k83;have YB:Bl {b with rv:=D9,li:=sR,pm:=pm}:=⟨ZM,ZN,hB.2.2⟩;have hLb:∀r∈L,0<=r.2/\r.2<=6000000000:=fun r hr=>uL r (xV.mem_iff.1 hr)
   have hLl:L.length<=1000000000:=by
    rw[xV.length_eq];have:=GA b.p e.it;omega
   have hfp:=xN en xV (max e.ea free);obtain⟨F,hF⟩:∃F,Uj en (Kt b.p e.it) (max e.ea free)=F:=⟨_,rfl⟩;rw[hF]at hfp
   have hFb:F<=9223372036854775807:=by
    rw[<- hF];refine xS he uL ?_ (by omega);have:=Tw e (zzad he1);omega
   have Tp:(if e.ea<free then free else e.ea)=max e.ea free:=by omega
   simp[h39,h8,h9,fU,aP,aU,Qp,Qb,Qd,IP,Tp];refine Qi iO (aj2 pre post bx e (ls++(exl++ew)) {b with rv:=D9,li:=sR,pm:=pm} us en L F) (fun f _=>L.length-(numOf (f 90)).toNat) ?_ ?_
   ·exact⟨0,max e.ea free,y8,by simp,by omega,by simp,by rw[zzde];exact hfp,by simp[aP,aU,Qp,Qb,Qd]⟩
   rintro g m ⟨j,fr,bx4,g90,hj,g17,Dr,rfl⟩;rcases zzaa j L.length with jlt|jge
   ·obtain⟨r,hr⟩:=aS jlt;have ZO:=Zc hr;have ZP:(j:Int)<(L.length:Int):=by omega
    have xz:=bJ j (by omega);rw[Zb hr,Uj]at Dr;have uy:=hLb r (zzad hr);rcases Xr iA r.1 en 0 with⟨v1,v2,_⟩|⟨v,nv,v1,v2,_⟩
    ·rw[v1]at Dr;simp[g90,g17,iO,jlt,ZP,ZO,Qe,xz,aP,aU,Qp,Qb,Qd,v2];refine⟨aO,⟨j+1,fr,bx4++[Qe r],by simp,by omega,by simp[g17],Dr,by simp[aP,aU,Qp,Qb,Qe,Qd]⟩,by omega⟩
    rw[v1]at Dr;have X5:=he r.1 v v1;have hwv:IntKind.i64.wrap (v+r.2)=v+r.2:=by rw[Qk]<;>omega
    have hmv:(if fr<v+r.2 then v+r.2 else fr)=max fr (v+r.2):=by omega
    simp[g90,g17,iO,jlt,ZP,ZO,Qe,xz,aP,aU,Qp,Qb,Qd,v2,hwv,hmv];refine⟨aO,⟨j+1,max fr (v+r.2),bx4++[Qe r],by simp,by omega,by simp,Dr,by simp[aP,aU,Qp,Qb,Qe,Qd]⟩,by omega⟩
   have jin:¬(j:Int)<(L.length:Int):=by omega
   rw[zzam jge]at Dr;have Dr:fr=F:=Dr;subst Dr;have k84:=fun K'=>Oy pre (post++([.aJ 0 (bH iA us)]::[.aJ 0 (bH iA en)]::(bx++(Qd e::bx4)))) (ls++(exl++ew)) {b with rv:=D9,li:=sR,pm:=pm} e fr hc gK cm dg hFb hB.2.2 Y K';simp only[aP,aU,Qp,Qb,Qd]at k84;have hO':Dn 2 ls.length (ls++(exl++ew)) rt l:=by rw[<- zzaw];exact hO.app
   rw[hF]at hg;simp[g90,g17,jin,zzbm.2 jge,iO,nc,h39,h8,h9,fU,aP,aU,Qp,Qb,Qd,IP];refine k84 _ fun ZQ IQ am3=>?_;clear k84;have ZR:Bl {b with rv:=D9,li:=sR,pm:=ZQ}:=⟨ZM,ZN,am3⟩;cases hs:Ye b.p e fr with
   |none=>
    rw[hs]at hg;have:=rC hg.symm D9 sR ZQ ([.aJ 0 (bH iA us)]::[.aJ 0 (bH iA en)]::(bx++(Qd e::(bx4++IQ)))) (exl++ew) ZR;simp[Gs,rV];simpa[aP,aU,Qp,Qb,Qd]using this
   |some s=>
    rw[hs]at hg;simp only at hg
    have hg:ZL (l++[(id,s)]) (Jk b.p (ids.drop (i+1)) (Vt us e.it) (Zl b.p en e.it (s+e.fr)) (s+e.fr) k)=T:=by
     rw[<- hg];cases Jk b.p (ids.drop (i+1)) (Vt us e.it) (Zl b.p en e.it (s+e.fr)) (s+e.fr) k<;>simp[ZL]
    obtain⟨a1,a2,a3,a4,a5,a6,_⟩:=Qbf hs;have hws:IntKind.i64.wrap (s+e.fr)=s+e.fr:=by rw[Qk]<;>omega
    have kn:=fun LS K'=>ZJ pre post (bx++(Qd e::(bx4++IQ))) LS {b with rv:=D9,li:=sR,pm:=ZQ} us en e.it (s+e.fr) (fun k v h=>by have:=hu k v h;omega) Y K';simp only[aP,aU,Qp,Qb,Qd]at kn;have JZ:=hu.note (by omega) e.it;have he2:tX (Zl b.p en e.it (s+e.fr)):=he.note e.it _ (by omega);have hN1:N+i+1=N+(i+1:Nat):=by omega
    rw[hN1]at JZ;obtain⟨oy,tI⟩|⟨k2,tI,cV,dw,_⟩:=hO'
    ·subst tI;subst oy;simp[Gs,h39,h8,h9,fU,aP,aU,Qp,Qb,Qd,IP,hws];refine kn _ _ fun ex5=>?_;refine⟨aO,⟨i+1,Vt us e.it,Zl b.p en e.it (s+e.fr),s+e.fr,k,[(id,s)],.own (ls.length+(exl.length+ew.length)) 2,D9,sR,ZQ,bx++(Qd e::(bx4++IQ++ex5)),exl++(ew++[1]),by simp[hw],by omega,by simp,by simp,by simp[Qe],by simp at wI;simp[wI],by omega,by omega,JZ,he2,.inr ⟨_,rfl,by omega,?_,by simp⟩,ZR,hg,?_⟩,by simp[hw];omega⟩
     ·have:(ls++(exl++(ew++[1])))=(ls++(exl++ew))++[1]:=by simp
      rw[this,zzal (by simp)];simp
     simp[aP,aU,Qp,Qb,Qd]
    subst tI;have Bb:=(zza.1 dw).1;have bV:(ls++(exl++ew)).set k2 (l.length+1)=ls++(exl++ew).set (k2-ls.length) (l.length+1):=zzcs _ _ cV;simp[Gs,h39,h8,h9,fU,aP,aU,Qp,Qb,Qd,IP,hws,dw];refine⟨⟨?_,by omega⟩,kn _ _ fun ex5=>?_⟩
    ·rintro row (⟨a,b,_,rfl⟩|rfl)<;>rfl
    refine⟨aO,⟨i+1,Vt us e.it,Zl b.p en e.it (s+e.fr),s+e.fr,k,l++[(id,s)],.own k2 2,D9,sR,ZQ,bx++(Qd e::(bx4++IQ++ex5)),(exl++ew).set (k2-ls.length) (l.length+1),by simp[hw],by omega,by simp,by simp,by simp[Qe],by simp[wI],by omega,by omega,JZ,he2,.inr ⟨k2,rfl,cV,?_,by simp⟩,ZR,hg,?_⟩,by simp[hw];omega⟩
    ·rw[<- bV,zzb Bb];simp
    simp only[bV];simp[aP,aU,Qp,Qb,Qd]
 have bI:¬(i:Int)<(ids.length:Int):=by omega
 rw[zzam bu,Jk]at hg;have hg:some (l++[])=T:=hg;rw[zzau]at hg;have:=hK1 l hg.symm rv li pm ([.aJ 0 (bH iA us)]::[.aJ 0 (bH iA en)]::bx) exl rt hB hO;simp[h39,h8,h9,fU,bI,zzbm.2 bu,nc,rV];simpa[aP,aU,Qp,Qb]using this
open Go Go.Abs
def afI(l:List Int)(hl:l.length<=1000000000):Pure Tryz.prog az 93 [.sl .ro (l.map Qy)] (.sl .ro (l.map Qy)):=by
 cases l with
 |nil=>
  refine Vm (Qz (?_:Pure Tryz.prog az 93 [.sl .nil []] (.sl .nil [])) (Wk.sl _ _)) ?_
  ·refine Qn qy (fun _ _ _=>.junk) (by simp) ?_;simp[JB,JC]
  refine Qn qy (fun _ _ _=>.junk) (by simp) ?_;simp[JB,JC]
 |cons x r=>
  refine Qn qy (fun _ _ _=>.junk) (by simp) ?_;simp[JB,JC,Qy];simp at hl;omega
def Bm{α:Type}(c:List α)(i:Nat)(h:i<c.length):(c.take i++c.drop (i+1)).length+1=c.length:=by
 simp;omega
def GB(ok:List Int->Bool)(c:List Int)(i:Nat):List Int:=
 if h:i<c.length then(if ok (c.take i++c.drop (i+1))=true then GB ok c (i+1)else GB ok (c.take i++c.drop (i+1)) i)else c
termination_by c.length-i
decreasing_by
 ·omega
 have:=Bm c i h;omega
def oA(b:Bd)(ids:List Int):Bool:=(Jk b.p ids b.us b.en b.at_ (-1)).isSome
def nW(b:Bd)(ids:List Int):List Int:=if oA b ids=true then[]else GB (oA b) ids 0
def asF(pre post:List (List AV))(ls:List Nat)(b:Bd)(N:Nat)(T:List Int)(f:Nat->AV)(m:AM):Prop:=
 ∃(i:Nat)(c:List Int)(rv:List (Int×(Rt×List Sp)))(li:List (Int×Int))(pm:List ((Int×Int)×List Sp))(ex:List (List AV))(exl:List Nat),
  f 7=.sl .ro (c.map Qy)/\f 8=I i/\i<=c.length/\c.length<=N/\GB (oA b) c i=T/\Bl {b with rv:=rv,li:=li,pm:=pm}/\m=aP pre {b with rv:=rv,li:=li,pm:=pm} (post++ex) (ls++exl)
def OD(ids:List Int):Nat->FuncId->List AV->AV:=fun _ f l=>if f=122 then .gd false .junk else if f=93 then .sl .ro (ids.map Qy)else
 (match l with|[.sl _ [[.sl _ a],[.sl _ c]]]=>.sl .ro (a++c)|_=>.junk)
def Lo(pre post:List (List AV))(ls:List Nat)(b:Bd)(ids:List Int)(rt0:Rt)(h85:∀m,Abs.Pure Tryz.prog az 93 [bF m 6 (.sl rt0 (ids.map Qy))] (.sl .ro (ids.map Qy)))(N:Int)(hN:0<=N/\N<=100000000)(asD:ids.length<=100000000)
  (hc:b.p.cls.length<=1000000)(gK:b.p.sh.length<=1000000000)(cm:b.p.aL.length<=1000000000)(II:b.p.ens.length<=1000000000)(mN:(Ub b.p).length<=1000000000)(dg:b.p.ln<=9223372036854775807)(Tw:∀e∈b.p.ens,e.ea<=9223372036854775807)
  (Tf:b.at_<=9223372036854775807)(hus:pU N b.us)(afH:tX b.en)(sE:Bl b)(Y:YT)(K:AV->AM->Prop)
  (hK:∀rv li pm ex exl,Bl {b with rv:=rv,li:=li,pm:=pm}->K (.sl (if oA b ids=true then .nil else .ro) ((nW b ids).map Qy)) (aP pre {b with rv:=rv,li:=li,pm:=pm} (post++ex) (ls++exl))):
  an Tryz.prog az Y 123 [.ptr (pre.length+9) 0,.sl rt0 (ids.map Qy)] (aP pre b post ls) K:=by
 refine Xe acw (OD ids) (by simp) ?_;simp[TW,aP,aU,Qp,Qb,OD];have k42:=fun K'=>Qeb pre post ls b ids rt0 N hN asD hc gK cm II mN dg Tw Tf hus afH sE Y K';simp only[aP,aU,Qp,Qb]at k42;refine k42 _ (fun h0 rv li pm ex exl hB=>?_) (fun l h1 rv li pm ex exl rt hB hO=>?_)
 ·have bQ:oA b ids=false:=by simp[oA,h0]
  simp[OD];refine⟨h85 _,?_⟩;refine Qi vf (asF pre post ls b ids.length (nW b ids)) (fun f _=>(match f 7 with|.sl _ c=>c.length|_=>0)-(numOf (f 8)).toNat) ?_ ?_
  ·exact⟨0,ids,rv,li,pm,ex,exl,by simp,by simp,by omega,by omega,by simp[nW,bQ],hB,by simp[aP,aU,Qp,Qb]⟩
  rintro f m ⟨i,c,rv,li,pm,ex,exl,h7,h8,hi,qo,hT,hB,rfl⟩;rcases zzaa i c.length with ai|bu
  ·have aa:(i:Int)<(c.length:Int):=by omega
   have hw:=bJ i (by omega);simp[h7,h8,ai,aa,vf,aP,aU,Qp,Qb,OD,hw];have eA:List.take i (List.map Qy c)=(c.take i).map Qy:=by simp
   have eB:List.take (c.length-(i+1)) (List.drop (i+1) (List.map Qy c))=(c.drop (i+1)).map Qy:=by
    rw[zzap (by simp)];simp
   rw[eA,eB,<- zzc];have k86:=ZD [(.ro,c.take i),(.ro,c.drop (i+1))] (by simp) (by simp) (by simp;omega);have Oc:=Bm c i ai;rw[GB,dif_pos ai]at hT;have gh:(List.map (fun x:Rt×List Int=>x.2) [(Rt.ro,c.take i),(Rt.ro,c.drop (i+1))]).flatten=c.take i++c.drop (i+1):=by simp
   rw[gh]at k86;obtain⟨o,ho⟩:∃o,c.take i++c.drop (i+1)=o:=⟨_,rfl⟩;rw[ho]at k86 Oc hT |-
   refine⟨⟨by omega,fun _ _=>rfl⟩,⟨by omega,fun _ _=>rfl⟩,k86,?_⟩;have k42:=fun K'=>Qeb pre (post++ex) (ls++exl) {b with rv:=rv,li:=li,pm:=pm} o .ro N hN (by omega) hc gK cm II mN dg Tw Tf hus afH hB Y K';simp only[aP,aU,Qp,Qb]at k42;refine k42 _ (fun h0 rv2 sR Oz eO am4 ri=>?_) (fun l h1 rv2 sR Oz eO am4 rt ri hO=>?_)
   ·have bQ:oA b o=false:=by simp only[oA];rw[h0];rfl
    rw[bQ]at hT;have hT:GB (oA b) o i=nW b ids:=hT;simp[h7,h8,vf];refine⟨aO,⟨i,o,rv2,sR,Oz,ex++eO,exl++am4,by simp,by simp[h8],by omega,by omega,hT,ri,by simp[aP,aU,Qp,Qb]⟩,?_⟩
    ·rw[zzft (Nat.le_of_lt ai),zzdq];exact Nat.sub_lt_sub_left ai (Nat.lt_succ_self i)
   have bQ:oA b o=true:=by simp only[oA];rw[h1];rfl
   rw[bQ]at hT;have hT:GB (oA b) c (i+1)=nW b ids:=hT;simp[h7,h8,vf,hw];refine⟨aO,⟨i+1,c,rv2,sR,Oz,ex++eO,exl++am4,by simp[h7],by simp,by omega,by omega,hT,ri,by simp[aP,aU,Qp,Qb]⟩,by omega⟩
  have bI:¬(i:Int)<(c.length:Int):=by omega
  rw[GB,dif_neg (by omega)]at hT;have:=hK rv li pm ex exl hB;rw[<- hT,bQ,if_neg (by simp)]at this;simp[h7,h8,bI,zzbm.2 bu,vf,TX];simpa[aP,aU,Qp,Qb]using this
 have bQ:oA b ids=true:=by simp[oA,h1]
 have:=hK rv li pm ex exl hB;rw[bQ,if_pos rfl]at this;simp[TX];simpa[aP,aU,Qp,Qb,nW,bQ]using this
open Go Go.Abs
def Uf(p:Pl):List Int:=p.ens.map fun e=>e.id
def IS(p:Pl):Bd:=⟨p,0,[],[],[],[],[]⟩
def IT(l:List Sp):AV:=if l=[]then .sl .nil []else .sl .ro (l.map Qe)
def RK(p:Pl):AV:=if nU p=false then .aW [.sl .nil [],.sl .nil [],I 80]else match Jk p (Uf p) [] [] 0 (-1)with
 |some l=>.aW [IT l,.sl .nil [],I 0]
 |none=>.aW [.sl .nil [],.sl .ro ((nW (IS p) (Uf p)).map Qy),I 90]
def mU(p:Pl):Nat->FuncId->List AV->AV:=fun _ f _=>if f=999999 then .junk else if f=120 then .bool (nU p)else .gd false .junk
def asG(p:Pl)(f:Nat->AV)(m:AM):Prop:=∃(i:Nat)(rt:Rt)(ls:List Nat)(bx:List (List AV)),f 17=I i/\i<=p.ens.length/\f 5=.sl rt ((Uf p).take i |>.map Qy)/\Dn 1 0 ls rt ((Uf p).take i)/\m=⟨Qb p::bx,ls,fun _=>.gone,0⟩
def pV:∀(l:List It)(a:List (Int×It))(s:List (Int×Int)),(zP l a s).length<=s.length+l.length
 |[],a,s=>by simp[zP]
 |x::r,a,s=>by
  rw[zP];cases af x.id a with
  |some _=>
   have:=pV r a s;simp only[zzbb];omega
  |none=>
   have h:=pV r (Zq x.id x a) (if 1<=x.sp/\x.sp<=200 then Zq x.sp x.id s else s)
   have h2:(if 1<=x.sp/\x.sp<=200 then Zq x.sp x.id s else s).length<=s.length+1:=by
    split
    ·exact Gm _ _ _
    omega
   simp only[zzbb];omega
def am5(p:Pl):Bl (IS p):=⟨fun _ _ h=>(by cases h),fun _ _ h=>(by cases h),fun _ _ h=>(by cases h)⟩
def RL(p:Pl)(hs:PlS p)(hc:p.cls.length<=1000000)(II:p.ens.length<=10000000)(dg:p.ln<=9223372036854775807)(Tw:∀e∈p.ens,e.ea<=9223372036854775807):Pure Tryz.prog az 60 [.agg (Qb p)] (RK p):=by
 have k22:=Wt p hs;obtain⟨l1,l2,l3,l4,l5,l6⟩:=hs
 have mN:(Ub p).length<=1000000000:=by
  have:=pV p.aL [] [];simp only[Ub]at*
  simp at this;omega
 refine Qn ak9 (mU p) (by simp) ?_;cases hv:nU p with
 |false=>
  rw[hv]at k22;have:RK p=.aW [.sl .nil [],.sl .nil [],I 80]:=by rw[RK,if_pos hv]
  rw[this];simp[ak8,TL,Qb,mU,hv];simpa[Qb]using k22
 |true=>
  rw[hv]at k22;simp[ak8,Qb,mU,hv];refine⟨by simpa[Qb]using k22,?_⟩;refine Qi MO (asG p) (fun f _=>p.ens.length-(numOf (f 17)).toNat) ?_ ?_
  ·exact⟨0,.nil,[],[],by simp,by omega,by simp,.inl ⟨by simp,rfl⟩,by simp[Qb]⟩
  rintro f m ⟨i,rt,ls,bx,h17,hi,h5,hO,rfl⟩;rcases zzaa i p.ens.length with ai|bu
  ·obtain⟨e,he⟩:=aS ai;have ah:=Qdb he;have aa:(i:Int)<(p.ens.length:Int):=by omega
   have hw:=bJ i (by omega);have bB:(Uf p).take (i+1)=(Uf p).take i++[e.id]:=by rw[zzas];simp[Uf,he]
   have mD:((Uf p).take i).length=i:=by simp[Uf];omega
   obtain⟨S,hS⟩:∃S,(Uf p).take i=S:=⟨_,rfl⟩;rw[hS]at h5 hO bB mD;obtain⟨rfl,rfl⟩|⟨k,rfl,cV,dw,Bb⟩:=hO
   ·simp[h17,h5,ai,aa,ah,Qd,Qb,mU,MO,hw];refine⟨aO,⟨i+1,.own ls.length 1,ls++[1],bx++[Qd e],by simp,by omega,by rw[bB];simp[Qy],.inr ⟨_,rfl,by omega,by rw[bB];simp,by rw[bB];simp⟩,by simp[Qb,Qd]⟩,by omega⟩
   have Og:=(zza.1 dw).1;simp[h17,h5,ai,aa,ah,Qd,Qb,mU,MO,hw,dw];refine⟨⟨?_,by omega⟩,aO,⟨i+1,.own k 1,ls.set k (S.length+1),bx++[Qd e],by simp,by omega,by rw[bB];simp[Qy],.inr ⟨_,rfl,by omega,by rw[bB];simp[Og],by rw[bB];simp⟩,by simp[Qb,Qd]⟩,by omega⟩
   ·rintro row (⟨a,_,rfl⟩|rfl)<;>rfl
  have bI:¬(i:Int)<(p.ens.length:Int):=by omega
  have mD:(Uf p).take i=Uf p:=zzap (by simp[Uf];omega);rw[mD]at h5 hO;have aN:(Uf p).length<=10000000:=by simp[Uf];omega
  have k41:=fun K'=>xR (Qb p::bx) ls p 0 [] .nil (by omega) l2 (by simp) Y0 K';simp only[Qb,zzcf]at k41;simp[h17,h5,bI,zzbm.2 bu,MO,Qb,mU];refine k41 _ fun ex=>?_;clear k41
  have h85:∀m,Abs.Pure Tryz.prog az 93 [bF m 6 (.sl rt ((Uf p).map Qy))] (.sl .ro ((Uf p).map Qy)):=fun m=>by
   have kc:=afI (Uf p) (by omega);obtain⟨h1,rfl⟩|⟨k,rfl,_⟩:=hO
   ·exact Zt kc ⟨Wk.sl _ _,trivial⟩
   exact kc
  simp[mU];refine Qeb (Qb p::bx) ex ls (IS p) (Uf p) rt 0 (by omega) (by omega) hc l1 l2 l3 mN dg Tw (by simp[IS]) (fun _ _ h=>(by cases h)) (fun _ _ h=>(by cases h)) (am5 p) Y0 _ (fun h0 rv li pm eO exl hB=>?_) (fun l h1 rv li pm eO exl JR hB K5=>?_)
  ·have h0:Jk p (Uf p) [] [] 0 (-1)=none:=h0;have hr:RK p=.aW [.sl .nil [],.sl .ro ((nW (IS p) (Uf p)).map Qy),I 90]:=by rw[RK,if_neg (by simp[hv]),h0]
   have bQ:oA (IS p) (Uf p)=false:=by show(Jk p (Uf p) [] [] 0 (-1)).isSome=false;rw[h0];rfl
   rw[hr];simp[mU];refine Lo (Qb p::bx) (ex++eO) (ls++exl) {IS p with rv:=rv,li:=li,pm:=pm} (Uf p) rt h85 0 (by omega) (by omega) hc l1 l2 l3 mN dg Tw (by simp[IS]) (fun _ _ h=>(by cases h)) (fun _ _ h=>(by cases h)) hB Y0 _ (fun D9 li3 pm3 y8 ew YB=>?_);have aw3:oA {IS p with rv:=rv,li:=li,pm:=pm} (Uf p)=false:=bQ;have qN:nW {IS p with rv:=rv,li:=li,pm:=pm} (Uf p)=nW (IS p) (Uf p):=rfl;rw[aw3,qN,if_neg (by simp)];simp[TL]
  have h1:Jk p (Uf p) [] [] 0 (-1)=some l:=h1;have hr:RK p=.aW [IT l,.sl .nil [],I 0]:=by rw[RK,if_neg (by simp[hv]),h1]
  rw[hr];obtain⟨rfl,rfl⟩|⟨k2,rfl,_,_,aK⟩:=K5
  ·simp[mU,TL,IT]
  simp[mU,TL,IT,aK]
end Go.Proofs.YtnopaopphmjnmaaGreatDoor
