import Derived.Test.YtnopaopphmjnmaaGreatDoorMEMS
set_option linter.all false
set_option maxRecDepth 100000
set_option maxHeartbeats 64000000
namespace Go.Proofs.YtnopaopphmjnmaaGreatDoor
open Go Go.Abs
def GH{l:List Nat}{n:Nat}(h:l.Nodup)(hb:∀i∈l,i<n):l.length<=n:=by
 have hp:l.Perm ((List.range n).filter fun i=>decide (i∈l)):=by
  rw[zzgh h (zzdk.filter _)];intro i;simp only[zzcp,zzbd,decide_eq_true_eq];exact⟨fun hi=>⟨hb i hi,hi⟩,fun hi=>hi.2⟩
 rw[hp.length_eq];refine zzbn (zzbr _ _) ?_;simp
def OO(id:Nat)(m:AM):Nat:=match Qh m.boxes id with
 |[.mitr _ _ s]=>s.length
 |_=>0
def afE{α:Type}{row:α->AV}{L:List (Int×α)}{i:Nat}{k:List Int}{c:AV}(h:(bH row L)[i]?=some (k,c)):∃o x,L[i]?=some (o,x)/\k=[o]/\c=row x/\(bH row L).getD i ([],.junk)=([o],row x)/\i<L.length:=by
 have hg:(bH row L).getD i ([],.junk)=(k,c):=by rw[zzar,h];rfl
 rw[bH,zzbm]at h;cases hL:L[i]? with
 |none=>rw[hL]at h;cases h
 |some y=>
  rw[hL]at h;cases h;exact⟨y.1,y.2,rfl,rfl,rfl,hg,(zza.1 hL).1⟩
def Lx(p:Pl)(it:Int)(L:List (Int×Int))(o x:Int):xS p it (L++[(o,x)])=if 0<Kh p x it then xS p it L++[(o,Kh p x it)]else xS p it L:=by
 unfold xS;rw[List.filterMap_append];by_cases h:0<Kh p x it
 ·rw[if_pos h];simp[h]
 rw[if_neg h];simp[h]
def GI{m:AM}{K:AV->AM->Prop}{id mid n kn:Nat}{seen:List Nat}{kvs:List (List Int×AV)}(h1:Qh m.boxes id=[.mitr mid n seen])(h2:Qh m.boxes mid=[.aJ kn kvs])(h:kvs.length=n)
  (hs:∀i k c,kvs[i]?=some (k,c)->i ∉ seen->K (.aW [.bool true,keyAV kn k,c]) {m with boxes:=m.boxes.set id [.mitr mid n (seen++[i])]})(he:(∀i,i<n->i∈seen)->K (.aW [.bool false]) m):vcNxt m K (.it id):=by
 simp only[vcNxt,Vp,h1,h2];exact⟨h,hs,he⟩
def OP(p:Pl)(it:Int):Nat->FuncId->List AV->AV:=fun _ f l=>if f=274 then(match l with|[_,.int _ x,_]=>I (Kh p x it)|_=>.junk)else .junk
def asI(pre:List (List AV))(b:Bd)(post:List (List AV))(ls:List Nat)(it:Int)(f:Nat->AV)(m:AM):Prop:=∃(seen:List Nat)(l:List Sp)(rt:Rt)(exl:List Nat),
 seen.Nodup/\(∀i∈seen,i<(Uf b.p).length)/\l=xS b.p it (atL (0,0) (Uf b.p) seen)/\f 8=.sl rt (l.map Qe)/\(l=[]/\rt=.nil/\exl=[]\/l≠[]/\rt=.own ls.length 2/\exl=[l.length])/\
 m=aP pre b (post++[[.mitr (pre.length+3) (Uf b.p).length seen]]) (ls++exl)
def GJ(pre post:List (List AV))(ls:List Nat)(b:Bd)(it:Int)(hc:b.p.cls.length<=1000000000)(cI:b.p.aM.length<=1000000000)(mQ:(Uf b.p).length<=1000000000)(IU:afs b)(Y:YT)(K:AV->AM->Prop)
  (hK:∀(rv:List (Int×(Rt×List Sp)))(ex:List (List AV))(exl:List Nat)(rt:Rt)(l:List Sp),afs {b with rv:=rv}->l.Perm (Kz b.p it)->K (.sl rt (l.map Qe)) (aP pre {b with rv:=rv} (post++ex) (ls++exl))):
  an Tryz.prog az Y 200 [.ptr (pre.length+9) 0,I it] (aP pre b post ls) K:=by
 have nil:Kz b.p it=[]->K (.sl .nil []) (aP pre b post ls):=fun h=>by
  have:=hK b.rv [] [] .nil [] IU (by rw[h]);simpa using this
 refine Xe adi (OP b.p it) (by simp) ?_
 have aw3:∃r,Xk [it] (bH rH (zS b.p)) 0=r/\((∃n y,Xj it b.p.aM=some y/\r=some (n,rH y))\/(Xj it b.p.aM=none/\r=none)):=by
  rcases Xq rH it (zS b.p) 0 with⟨h1,h2,_,_⟩|⟨u,n,h1,h2,_⟩
  ·rw[uO]at h1;exact⟨_,rfl,.inr ⟨h1,h2⟩⟩
  rw[uO]at h1;exact⟨_,rfl,.inl ⟨_,u,h1,h2⟩⟩
 obtain⟨r,hr,RD⟩:=aw3;obtain⟨n,y,hf,rfl⟩|⟨hf,rfl⟩:=RD
 ·rcases Xq iA y.sp (Uf b.p) 0 with⟨s1,s2,_,_⟩|⟨su,sn,s1,s2,_⟩
  ·simp[Aj,EI,aP,aU,Qp,Qc,hr,rH,Qm,s2];exact nil (by simp[Kz,hf,s1])
  have hrl:Kz b.p it=xS b.p it (Uf b.p):=by simp[Kz,hf,s1,xS]
  rcases Xq rvA y.sp b.rv 0 with⟨m1,m2,_,m4⟩|⟨mu,mn,m1,m2,_⟩
  ·simp[Aj,aP,aU,Qp,Qc,hr,rH,Qm,s2,m2];refine Qj vw (asI pre b post ls it) (fun _ m=>(Uf b.p).length-OO (pre.length+(post.length+10)) m) ?_ ?_
   ·exact⟨[],[],.nil,[],List.nodup_nil,by simp,rfl,by simp,.inl ⟨rfl,rfl,rfl⟩,by simp[aP,aU,Qp,Qc]⟩
   rintro f m ⟨seen,l,rt,exl,hn,hb,hl,h8,aS,rfl⟩;have qs:seen.length<=(Uf b.p).length:=GH hn hb;simp[-vcNxt,aP,aU,Qp,Qc,vw];refine GI (mid:=pre.length+3) (n:=(Uf b.p).length) (kn:=0) (seen:=seen) (kvs:=bH iA (Uf b.p)) ?_ ?_ ?_ (fun i k c hi hns=>?_) fun bP=>?_
   ·simp
   ·simp
   ·simp
   ·obtain⟨o,x,hx,rfl,rfl,Wa,ai⟩:=afE hi
    have bu:(bH iA (Uf b.p))[i]'(by simpa using ai)=([o],iA x):=by
     have:=zza.1 hi;exact this.2
    have am4:=am1 b.p x it hc cI;have sj:(seen++[i]).Nodup:=List.nodup_append.2 ⟨hn,by simp,fun a ha c hc=>by simp at hc;subst hc;rintro rfl;exact hns ha⟩
    have cL:∀j∈seen++[i],j<(Uf b.p).length:=fun j hj=>by
     rcases zzao.1 hj with h|h
     ·exact hb j h
     simp at h;subst h;exact ai
    have bZ:seen.length+1<=(Uf b.p).length:=by simpa using GH sj cL
    have hxo:(Uf b.p).getD i (0,0)=(o,x):=by rw[zzar,hx];rfl
    have IA:atL (0,0) (Uf b.p) (seen++[i])=atL (0,0) (Uf b.p) seen++[(o,x)]:=by
     simp only[atL,zzby,zzay,zzcg,hxo]
    have Fi:=Lx b.p it (atL (0,0) (Uf b.p) seen) o x;rw[<- IA,<- hl]at Fi;by_cases hg:0<Kh b.p x it
    ·rw[if_pos hg]at Fi
     have zF:l.length<=(Uf b.p).length:=by
      rw[hl];refine zzbn (zzgs _ _) ?_;simp only[atL,zzbf];exact qs
     obtain⟨rfl,rfl,rfl⟩|⟨oA,rfl,rfl⟩:=aS
     ·simp[keyAV,hi,bu,ai,OP,hg,h8,vw,OO];refine⟨by simpa[Qc]using am4,aO,⟨seen++[i],_,_,[1],sj,cL,rfl,by simp[Fi,Qe],.inr ⟨by simp[Fi],rfl,by simp[Fi]⟩,by simp[aP,aU,Qp,Qc]⟩,by omega⟩
     simp[keyAV,hi,bu,ai,OP,hg,h8,vw,OO];refine⟨by simpa[Qc]using am4,⟨?_,by omega⟩,aO,⟨seen++[i],_,_,[l.length+1],sj,cL,rfl,by simp[Fi,Qe],.inr ⟨by simp[Fi],rfl,by simp[Fi]⟩,by simp[aP,aU,Qp,Qc]⟩,by omega⟩
     ·rintro row (⟨a,b,_,rfl⟩|rfl)<;>rfl
    rw[if_neg hg]at Fi;simp[keyAV,hi,bu,ai,OP,hg,h8,vw,OO];refine⟨by simpa[Qc]using am4,aO,⟨seen++[i],l,rt,exl,sj,cL,Fi.symm,by simp[h8],aS,by simp[aP,aU,Qp,Qc]⟩,by omega⟩
   have hpm:l.Perm (Kz b.p it):=by
    rw[hl,hrl];exact(aft _ _ _ hn bP hb).filterMap _
   have aw4:afs {b with rv:=Vb y.sp (rt,l) b.rv}:=fun k x h it' y' hf' dm=>by
    rw[Uo]at h;split at h
    ·rename_i e;cases h;rw[afv hf' hf (by rw[dm,e])];exact hpm
    exact IU k x h it' y' hf' dm
   have:=hK _ [[.mitr (pre.length+3) (Uf b.p).length seen]] exl rt l aw4 hpm;have m4':bH rvA b.rv++[([y.sp],.sl rt (l.map Qe))]=bH rvA (Vb y.sp (rt,l) b.rv):=m4 (rt,l);simp[h8,m2,EI];rw[m4'];simpa[aP,aU,Qp,Qc]using this
  simp[Aj,EI,aP,aU,Qp,Qc,hr,rH,Qm,s2,m2,rvA];have:=hK b.rv [] [] mu.1 mu.2 IU (IU _ _ m1 it y hf rfl);simpa[aP,aU,Qp,Qc]using this
 have s2:Xk [0] (bH iA (Uf b.p)) 0=none:=by
  rcases Xq iA 0 (Uf b.p) 0 with⟨_,s2,_,_⟩|⟨su,sn,s1,_⟩
  ·exact s2
  rw[Uf,xU _ _ _ rfl]at s1;cases s1
 simp[Aj,EI,aP,aU,Qp,Qc,hr,s2];exact nil (by simp[Kz,hf])
open Go Go.Abs
def zU(pre:List (List AV))(p:Pl)(at_:Int)(pl:List (Int×Int))(im:List (Int×It))(sp:List (Int×Int))(post:List (List AV))(ls:List Nat):AM:=
 ⟨pre++(Qc p::[.aJ 0 (bH iA pl)]::[.aJ 0 (bH rH im)]::[.aJ 0 (bH iA sp)]::[.aJ 0 []]::[.aJ 0 []]::[.aJ 0 []]::[.aJ 0 []]::[.aJ 2 []]::Qp pre.length ⟨p,at_,[],[],[],[],[]⟩::post),ls,fun _=>.gone,0⟩
def aw5(pre:List (List AV))(p:Pl)(at_:Int)(ls:List Nat)(f:Nat->AV)(m:AM):Prop:=∃(i:Nat)(pl:List (Int×Int))(post:List (List AV)),f 36=I i/\i<=p.ens.length/\Gx (p.ens.drop i) i pl=Dj p/\m=zU pre p at_ pl [] [] post ls
def aw6(pre:List (List AV))(p:Pl)(at_:Int)(ls:List Nat)(f:Nat->AV)(m:AM):Prop:=∃(i:Nat)(im:List (Int×It))(sp:List (Int×Int))(post:List (List AV)),f 67=I i/\i<=p.aM.length/\Ls (p.aM.drop i) im=zS p/\zR (p.aM.drop i) im sp=Uf p/\m=zU pre p at_ (Dj p) im sp post ls
def aw7(pre:List (List AV))(p:Pl)(at_:Int)(past:List Ad)(ls:List Nat)(f:Nat->AV)(m:AM):Prop:=∃(i:Nat)(us en:List (Int×Int))(post:List (List AV)),f 108=I i/\i<=past.length/\pV i us/\OF (past.drop i) us=OF past []/\OG p (past.drop i) en=OG p past []/\m=aP pre ⟨p,at_,us,en,[],[],[]⟩ post ls
def IV:Nat->FuncId->List AV->AV:=fun _ f _=>if f=999999 then .junk else .gd false .junk
def xW(pre:List (List AV))(ls:List Nat)(p:Pl)(at_:Int)(past:List Ad)(rtp:Rt)(IN:p.ens.length<=1000000000)(cI:p.aM.length<=1000000000)(jd:past.length<=1000000000)(Y:YT)(K:AV->AM->Prop)
  (hK:∀ex,K (.ptr (pre.length+9) 0) (aP pre ⟨p,at_,OF past [],OG p past [],[],[],[]⟩ ex ls)):
  an Tryz.prog az Y 121 [.agg (Qc p),I at_,.sl rtp (past.map Vj)] ⟨pre,ls,fun _=>.gone,0⟩ K:=by
 refine Xe acw IV (by simp) ?_;simp[Ew,Qc,IV];refine Qj BU (aw5 pre p at_ ls) (fun f _=>p.ens.length-(numOf (f 36)).toNat) ?_ ?_
 ·exact⟨0,[],[],by simp,by omega,rfl,by simp[zU,Qp,Qc]⟩
 rintro f m ⟨i,pl,post,h36,hi,gK,rfl⟩;rcases zzaa i p.ens.length with ai|bu
 ·obtain⟨e,he⟩:=aR ai;have ah:=Qdn he;have aa:(i:Int)<(p.ens.length:Int):=by omega
  have hw:=bK i (by omega);rw[Zb he,Gx]at gK;rcases Xq iA e.id pl 0 with⟨h1,h2,_,h4⟩|⟨u,n,h1,h2,_⟩
  ·rw[h1]at gK;have IT:bH iA pl++[([e.id],I i)]=bH iA (Vb e.id (i:Int) pl):=h4 _;simp[h36,ai,aa,ah,Qd,zU,Qp,Qc,h2,BU,hw];refine⟨aO,⟨i+1,_,post++[Qd e],by simp,by omega,gK,?_⟩,by omega⟩
   ·rw[IT];simp[zU,Qp,Qc,Qd]
  rw[h1]at gK;simp[h36,ai,aa,ah,Qd,zU,Qp,Qc,h2,BU,hw];refine⟨aO,⟨i+1,pl,post++[Qd e],by simp,by omega,gK,by simp[zU,Qp,Qc,Qd]⟩,by omega⟩
 have bJ:¬(i:Int)<(p.ens.length:Int):=by omega
 rw[zzal bu,Gx]at gK;subst gK;simp[h36,bJ,zzbl.2 bu,BU,zU,Qp,Qc,IV];refine Qj iS (aw6 pre p at_ ls) (fun f _=>p.aM.length-(numOf (f 67)).toNat) ?_ ?_
 ·exact⟨0,[],[],post,by simp,by omega,rfl,rfl,by simp[zU,Qp,Qc]⟩
 clear bu bJ hi h36;rintro g m ⟨i,im,sp,post,h67,hi,RM,dm,rfl⟩;rcases zzaa i p.aM.length with ai|bu
 ·obtain⟨x,hx⟩:=aR ai;have ah:Qh (p.aM.map Qm) i=Qm x:=Qs (by simp[hx]);have aa:(i:Int)<(p.aM.length:Int):=by omega
  have hw:=bK i (by omega);rw[Zb hx,Ls]at RM;rw[Zb hx,zR]at dm;simp[h67,ai,aa,ah,Qm,zU,Qp,Qc,iS,hw,IV];refine Xy ?_;rcases Xq rH x.id im 0 with⟨h1,h2,_,h4⟩|⟨u,n,h1,h2,_⟩
  ·rw[h1]at RM dm;have IT:bH rH im++[([x.id],.agg [I x.id,I x.ki,I x.fr,I x.sp,I x.ra])]=bH rH (Vb x.id x im):=h4 x;simp only at RM dm;by_cases s1:1<=x.sp
   ·by_cases s2:x.sp<=200
    ·rw[if_pos ⟨s1,s2⟩]at dm;rcases Xq iA x.sp sp 0 with⟨_,q2,_,q4⟩|⟨u,n,_,q2,_,_,_,q4⟩
     ·have q4':bH iA sp++[([x.sp],I x.id)]=bH iA (Vb x.sp x.id sp):=q4 _;simp[h67,ai,aa,ah,Qm,zU,Qp,Qc,iS,hw,IV,h2,s1,s2,q2];refine⟨aO,⟨i+1,Vb x.id x im,Vb x.sp x.id sp,post++[Qm x,[I 0,I 0,I 0,I 0,I 0]],by simp,by omega,RM,dm,?_⟩,by omega⟩
      ·rw[IT,q4'];simp[zU,Qp,Qc,Qm]
     have q4':(bH iA sp).set n ([x.sp],I x.id)=bH iA (Vb x.sp x.id sp):=q4 _;rw[zzbu]at q2;simp[h67,ai,aa,ah,Qm,zU,Qp,Qc,iS,hw,IV,h2,s1,s2,q2];refine⟨aO,⟨i+1,Vb x.id x im,Vb x.sp x.id sp,post++[Qm x,[I 0,I 0,I 0,I 0,I 0]],by simp,by omega,RM,dm,?_⟩,by omega⟩
     ·rw[IT,q4'];simp[zU,Qp,Qc,Qm]
    rw[if_neg (fun h=>s2 h.2)]at dm;simp[h67,ai,aa,ah,Qm,zU,Qp,Qc,iS,hw,IV,h2,s1,s2];refine⟨aO,⟨i+1,Vb x.id x im,sp,post++[Qm x,[I 0,I 0,I 0,I 0,I 0]],by simp,by omega,RM,dm,?_⟩,by omega⟩
    ·rw[IT];simp[zU,Qp,Qc,Qm]
   rw[if_neg (fun h=>s1 h.1)]at dm;simp[h67,ai,aa,ah,Qm,zU,Qp,Qc,iS,hw,IV,h2,s1];refine⟨aO,⟨i+1,Vb x.id x im,sp,post++[Qm x,[I 0,I 0,I 0,I 0,I 0]],by simp,by omega,RM,dm,?_⟩,by omega⟩
   ·rw[IT];simp[zU,Qp,Qc,Qm]
  rw[h1]at RM dm;simp[h67,ai,aa,ah,Qm,zU,Qp,Qc,iS,hw,IV,h2,rH];refine⟨aO,⟨i+1,im,sp,post++[Qm x,Qm u],by simp,by omega,RM,dm,by simp[zU,Qp,Qc,Qm]⟩,by omega⟩
 have bJ:¬(i:Int)<(p.aM.length:Int):=by omega
 rw[zzal bu]at RM dm;have RM:im=zS p:=RM;have dm:sp=Uf p:=dm;subst RM;subst dm;simp[h67,bJ,zzbl.2 bu,iS,zU,Qp,Qc,IV];refine Qj gD (aw7 pre p at_ past ls) (fun f _=>past.length-(numOf (f 108)).toNat) ?_ ?_
 ·exact⟨0,[],[],post,by simp,by omega,fun k v h=>(by cases h),rfl,rfl,by simp[aP,aU,Qp,Qc,Tr]⟩
 clear bu bJ hi h67;rintro h m ⟨i,us,en,post,h108,hi,hus,hu,he,rfl⟩;rcases zzaa i past.length with ai|bu
 ·obtain⟨a,ha⟩:=aR ai;have ah:Qh (past.map Vj) i=Vj a:=Qs (by simp[ha]);have aa:(i:Int)<(past.length:Int):=by omega
  have hw:=bK i (by omega);rw[Zb ha,OF]at hu;rw[Zb ha,OG]at he;have ZE:pV (i+1:Nat) us:=fun k v h=>by have:=hus k v h;omega
  have skip:rF a=false->OF (past.drop (i+1)) us=OF past []/\OG p (past.drop (i+1)) en=OG p past []:=fun h=>by
   rw[h]at hu he;exact⟨hu,he⟩
  by_cases c1:a.re=0
  ·by_cases c2:0<=a.fr
   ·by_cases c3:a.fr<=100000000
    ·by_cases c4:1<=a.fs
     ·by_cases c5:a.fs<=100000000
      ·have hc:rF a=true:=by simp[rF];omega
       rw[hc]at hu he;simp only[if_true]at hu he;have hwa:IntKind.i64.wrap (a.fr+a.fs)=a.fr+a.fs:=by rw[Qk]<;>omega
       simp[h108,ai,aa,ah,Vj,aP,aU,Qp,Qc,gD,hw,IV,c1,c2,c3,c4,c5,hwa];have kn:=afD pre (post++[Vj a]) ls ⟨p,at_,us,en,[],[],[]⟩ us en a.it (a.fr+a.fs) (fun k v h=>by have:=hus k v h;omega) Y;simp only[aP,aU,Qp,Qc,Vj,c1]at kn;refine kn _ fun ex=>?_;simp[h108,gD,hw];refine⟨aO,⟨i+1,Vx us a.it,Zn p en a.it (a.fr+a.fs),post++[[I a.it,I 0,I a.fr,I a.fs]]++ex,by simp,by omega,?_,hu,he,by simp[aP,aU,Qp,Qc]⟩,by omega⟩
       ·have:=hus.note (by omega) a.it;exact this
      obtain⟨hu,he⟩:=skip (by simp[rF];omega);simp[h108,ai,aa,ah,Vj,aP,aU,Qp,Qc,gD,hw,IV,c1,c2,c3,c4,c5];refine⟨aO,⟨i+1,us,en,post++[[I a.it,I 0,I a.fr,I a.fs]],by simp,by omega,ZE,hu,he,by simp[aP,aU,Qp,Qc]⟩,by omega⟩
     obtain⟨hu,he⟩:=skip (by simp[rF];omega);simp[h108,ai,aa,ah,Vj,aP,aU,Qp,Qc,gD,hw,IV,c1,c2,c3,c4];refine⟨aO,⟨i+1,us,en,post++[[I a.it,I 0,I a.fr,I a.fs]],by simp,by omega,ZE,hu,he,by simp[aP,aU,Qp,Qc]⟩,by omega⟩
    obtain⟨hu,he⟩:=skip (by simp[rF];omega);simp[h108,ai,aa,ah,Vj,aP,aU,Qp,Qc,gD,hw,IV,c1,c2,c3];refine⟨aO,⟨i+1,us,en,post++[[I a.it,I 0,I a.fr,I a.fs]],by simp,by omega,ZE,hu,he,by simp[aP,aU,Qp,Qc]⟩,by omega⟩
   obtain⟨hu,he⟩:=skip (by simp[rF];omega);simp[h108,ai,aa,ah,Vj,aP,aU,Qp,Qc,gD,hw,IV,c1,c2];refine⟨aO,⟨i+1,us,en,post++[[I a.it,I 0,I a.fr,I a.fs]],by simp,by omega,ZE,hu,he,by simp[aP,aU,Qp,Qc]⟩,by omega⟩
  obtain⟨hu,he⟩:=skip (by simp[rF,c1]);simp[h108,ai,aa,ah,Vj,aP,aU,Qp,Qc,gD,hw,IV,c1];refine⟨aO,⟨i+1,us,en,post++[[I a.it,I a.re,I a.fr,I a.fs]],by simp,by omega,ZE,hu,he,by simp[aP,aU,Qp,Qc]⟩,by omega⟩
 have bJ:¬(i:Int)<(past.length:Int):=by omega
 rw[zzal bu]at hu he;have hu:us=OF past []:=hu;have he:en=OG p past []:=he;subst hu;subst he;simp[h108,bJ,zzbl.2 bu,gD,ahp];simpa[aP,aU,Qp,Qc,Tr]using hK post
open Go Go.Abs
def Bj(b:Bd):Prop:=am2 b/\afs b/\Lu b
def Dn{α:Type}(sz:Nat)(lo:Nat)(ls:List Nat)(rt:Rt)(l:List α):Prop:=(l=[]/\rt=.nil)\/∃k,rt=.own k sz/\lo<=k/\ls[k]?=some l.length/\l≠[]
def Dn.app{α:Type}{sz lo:Nat}{ls exl:List Nat}{rt:Rt}{l:List α}(h:Dn sz lo ls rt l):Dn sz lo (ls++exl) rt l:=by
 obtain h|⟨k,h1,h2,h3,h4⟩:=h
 ·exact .inl h
 exact .inr ⟨k,h1,h2,by rw[zzag (zza.1 h3).1];exact h3,h4⟩
def afF(p:Pl)(a b:Int):0<=Kh p a b/\Kh p a b<=6000000000:=by
 unfold Kh;cases Xj a p.aM with
 |none=>simp
 |some x=>
  cases Xj b p.aM with
  |none=>simp
  |some y=>
   simp only;split
   ·omega
   rename_i h;simp only[not_or]at h;have hv:Vf p.nu p.de=true:=by simpa using h.2.1
   obtain⟨v1,v2,v3,v4,v5⟩:=Jy hv;have hg:=OJ x.sp y.sp p.cls 0 (by omega);generalize pT x.sp y.sp p.cls 0=g at hg;rw[xA,if_pos ⟨hv,by omega,by omega⟩];have hp:=Dp hg ⟨(by omega:0<=p.nu),v2⟩;have:=Dq (x:=g*p.nu+p.de-1) (y:=p.de) (by omega) (by omega);omega
def uR{p:Pl}{it:Int}:∀r∈Kz p it,0<=r.2/\r.2<=6000000000:=fun r hr=>by
 unfold Kz at hr;cases hf:Xj it p.aM with
 |none=>rw[hf]at hr;cases hr
 |some y=>
  rw[hf]at hr;simp only at hr;cases ha:af y.sp (Uf p)with
  |none=>rw[ha]at hr;cases hr
  |some _=>
   rw[ha]at hr;simp only[zzfh]at hr;obtain⟨x,_,hx⟩:=hr;split at hx
   ·cases hx;exact afF p _ _
   cases hx
def GK(p:Pl)(it:Int):(Kz p it).length<=(Uf p).length:=by
 unfold Kz;cases Xj it p.aM with
 |none=>simp
 |some y=>
  simp only;cases af y.sp (Uf p)with
  |none=>simp
  |some _=>exact zzgs _ _
def uh(en:List (Int×Int)):Prop:=∀k v,af k en=some v->0<=v/\v<=1000000000
def uh.note{p:Pl}{en:List (Int×Int)}(h:uh en)(it e:Int)(he:0<=e/\e<=1000000000):uh (Zn p en it e):=fun k v hk=>by
 unfold Zn at hk;cases hf:Xj it p.aM with
 |none=>rw[hf]at hk;exact h k v hk
 |some x=>
  rw[hf]at hk;simp only[Uo]at hk;split at hk
  ·cases hk;cases ha:af x.sp en with
   |none=>simp;omega
   |some u=>have:=h _ u ha;simp;omega
  exact h k v hk
def xX{en:List (Int×Int)}(h:uh en):∀{l:List Sp}{f M:Int},(∀r∈l,0<=r.2/\r.2<=6000000000)->f<=M->7000000000<=M->Un en l f<=M
 |[],f,M,_,h1,_=>h1
 |r::l,f,M,hl,h1,h2=>by
  rw[Un];refine xX h (fun x hx=>hl x (by simp[hx])) ?_ h2;have:=hl r (by simp);cases ha:af r.1 en with
  |none=>exact h1
  |some e=>have:=h _ e ha;simp only;omega
def ZF(l:List Sp):Option (List Sp)->Option (List Sp)
 |none=>none
 |some r=>some (l++r)
def am5(pre post:List (List AV))(ls:List Nat)(b:Bd)(ids:List Int)(N:Int)(T:Option (List Sp))(f:Nat->AV)(m:AM):Prop:=
 ∃(i:Nat)(us en:List (Int×Int))(free last:Int)(l:List Sp)(rt:Rt)(rv:List (Int×(Rt×List Sp)))(li:List (Int×Int))(pm:List ((Int×Int)×List Sp))(bx:List (List AV))(exl:List Nat),
  f 39=I i/\i<=ids.length/\f 8=I free/\f 9=I last/\f 10=.sl rt (l.map Qe)/\l.length=i/\(-1<=last/\last<=1000000000)/\free<=9223372036854775807/\pV (N+i) us/\uh en/\Dn 2 ls.length (ls++exl) rt l/\Bj {b with rv:=rv,li:=li,pm:=pm}/\
  ZF l (Jp b.p (ids.drop i) us en free last)=T/\m=aP pre {b with rv:=rv,li:=li,pm:=pm} (post++([.aJ 0 (bH iA us)]::[.aJ 0 (bH iA en)]::bx)) (ls++exl)
def ajZ(pre post bx0:List (List AV))(e:En)(ls:List Nat)(b:Bd)(us en:List (Int×Int))(L:List Sp)(T:Int)(f:Nat->AV)(m:AM):Prop:=
 ∃(j:Nat)(fr:Int)(bx:List (List AV)),f 90=I j/\j<=L.length/\f 17=I fr/\Un en (L.drop j) fr=T/\m=aP pre b (post++([.aJ 0 (bH iA us)]::[.aJ 0 (bH iA en)]::(bx0++(Qd e::bx)))) ls
def IW:Nat->FuncId->List AV->AV:=fun _ f _=>if f=999999 then .junk else .gd false .junk
def Qel(pre post:List (List AV))(ls:List Nat)(b:Bd)(ids:List Int)(rt0:Rt)(N:Int)(hN:0<=N/\N<=100000000)(asJ:ids.length<=100000000)
  (hc:b.p.cls.length<=1000000)(gO:b.p.sh.length<=1000000000)(cI:b.p.aM.length<=1000000000)(IN:b.p.ens.length<=1000000000)(mQ:(Uf b.p).length<=1000000000)(cS:b.p.ln<=9223372036854775807)(Ts:∀e∈b.p.ens,e.ea<=9223372036854775807)
  (IA:b.at_<=9223372036854775807)(hus:pV N b.us)(afG:uh b.en)(sF:Bj b)(Y:YT)(K:AV->AM->Prop)
  (rE:Jp b.p ids b.us b.en b.at_ (-1)=none->∀rv li pm ex exl,Bj {b with rv:=rv,li:=li,pm:=pm}->K (.aW [.sl .nil [],.bool false]) (aP pre {b with rv:=rv,li:=li,pm:=pm} (post++ex) (ls++exl)))
  (hK1:∀l,Jp b.p ids b.us b.en b.at_ (-1)=some l->∀rv li pm ex exl rt,Bj {b with rv:=rv,li:=li,pm:=pm}->Dn 2 ls.length (ls++exl) rt l->K (.aW [.sl rt (l.map Qe),.bool true]) (aP pre {b with rv:=rv,li:=li,pm:=pm} (post++ex) (ls++exl))):
  an Tryz.prog az Y 122 [.ptr (pre.length+9) 0,.sl rt0 (ids.map Qy)] (aP pre b post ls) K:=by
 obtain⟨T,hT⟩:∃T,Jp b.p ids b.us b.en b.at_ (-1)=T:=⟨_,rfl⟩;rw[hT]at rE hK1;refine Xe acy IW (by simp) ?_;simp[Ex,aP,aU,Qp,Qc];refine Qbn [(.mp (pre.length+(post.length+10)),aP pre b (post++[[.aJ 0 (bH iA b.us)]]) ls)] ?_;simp[Ex,aP,aU,Qp,Qc,IW];refine⟨OQ (kn:=0) (kvs:=bH iA b.us) (by simp) ⟨by simp,by simp⟩,OQ (kn:=0) (kvs:=bH iA b.en) (by simp) ?_⟩;simp[IW];refine Qj nj (am5 pre post ls b ids N T) (fun f _=>ids.length-(numOf (f 39)).toNat) ?_ ?_
 ·refine⟨0,b.us,b.en,b.at_,-1,[],.nil,b.rv,b.li,b.pm,[],[],by simp,by omega,by simp,by simp,by simp,rfl,by omega,IA,by simpa using hus,afG,.inl ⟨rfl,rfl⟩,sF,?_,by simp[aP,aU,Qp,Qc]⟩;rw[zzdb,hT];cases T<;>rfl
 rintro f m ⟨i,us,en,free,last,l,rt,rv,li,pm,bx,exl,h39,hi,h8,h9,gi,zF,hla,uD,hu,he,hO,hB,hg,rfl⟩;rcases zzaa i ids.length with ai|bu
 ·obtain⟨id,aN⟩:=aR ai;have ah:Qh (ids.map Qy) i=Qy id:=Qs (by simp[aN]);have aa:(i:Int)<(ids.length:Int):=by omega
  have hw:=bK i (by omega);rw[Zb aN,Jp]at hg;have no:T=none->∀rv li pm ex exl,Bj {b with rv:=rv,li:=li,pm:=pm}->K (.aW [.sl .nil [],.bool false]) (aP pre {b with rv:=rv,li:=li,pm:=pm} (post++ex) (ls++exl)):=rE;rcases Xq iA id (Dj b.p) 0 with⟨p1,p2,_⟩|⟨u,n,p1,p2,_⟩
  ·have p1:zT id b.p.ens 0=none:=by
    rw[uN]at p1;cases hx:zT id b.p.ens 0 with
    |none=>rfl
    |some k=>rw[hx]at p1;cases p1
   rw[p1]at hg;simp[h39,h8,h9,gi,ai,aa,ah,Qy,aP,aU,Qp,Qc,nj,p2,rY];have:=rE hg.symm rv li pm ([.aJ 0 (bH iA us)]::[.aJ 0 (bH iA en)]::bx) exl hB;simpa[aP,aU,Qp,Qc]using this
  obtain⟨k,pk,rfl⟩:∃k:Nat,zT id b.p.ens 0=some k/\(k:Int)=u:=by
   rw[uN]at p1;cases hx:zT id b.p.ens 0 with
   |none=>rw[hx]at p1;cases p1
   |some k=>rw[hx]at p1;cases p1;exact⟨k,rfl,rfl⟩
  rw[zzbu]at p2;rw[pk]at hg;simp only at hg;obtain⟨_,e,he1,he2,he3⟩:=rG pk;rw[zzfg]at he1;have qv:=(zza.1 he1).1;have zG:(k:Int)<(b.p.ens.length:Int):=by omega
  have xY:=Qdn he1;by_cases c1:(k:Int)<=last
  ·rw[if_pos c1]at hg;simp[h39,h8,h9,gi,ai,aa,ah,Qy,aP,aU,Qp,Qc,nj,p2,rY,c1];have:=rE hg.symm rv li pm ([.aJ 0 (bH iA us)]::[.aJ 0 (bH iA en)]::bx) exl hB;simpa[aP,aU,Qp,Qc]using this
  rw[if_neg c1,he1]at hg;simp only at hg;simp[h39,h8,h9,gi,ai,aa,ah,Qy,aP,aU,Qp,Qc,nj,p2,c1,qv,zG,xY,Qd,IW];have k82:=fun K'=>afr pre (post++([.aJ 0 (bH iA us)]::[.aJ 0 (bH iA en)]::(bx++[Qd e]))) (ls++exl) {b with rv:=rv,li:=li,pm:=pm} e.it (by simp only;omega) cI hB.1 Y K';simp only[aP,aU,Qp,Qc,Qd]at k82;refine k82 _ fun sU ZG=>?_;clear k82;have oB:Bj {b with rv:=rv,li:=sU,pm:=pm}:=⟨ZG,hB.2.1,hB.2.2⟩;obtain⟨R,hR⟩:∃R,Wv b.p e.it=R:=⟨_,rfl⟩;rw[hR]at hg
  obtain⟨cu,uv,asK⟩:∃cu,(af e.it us).getD 0=cu/\((Xk [e.it] (bH iA us) 0=none/\cu=0)\/∃n,Xk [e.it] (bH iA us) 0=some (n,I cu)):=by
   rcases Xq iA e.it us 0 with⟨q1,q2,_⟩|⟨u,n,q1,q2,_⟩
   ·exact⟨0,by rw[q1];rfl,.inl ⟨q2,rfl⟩⟩
   exact⟨u,by rw[q1];rfl,.inr ⟨_,q2⟩⟩
  rw[uv]at hg;by_cases r2:R≠ -1/\R<=cu
  ·rw[if_pos r2]at hg;have:=rE hg.symm rv sU pm ([.aJ 0 (bH iA us)]::[.aJ 0 (bH iA en)]::(bx++[Qd e])) exl oB;obtain⟨r1,r2⟩:=r2;obtain⟨q2,rfl⟩|⟨n2,q2⟩:=asK
   ·simp[aP,aU,Qp,Qc,Qd,IW,q2,r1,r2,hR,rY];simpa[aP,aU,Qp,Qc,Qd]using this
   simp[aP,aU,Qp,Qc,Qd,IW,q2,r1,r2,hR,rY];simpa[aP,aU,Qp,Qc,Qd]using this
  rw[if_neg r2]at hg
  have r3:R= -1\/(R≠ -1/\¬R<=cu):=by
   by_cases h:R= -1
   ·exact .inl h
   exact .inr ⟨h,fun h'=>r2 ⟨h,h'⟩⟩
  clear r2;obtain r1|⟨r1,r2⟩:=r3
  ·have q2:True:=trivial;have r2:True:=trivial;simp[h39,h8,h9,gi,aP,aU,Qp,Qc,Qd,IW,q2,r1,r2,hR];have k83:=fun K'=>GJ pre (post++([.aJ 0 (bH iA us)]::[.aJ 0 (bH iA en)]::(bx++[Qd e]))) (ls++exl) {b with rv:=rv,li:=sU,pm:=pm} e.it (by simp only;omega) cI mQ hB.2.1 Y K';simp only[aP,aU,Qp,Qc,Qd]at k83;refine k83 _ fun Ee zf eE rt3 L ZH xZ=>?_;clear k83;have YA:Bj {b with rv:=Ee,li:=sU,pm:=pm}:=⟨ZG,ZH,hB.2.2⟩;have hLb:∀r∈L,0<=r.2/\r.2<=6000000000:=fun r hr=>uR r (xZ.mem_iff.1 hr)
   have hLl:L.length<=1000000000:=by
    rw[xZ.length_eq];have:=GK b.p e.it;omega
   have hfp:=xR en xZ (max e.ea free);obtain⟨F,hF⟩:∃F,Un en (Kz b.p e.it) (max e.ea free)=F:=⟨_,rfl⟩;rw[hF]at hfp
   have hFb:F<=9223372036854775807:=by
    rw[<- hF];refine xX he uR ?_ (by omega);have:=Ts e (zzac he1);omega
   have Tk:(if e.ea<free then free else e.ea)=max e.ea free:=by omega
   simp[h39,h8,h9,gi,aP,aU,Qp,Qc,Qd,IW,Tk];refine Qj iT (ajZ pre post bx e (ls++(exl++eE)) {b with rv:=Ee,li:=sU,pm:=pm} us en L F) (fun f _=>L.length-(numOf (f 90)).toNat) ?_ ?_
   ·exact⟨0,max e.ea free,zf,by simp,by omega,by simp,by rw[zzdb];exact hfp,by simp[aP,aU,Qp,Qc,Qd]⟩
   rintro g m ⟨j,fr,bx4,g90,hj,g17,Dr,rfl⟩;rcases zzaa j L.length with jlt|jge
   ·obtain⟨r,hr⟩:=aR jlt;have ZI:=Zc hr;have ZJ:(j:Int)<(L.length:Int):=by omega
    have sM:=bK j (by omega);rw[Zb hr,Un]at Dr;have nP:=hLb r (zzac hr);rcases Xq iA r.1 en 0 with⟨v1,v2,_⟩|⟨v,nv,v1,v2,_⟩
    ·rw[v1]at Dr;simp[g90,g17,iT,jlt,ZJ,ZI,Qe,sM,aP,aU,Qp,Qc,Qd,v2];refine⟨aO,⟨j+1,fr,bx4++[Qe r],by simp,by omega,by simp[g17],Dr,by simp[aP,aU,Qp,Qc,Qe,Qd]⟩,by omega⟩
    rw[v1]at Dr;have hvb:=he r.1 v v1;have hwv:IntKind.i64.wrap (v+r.2)=v+r.2:=by rw[Qk]<;>omega
    have hmv:(if fr<v+r.2 then v+r.2 else fr)=max fr (v+r.2):=by omega
    simp[g90,g17,iT,jlt,ZJ,ZI,Qe,sM,aP,aU,Qp,Qc,Qd,v2,hwv,hmv];refine⟨aO,⟨j+1,max fr (v+r.2),bx4++[Qe r],by simp,by omega,by simp,Dr,by simp[aP,aU,Qp,Qc,Qe,Qd]⟩,by omega⟩
   have jin:¬(j:Int)<(L.length:Int):=by omega
   rw[zzal jge]at Dr;have Dr:fr=F:=Dr;subst Dr;have k84:=fun K'=>OM pre (post++([.aJ 0 (bH iA us)]::[.aJ 0 (bH iA en)]::(bx++(Qd e::bx4)))) (ls++(exl++eE)) {b with rv:=Ee,li:=sU,pm:=pm} e fr hc gO cI cS hFb hB.2.2 Y K';simp only[aP,aU,Qp,Qc,Qd]at k84;have hO':Dn 2 ls.length (ls++(exl++eE)) rt l:=by rw[<- zzax];exact hO.app
   rw[hF]at hg;simp[g90,g17,jin,zzbl.2 jge,iT,nj,h39,h8,h9,gi,aP,aU,Qp,Qc,Qd,IW];refine k84 _ fun ZK IX am6=>?_;clear k84;have ZL:Bj {b with rv:=Ee,li:=sU,pm:=ZK}:=⟨ZG,ZH,am6⟩;cases hs:Yh b.p e fr with
   |none=>
    rw[hs]at hg;have:=rE hg.symm Ee sU ZK ([.aJ 0 (bH iA us)]::[.aJ 0 (bH iA en)]::(bx++(Qd e::(bx4++IX)))) (exl++eE) ZL;simp[GB,rY];simpa[aP,aU,Qp,Qc,Qd]using this
   |some s=>
    rw[hs]at hg;simp only at hg
    have hg:ZF (l++[(id,s)]) (Jp b.p (ids.drop (i+1)) (Vx us e.it) (Zn b.p en e.it (s+e.fr)) (s+e.fr) k)=T:=by
     rw[<- hg];cases Jp b.p (ids.drop (i+1)) (Vx us e.it) (Zn b.p en e.it (s+e.fr)) (s+e.fr) k<;>simp[ZF]
    obtain⟨a1,a2,a3,a4,a5,a6,_⟩:=Qbi hs;have hws:IntKind.i64.wrap (s+e.fr)=s+e.fr:=by rw[Qk]<;>omega
    have kn:=fun LS K'=>ZD pre post (bx++(Qd e::(bx4++IX))) LS {b with rv:=Ee,li:=sU,pm:=ZK} us en e.it (s+e.fr) (fun k v h=>by have:=hu k v h;omega) Y K';simp only[aP,aU,Qp,Qc,Qd]at kn;have J8:=hu.note (by omega) e.it;have he2:uh (Zn b.p en e.it (s+e.fr)):=he.note e.it _ (by omega);have hN1:N+i+1=N+(i+1:Nat):=by omega
    rw[hN1]at J8;obtain⟨oA,tO⟩|⟨k2,tO,cQ,cV,_⟩:=hO'
    ·subst tO;subst oA;simp[GB,h39,h8,h9,gi,aP,aU,Qp,Qc,Qd,IW,hws];refine kn _ _ fun ex5=>?_;refine⟨aO,⟨i+1,Vx us e.it,Zn b.p en e.it (s+e.fr),s+e.fr,k,[(id,s)],.own (ls.length+(exl.length+eE.length)) 2,Ee,sU,ZK,bx++(Qd e::(bx4++IX++ex5)),exl++(eE++[1]),by simp[hw],by omega,by simp,by simp,by simp[Qe],by simp at zF;simp[zF],by omega,by omega,J8,he2,.inr ⟨_,rfl,by omega,?_,by simp⟩,ZL,hg,?_⟩,by simp[hw];omega⟩
     ·have:(ls++(exl++(eE++[1])))=(ls++(exl++eE))++[1]:=by simp
      rw[this,zzan (by simp)];simp
     simp[aP,aU,Qp,Qc,Qd]
    subst tO;have Ba:=(zza.1 cV).1;have bU:(ls++(exl++eE)).set k2 (l.length+1)=ls++(exl++eE).set (k2-ls.length) (l.length+1):=zzct _ _ cQ;simp[GB,h39,h8,h9,gi,aP,aU,Qp,Qc,Qd,IW,hws,cV];refine⟨⟨?_,by omega⟩,kn _ _ fun ex5=>?_⟩
    ·rintro row (⟨a,b,_,rfl⟩|rfl)<;>rfl
    refine⟨aO,⟨i+1,Vx us e.it,Zn b.p en e.it (s+e.fr),s+e.fr,k,l++[(id,s)],.own k2 2,Ee,sU,ZK,bx++(Qd e::(bx4++IX++ex5)),(exl++eE).set (k2-ls.length) (l.length+1),by simp[hw],by omega,by simp,by simp,by simp[Qe],by simp[zF],by omega,by omega,J8,he2,.inr ⟨k2,rfl,cQ,?_,by simp⟩,ZL,hg,?_⟩,by simp[hw];omega⟩
    ·rw[<- bU,zzaz Ba];simp
    simp only[bU];simp[aP,aU,Qp,Qc,Qd]
  obtain⟨q2,rfl⟩|⟨n2,q2⟩:=asK
  all_goals
   simp[h39,h8,h9,gi,aP,aU,Qp,Qc,Qd,IW,q2,r1,r2,hR];have k83:=fun K'=>GJ pre (post++([.aJ 0 (bH iA us)]::[.aJ 0 (bH iA en)]::(bx++[Qd e]))) (ls++exl) {b with rv:=rv,li:=sU,pm:=pm} e.it (by simp only;omega) cI mQ hB.2.1 Y K';simp only[aP,aU,Qp,Qc,Qd]at k83;refine k83 _ fun Ee zf eE rt3 L ZH xZ=>?_;clear k83;have YA:Bj {b with rv:=Ee,li:=sU,pm:=pm}:=⟨ZG,ZH,hB.2.2⟩;have hLb:∀r∈L,0<=r.2/\r.2<=6000000000:=fun r hr=>uR r (xZ.mem_iff.1 hr)
   have hLl:L.length<=1000000000:=by
    rw[xZ.length_eq];have:=GK b.p e.it;omega
   have hfp:=xR en xZ (max e.ea free);obtain⟨F,hF⟩:∃F,Un en (Kz b.p e.it) (max e.ea free)=F:=⟨_,rfl⟩;rw[hF]at hfp
   have hFb:F<=9223372036854775807:=by
    rw[<- hF];refine xX he uR ?_ (by omega);have:=Ts e (zzac he1);omega
   have Tk:(if e.ea<free then free else e.ea)=max e.ea free:=by omega
   simp[h39,h8,h9,gi,aP,aU,Qp,Qc,Qd,IW,Tk];refine Qj iT (ajZ pre post bx e (ls++(exl++eE)) {b with rv:=Ee,li:=sU,pm:=pm} us en L F) (fun f _=>L.length-(numOf (f 90)).toNat) ?_ ?_
   ·exact⟨0,max e.ea free,zf,by simp,by omega,by simp,by rw[zzdb];exact hfp,by simp[aP,aU,Qp,Qc,Qd]⟩
   rintro g m ⟨j,fr,bx4,g90,hj,g17,Dr,rfl⟩;rcases zzaa j L.length with jlt|jge
   ·obtain⟨r,hr⟩:=aR jlt;have ZI:=Zc hr;have ZJ:(j:Int)<(L.length:Int):=by omega
    have sM:=bK j (by omega);rw[Zb hr,Un]at Dr;have nP:=hLb r (zzac hr);rcases Xq iA r.1 en 0 with⟨v1,v2,_⟩|⟨v,nv,v1,v2,_⟩
    ·rw[v1]at Dr;simp[g90,g17,iT,jlt,ZJ,ZI,Qe,sM,aP,aU,Qp,Qc,Qd,v2];refine⟨aO,⟨j+1,fr,bx4++[Qe r],by simp,by omega,by simp[g17],Dr,by simp[aP,aU,Qp,Qc,Qe,Qd]⟩,by omega⟩
    rw[v1]at Dr;have hvb:=he r.1 v v1;have hwv:IntKind.i64.wrap (v+r.2)=v+r.2:=by rw[Qk]<;>omega
    have hmv:(if fr<v+r.2 then v+r.2 else fr)=max fr (v+r.2):=by omega
    simp[g90,g17,iT,jlt,ZJ,ZI,Qe,sM,aP,aU,Qp,Qc,Qd,v2,hwv,hmv];refine⟨aO,⟨j+1,max fr (v+r.2),bx4++[Qe r],by simp,by omega,by simp,Dr,by simp[aP,aU,Qp,Qc,Qe,Qd]⟩,by omega⟩
   have jin:¬(j:Int)<(L.length:Int):=by omega
   rw[zzal jge]at Dr;have Dr:fr=F:=Dr;subst Dr;have k84:=fun K'=>OM pre (post++([.aJ 0 (bH iA us)]::[.aJ 0 (bH iA en)]::(bx++(Qd e::bx4)))) (ls++(exl++eE)) {b with rv:=Ee,li:=sU,pm:=pm} e fr hc gO cI cS hFb hB.2.2 Y K';simp only[aP,aU,Qp,Qc,Qd]at k84;have hO':Dn 2 ls.length (ls++(exl++eE)) rt l:=by rw[<- zzax];exact hO.app
   rw[hF]at hg;simp[g90,g17,jin,zzbl.2 jge,iT,nj,h39,h8,h9,gi,aP,aU,Qp,Qc,Qd,IW];refine k84 _ fun ZK IX am6=>?_;clear k84;have ZL:Bj {b with rv:=Ee,li:=sU,pm:=ZK}:=⟨ZG,ZH,am6⟩;cases hs:Yh b.p e fr with
   |none=>
    rw[hs]at hg;have:=rE hg.symm Ee sU ZK ([.aJ 0 (bH iA us)]::[.aJ 0 (bH iA en)]::(bx++(Qd e::(bx4++IX)))) (exl++eE) ZL;simp[GB,rY];simpa[aP,aU,Qp,Qc,Qd]using this
   |some s=>
    rw[hs]at hg;simp only at hg
    have hg:ZF (l++[(id,s)]) (Jp b.p (ids.drop (i+1)) (Vx us e.it) (Zn b.p en e.it (s+e.fr)) (s+e.fr) k)=T:=by
     rw[<- hg];cases Jp b.p (ids.drop (i+1)) (Vx us e.it) (Zn b.p en e.it (s+e.fr)) (s+e.fr) k<;>simp[ZF]
    obtain⟨a1,a2,a3,a4,a5,a6,_⟩:=Qbi hs;have hws:IntKind.i64.wrap (s+e.fr)=s+e.fr:=by rw[Qk]<;>omega
    have kn:=fun LS K'=>ZD pre post (bx++(Qd e::(bx4++IX))) LS {b with rv:=Ee,li:=sU,pm:=ZK} us en e.it (s+e.fr) (fun k v h=>by have:=hu k v h;omega) Y K';simp only[aP,aU,Qp,Qc,Qd]at kn;have J8:=hu.note (by omega) e.it;have he2:uh (Zn b.p en e.it (s+e.fr)):=he.note e.it _ (by omega);have hN1:N+i+1=N+(i+1:Nat):=by omega
    rw[hN1]at J8;obtain⟨oA,tO⟩|⟨k2,tO,cQ,cV,_⟩:=hO'
    ·subst tO;subst oA;simp[GB,h39,h8,h9,gi,aP,aU,Qp,Qc,Qd,IW,hws];refine kn _ _ fun ex5=>?_;refine⟨aO,⟨i+1,Vx us e.it,Zn b.p en e.it (s+e.fr),s+e.fr,k,[(id,s)],.own (ls.length+(exl.length+eE.length)) 2,Ee,sU,ZK,bx++(Qd e::(bx4++IX++ex5)),exl++(eE++[1]),by simp[hw],by omega,by simp,by simp,by simp[Qe],by simp at zF;simp[zF],by omega,by omega,J8,he2,.inr ⟨_,rfl,by omega,?_,by simp⟩,ZL,hg,?_⟩,by simp[hw];omega⟩
     ·have:(ls++(exl++(eE++[1])))=(ls++(exl++eE))++[1]:=by simp
      rw[this,zzan (by simp)];simp
     simp[aP,aU,Qp,Qc,Qd]
    subst tO;have Ba:=(zza.1 cV).1;have bU:(ls++(exl++eE)).set k2 (l.length+1)=ls++(exl++eE).set (k2-ls.length) (l.length+1):=zzct _ _ cQ;simp[GB,h39,h8,h9,gi,aP,aU,Qp,Qc,Qd,IW,hws,cV];refine⟨⟨?_,by omega⟩,kn _ _ fun ex5=>?_⟩
    ·rintro row (⟨a,b,_,rfl⟩|rfl)<;>rfl
    refine⟨aO,⟨i+1,Vx us e.it,Zn b.p en e.it (s+e.fr),s+e.fr,k,l++[(id,s)],.own k2 2,Ee,sU,ZK,bx++(Qd e::(bx4++IX++ex5)),(exl++eE).set (k2-ls.length) (l.length+1),by simp[hw],by omega,by simp,by simp,by simp[Qe],by simp[zF],by omega,by omega,J8,he2,.inr ⟨k2,rfl,cQ,?_,by simp⟩,ZL,hg,?_⟩,by simp[hw];omega⟩
    ·rw[<- bU,zzaz Ba];simp
    simp only[bU];simp[aP,aU,Qp,Qc,Qd]
 have bJ:¬(i:Int)<(ids.length:Int):=by omega
 rw[zzal bu,Jp]at hg;have hg:some (l++[])=T:=hg;rw[zzat]at hg;have:=hK1 l hg.symm rv li pm ([.aJ 0 (bH iA us)]::[.aJ 0 (bH iA en)]::bx) exl rt hB hO;simp[h39,h8,h9,gi,bJ,zzbl.2 bu,nj,rY];simpa[aP,aU,Qp,Qc]using this
open Go Go.Abs
def afH(l:List Int)(hl:l.length<=1000000000):Pure Tryz.prog az 93 [.sl .ro (l.map Qy)] (.sl .ro (l.map Qy)):=by
 cases l with
 |nil=>
  refine Vo (Xa (?_:Pure Tryz.prog az 93 [.sl .nil []] (.sl .nil [])) (Wk.sl _ _)) ?_
  ·refine Qn qC (fun _ _ _=>.junk) (by simp) ?_;simp[JJ,JK]
  refine Qn qC (fun _ _ _=>.junk) (by simp) ?_;simp[JJ,JK]
 |cons x r=>
  refine Qn qC (fun _ _ _=>.junk) (by simp) ?_;simp[JJ,JK,Qy];simp at hl;omega
def Bl{α:Type}(c:List α)(i:Nat)(h:i<c.length):(c.take i++c.drop (i+1)).length+1=c.length:=by
 simp;omega
def GL(ok:List Int->Bool)(c:List Int)(i:Nat):List Int:=
 if h:i<c.length then(if ok (c.take i++c.drop (i+1))=true then GL ok c (i+1)else GL ok (c.take i++c.drop (i+1)) i)else c
termination_by c.length-i
decreasing_by
 ·omega
 have:=Bl c i h;omega
def oC(b:Bd)(ids:List Int):Bool:=(Jp b.p ids b.us b.en b.at_ (-1)).isSome
def nZ(b:Bd)(ids:List Int):List Int:=if oC b ids=true then[]else GL (oC b) ids 0
def asL(pre post:List (List AV))(ls:List Nat)(b:Bd)(N:Nat)(T:List Int)(f:Nat->AV)(m:AM):Prop:=
 ∃(i:Nat)(c:List Int)(rv:List (Int×(Rt×List Sp)))(li:List (Int×Int))(pm:List ((Int×Int)×List Sp))(ex:List (List AV))(exl:List Nat),
  f 7=.sl .ro (c.map Qy)/\f 8=I i/\i<=c.length/\c.length<=N/\GL (oC b) c i=T/\Bj {b with rv:=rv,li:=li,pm:=pm}/\m=aP pre {b with rv:=rv,li:=li,pm:=pm} (post++ex) (ls++exl)
def OR(ids:List Int):Nat->FuncId->List AV->AV:=fun _ f l=>if f=122 then .gd false .junk else if f=93 then .sl .ro (ids.map Qy)else
 (match l with|[.sl _ [[.sl _ a],[.sl _ c]]]=>.sl .ro (a++c)|_=>.junk)
def LA(pre post:List (List AV))(ls:List Nat)(b:Bd)(ids:List Int)(rt0:Rt)(h85:∀m,Abs.Pure Tryz.prog az 93 [bF m 6 (.sl rt0 (ids.map Qy))] (.sl .ro (ids.map Qy)))(N:Int)(hN:0<=N/\N<=100000000)(asJ:ids.length<=100000000)
  (hc:b.p.cls.length<=1000000)(gO:b.p.sh.length<=1000000000)(cI:b.p.aM.length<=1000000000)(IN:b.p.ens.length<=1000000000)(mQ:(Uf b.p).length<=1000000000)(cS:b.p.ln<=9223372036854775807)(Ts:∀e∈b.p.ens,e.ea<=9223372036854775807)
  (IA:b.at_<=9223372036854775807)(hus:pV N b.us)(afG:uh b.en)(sF:Bj b)(Y:YT)(K:AV->AM->Prop)
  (hK:∀rv li pm ex exl,Bj {b with rv:=rv,li:=li,pm:=pm}->K (.sl (if oC b ids=true then .nil else .ro) ((nZ b ids).map Qy)) (aP pre {b with rv:=rv,li:=li,pm:=pm} (post++ex) (ls++exl))):
  an Tryz.prog az Y 123 [.ptr (pre.length+9) 0,.sl rt0 (ids.map Qy)] (aP pre b post ls) K:=by
 refine Xe acz (OR ids) (by simp) ?_;simp[TU,aP,aU,Qp,Qc,OR];have k42:=fun K'=>Qel pre post ls b ids rt0 N hN asJ hc gO cI IN mQ cS Ts IA hus afG sF Y K';simp only[aP,aU,Qp,Qc]at k42;refine k42 _ (fun h0 rv li pm ex exl hB=>?_) (fun l h1 rv li pm ex exl rt hB hO=>?_)
 ·have bV:oC b ids=false:=by simp[oC,h0]
  simp[OR];refine⟨h85 _,?_⟩;refine Qj vi (asL pre post ls b ids.length (nZ b ids)) (fun f _=>(match f 7 with|.sl _ c=>c.length|_=>0)-(numOf (f 8)).toNat) ?_ ?_
  ·exact⟨0,ids,rv,li,pm,ex,exl,by simp,by simp,by omega,by omega,by simp[nZ,bV],hB,by simp[aP,aU,Qp,Qc]⟩
  rintro f m ⟨i,c,rv,li,pm,ex,exl,h7,h8,hi,qt,hT,hB,rfl⟩;rcases zzaa i c.length with ai|bu
  ·have aa:(i:Int)<(c.length:Int):=by omega
   have hw:=bK i (by omega);simp[h7,h8,ai,aa,vi,aP,aU,Qp,Qc,OR,hw];have eA:List.take i (List.map Qy c)=(c.take i).map Qy:=by simp
   have eB:List.take (c.length-(i+1)) (List.drop (i+1) (List.map Qy c))=(c.drop (i+1)).map Qy:=by
    rw[zzap (by simp)];simp
   rw[eA,eB,<- zzby];have k86:=Y8 [(.ro,c.take i),(.ro,c.drop (i+1))] (by simp) (by simp) (by simp;omega);have Oq:=Bl c i ai;rw[GL,dif_pos ai]at hT;have fK:(List.map (fun x:Rt×List Int=>x.2) [(Rt.ro,c.take i),(Rt.ro,c.drop (i+1))]).flatten=c.take i++c.drop (i+1):=by simp
   rw[fK]at k86;obtain⟨o,ho⟩:∃o,c.take i++c.drop (i+1)=o:=⟨_,rfl⟩;rw[ho]at k86 Oq hT |-
   refine⟨⟨by omega,fun _ _=>rfl⟩,⟨by omega,fun _ _=>rfl⟩,k86,?_⟩;have k42:=fun K'=>Qel pre (post++ex) (ls++exl) {b with rv:=rv,li:=li,pm:=pm} o .ro N hN (by omega) hc gO cI IN mQ cS Ts IA hus afG hB Y K';simp only[aP,aU,Qp,Qc]at k42;refine k42 _ (fun h0 rv2 sU ON dW am7 oB=>?_) (fun l h1 rv2 sU ON dW am7 rt oB hO=>?_)
   ·have bV:oC b o=false:=by simp only[oC];rw[h0];rfl
    rw[bV]at hT;have hT:GL (oC b) o i=nZ b ids:=hT;simp[h7,h8,vi];refine⟨aO,⟨i,o,rv2,sU,ON,ex++dW,exl++am7,by simp,by simp[h8],by omega,by omega,hT,oB,by simp[aP,aU,Qp,Qc]⟩,?_⟩
    ·rw[zzgz (Nat.le_of_lt ai),zzds];exact Nat.sub_lt_sub_left ai (Nat.lt_succ_self i)
   have bV:oC b o=true:=by simp only[oC];rw[h1];rfl
   rw[bV]at hT;have hT:GL (oC b) c (i+1)=nZ b ids:=hT;simp[h7,h8,vi,hw];refine⟨aO,⟨i+1,c,rv2,sU,ON,ex++dW,exl++am7,by simp[h7],by simp,by omega,by omega,hT,oB,by simp[aP,aU,Qp,Qc]⟩,by omega⟩
  have bJ:¬(i:Int)<(c.length:Int):=by omega
  rw[GL,dif_neg (by omega)]at hT;have:=hK rv li pm ex exl hB;rw[<- hT,bV,if_neg (by simp)]at this;simp[h7,h8,bJ,zzbl.2 bu,vi,TV];simpa[aP,aU,Qp,Qc]using this
 have bV:oC b ids=true:=by simp[oC,h1]
 have:=hK rv li pm ex exl hB;rw[bV,if_pos rfl]at this;simp[TV];simpa[aP,aU,Qp,Qc,nZ,bV]using this
open Go Go.Abs
def Uj(p:Pl):List Int:=p.ens.map fun e=>e.id
def IY(p:Pl):Bd:=⟨p,0,[],[],[],[],[]⟩
def IZ(l:List Sp):AV:=if l=[]then .sl .nil []else .sl .ro (l.map Qe)
def RN(p:Pl):AV:=if sR p=false then .aW [.sl .nil [],.sl .nil [],I 80]else match Jp p (Uj p) [] [] 0 (-1)with
 |some l=>.aW [IZ l,.sl .nil [],I 0]
 |none=>.aW [.sl .nil [],.sl .ro ((nZ (IY p) (Uj p)).map Qy),I 90]
def mW(p:Pl):Nat->FuncId->List AV->AV:=fun _ f _=>if f=999999 then .junk else if f=120 then .bool (sR p)else .gd false .junk
def asM(p:Pl)(f:Nat->AV)(m:AM):Prop:=∃(i:Nat)(rt:Rt)(ls:List Nat)(bx:List (List AV)),f 17=I i/\i<=p.ens.length/\f 5=.sl rt ((Uj p).take i |>.map Qy)/\Dn 1 0 ls rt ((Uj p).take i)/\m=⟨Qc p::bx,ls,fun _=>.gone,0⟩
def pW:∀(l:List It)(a:List (Int×It))(s:List (Int×Int)),(zR l a s).length<=s.length+l.length
 |[],a,s=>by simp[zR]
 |x::r,a,s=>by
  rw[zR];cases af x.id a with
  |some _=>
   have:=pW r a s;simp only[zzba];omega
  |none=>
   have h:=pW r (Vb x.id x a) (if 1<=x.sp/\x.sp<=200 then Vb x.sp x.id s else s)
   have h2:(if 1<=x.sp/\x.sp<=200 then Vb x.sp x.id s else s).length<=s.length+1:=by
    split
    ·exact Gw _ _ _
    omega
   simp only[zzba];omega
def am8(p:Pl):Bj (IY p):=⟨fun _ _ h=>(by cases h),fun _ _ h=>(by cases h),fun _ _ h=>(by cases h)⟩
def RO(p:Pl)(hs:PlS p)(hc:p.cls.length<=1000000)(IN:p.ens.length<=10000000)(cS:p.ln<=9223372036854775807)(Ts:∀e∈p.ens,e.ea<=9223372036854775807):Pure Tryz.prog az 60 [.agg (Qc p)] (RN p):=by
 have k22:=Wy p hs;obtain⟨l1,l2,l3,l4,l5,l6⟩:=hs
 have mQ:(Uf p).length<=1000000000:=by
  have:=pW p.aM [] [];simp only[Uf]at*
  simp at this;omega
 refine Qn ak9 (mW p) (by simp) ?_;cases hv:sR p with
 |false=>
  rw[hv]at k22;have:RN p=.aW [.sl .nil [],.sl .nil [],I 80]:=by rw[RN,if_pos hv]
  rw[this];simp[ak8,TJ,Qc,mW,hv];simpa[Qc]using k22
 |true=>
  rw[hv]at k22;simp[ak8,Qc,mW,hv];refine⟨by simpa[Qc]using k22,?_⟩;refine Qj M3 (asM p) (fun f _=>p.ens.length-(numOf (f 17)).toNat) ?_ ?_
  ·exact⟨0,.nil,[],[],by simp,by omega,by simp,.inl ⟨by simp,rfl⟩,by simp[Qc]⟩
  rintro f m ⟨i,rt,ls,bx,h17,hi,h5,hO,rfl⟩;rcases zzaa i p.ens.length with ai|bu
  ·obtain⟨e,he⟩:=aR ai;have ah:=Qdn he;have aa:(i:Int)<(p.ens.length:Int):=by omega
   have hw:=bK i (by omega);have bB:(Uj p).take (i+1)=(Uj p).take i++[e.id]:=by rw[zzas];simp[Uj,he]
   have mH:((Uj p).take i).length=i:=by simp[Uj];omega
   obtain⟨S,hS⟩:∃S,(Uj p).take i=S:=⟨_,rfl⟩;rw[hS]at h5 hO bB mH;obtain⟨rfl,rfl⟩|⟨k,rfl,cQ,cV,Ba⟩:=hO
   ·simp[h17,h5,ai,aa,ah,Qd,Qc,mW,M3,hw];refine⟨aO,⟨i+1,.own ls.length 1,ls++[1],bx++[Qd e],by simp,by omega,by rw[bB];simp[Qy],.inr ⟨_,rfl,by omega,by rw[bB];simp,by rw[bB];simp⟩,by simp[Qc,Qd]⟩,by omega⟩
   have Ov:=(zza.1 cV).1;simp[h17,h5,ai,aa,ah,Qd,Qc,mW,M3,hw,cV];refine⟨⟨?_,by omega⟩,aO,⟨i+1,.own k 1,ls.set k (S.length+1),bx++[Qd e],by simp,by omega,by rw[bB];simp[Qy],.inr ⟨_,rfl,by omega,by rw[bB];simp[Ov],by rw[bB];simp⟩,by simp[Qc,Qd]⟩,by omega⟩
   ·rintro row (⟨a,_,rfl⟩|rfl)<;>rfl
  have bJ:¬(i:Int)<(p.ens.length:Int):=by omega
  have mH:(Uj p).take i=Uj p:=zzap (by simp[Uj];omega);rw[mH]at h5 hO;have aN:(Uj p).length<=10000000:=by simp[Uj];omega
  have k41:=fun K'=>xW (Qc p::bx) ls p 0 [] .nil (by omega) l2 (by simp) Y0 K';simp only[Qc,zzcg]at k41;simp[h17,h5,bJ,zzbl.2 bu,M3,Qc,mW];refine k41 _ fun ex=>?_;clear k41
  have h85:∀m,Abs.Pure Tryz.prog az 93 [bF m 6 (.sl rt ((Uj p).map Qy))] (.sl .ro ((Uj p).map Qy)):=fun m=>by
   have kc:=afH (Uj p) (by omega);obtain⟨h1,rfl⟩|⟨k,rfl,_⟩:=hO
   ·exact Zu kc ⟨Wk.sl _ _,trivial⟩
   exact kc
  simp[mW];refine Qel (Qc p::bx) ex ls (IY p) (Uj p) rt 0 (by omega) (by omega) hc l1 l2 l3 mQ cS Ts (by simp[IY]) (fun _ _ h=>(by cases h)) (fun _ _ h=>(by cases h)) (am8 p) Y0 _ (fun h0 rv li pm dW exl hB=>?_) (fun l h1 rv li pm dW exl JZ hB Lh=>?_)
  ·have h0:Jp p (Uj p) [] [] 0 (-1)=none:=h0;have hr:RN p=.aW [.sl .nil [],.sl .ro ((nZ (IY p) (Uj p)).map Qy),I 90]:=by rw[RN,if_neg (by simp[hv]),h0]
   have bV:oC (IY p) (Uj p)=false:=by show(Jp p (Uj p) [] [] 0 (-1)).isSome=false;rw[h0];rfl
   rw[hr];simp[mW];refine LA (Qc p::bx) (ex++dW) (ls++exl) {IY p with rv:=rv,li:=li,pm:=pm} (Uj p) rt h85 0 (by omega) (by omega) hc l1 l2 l3 mQ cS Ts (by simp[IY]) (fun _ _ h=>(by cases h)) (fun _ _ h=>(by cases h)) hB Y0 _ (fun Ee li3 pm3 zf eE YA=>?_);have aw8:oC {IY p with rv:=rv,li:=li,pm:=pm} (Uj p)=false:=bV;have jh:nZ {IY p with rv:=rv,li:=li,pm:=pm} (Uj p)=nZ (IY p) (Uj p):=rfl;rw[aw8,jh,if_neg (by simp)];simp[TJ]
  have h1:Jp p (Uj p) [] [] 0 (-1)=some l:=h1;have hr:RN p=.aW [IZ l,.sl .nil [],I 0]:=by rw[RN,if_neg (by simp[hv]),h1]
  rw[hr];obtain⟨rfl,rfl⟩|⟨k2,rfl,_,_,aK⟩:=Lh
  ·simp[mW,TJ,IZ]
  simp[mW,TJ,IZ,aK]
end Go.Proofs.YtnopaopphmjnmaaGreatDoor
