import Derived.Test.YtnopaopphmjnmaaGreatDoorMBMS
set_option linter.all false
set_option maxRecDepth 100000
set_option maxHeartbeats 64000000
namespace Go.Proofs.YtnopaopphmjnmaaGreatDoor
open Go Go.Abs
def Gl{l:List Nat}{n:Nat}(h:l.Nodup)(hb:∀i∈l,i<n):l.length<=n:=by
 have hp:l.Perm ((List.range n).filter fun i=>decide (i∈l)):=by
  rw[zzgf h (zzdp.filter _)];intro i;simp only[zzcx,zzbf,decide_eq_true_eq];exact⟨fun hi=>⟨hb i hi,hi⟩,fun hi=>hi.2⟩
 rw[hp.length_eq];refine zzbq (zzbn _ _) ?_;simp
def Og(id:Nat)(m:AM):Nat:=match Qh m.boxes id with
 |[.mitr _ _ s]=>s.length
 |_=>0
def afh{α:Type}{row:α->AV}{L:List (Int×α)}{i:Nat}{k:List Int}{c:AV}(h:(bH row L)[i]?=some (k,c)):∃o x,L[i]?=some (o,x)/\k=[o]/\c=row x/\(bH row L).getD i ([],.junk)=([o],row x)/\i<L.length:=by
 have hg:(bH row L).getD i ([],.junk)=(k,c):=by rw[zzas,h];rfl
 rw[bH,zzbp]at h;cases hL:L[i]? with
 |none=>rw[hL]at h;cases h
 |some y=>
  rw[hL]at h;cases h;exact⟨y.1,y.2,rfl,rfl,rfl,hg,(zza.1 hL).1⟩
def K8(p:Pl)(it:Int)(L:List (Int×Int))(o x:Int):xd p it (L++[(o,x)])=if 0<Jy p x it then xd p it L++[(o,Jy p x it)]else xd p it L:=by
 unfold xd;rw[List.filterMap_append];by_cases h:0<Jy p x it
 ·rw[if_pos h];simp[h]
 rw[if_neg h];simp[h]
def Gm{m:AM}{K:AV->AM->Prop}{id mid n kn:Nat}{seen:List Nat}{kvs:List (List Int×AV)}(h1:Qh m.boxes id=[.mitr mid n seen])(h2:Qh m.boxes mid=[.aK kn kvs])(h:kvs.length=n)
  (hs:∀i k c,kvs[i]?=some (k,c)->i ∉ seen->K (.aV [.bool true,keyAV kn k,c]) {m with boxes:=m.boxes.set id [.mitr mid n (seen++[i])]})(he:(∀i,i<n->i∈seen)->K (.aV [.bool false]) m):vcNxt m K (.it id):=by
 simp only[vcNxt,Vn,h1,h2];exact⟨h,hs,he⟩
def Oh(p:Pl)(it:Int):Nat->FuncId->List AV->AV:=fun _ f l=>if f=274 then(match l with|[_,.int _ x,_]=>I (Jy p x it)|_=>.junk)else .junk
def ar1(pre:List (List AV))(b:Bd)(post:List (List AV))(ls:List Nat)(it:Int)(f:Nat->AV)(m:AM):Prop:=∃(seen:List Nat)(l:List Sp)(rt:Rt)(exl:List Nat),
 seen.Nodup/\(∀i∈seen,i<(Yy b.p).length)/\l=xd b.p it (atL (0,0) (Yy b.p) seen)/\f 8=.sl rt (l.map Qe)/\(l=[]/\rt=.nil/\exl=[]\/l≠[]/\rt=.own ls.length 2/\exl=[l.length])/\
 m=aP pre b (post++[[.mitr (pre.length+3) (Yy b.p).length seen]]) (ls++exl)
def Gn(pre post:List (List AV))(ls:List Nat)(b:Bd)(it:Int)(hc:b.p.cls.length<=1000000000)(cH:b.p.aM.length<=1000000000)(mq:(Yy b.p).length<=1000000000)(Iu:ae5 b)(Y:YT)(K:AV->AM->Prop)
  (hK:∀(rv:List (Int×(Rt×List Sp)))(ex:List (List AV))(exl:List Nat)(rt:Rt)(l:List Sp),ae5 {b with rv:=rv}->l.Perm (Kq b.p it)->K (.sl rt (l.map Qe)) (aP pre {b with rv:=rv} (post++ex) (ls++exl))):
  an Tryz.prog az Y 200 [.ptr (pre.length+9) 0,I it] (aP pre b post ls) K:=by
 have nil:Kq b.p it=[]->K (.sl .nil []) (aP pre b post ls):=fun h=>by
  have:=hK b.rv [] [] .nil [] Iu (by rw[h]);simpa using this
 refine Xd acS (Oh b.p it) (by simp) ?_
 have awj:∃r,Xi [it] (bH qX (zo b.p)) 0=r/\((∃n y,Xh it b.p.aM=some y/\r=some (n,qX y))\/(Xh it b.p.aM=none/\r=none)):=by
  rcases Xq qX it (zo b.p) 0 with⟨h1,h2,_,_⟩|⟨u,n,h1,h2,_⟩
  ·rw[uf]at h1;exact⟨_,rfl,.inr ⟨h1,h2⟩⟩
  rw[uf]at h1;exact⟨_,rfl,.inl ⟨_,u,h1,h2⟩⟩
 obtain⟨r,hr,Q6⟩:=awj;obtain⟨n,y,hf,rfl⟩|⟨hf,rfl⟩:=Q6
 ·rcases Xq iA y.sp (Yy b.p) 0 with⟨s1,s2,_,_⟩|⟨su,sn,s1,s2,_⟩
  ·simp[zP,Eo,aP,bq,Qp,Qc,hr,qX,Qm,s2];exact nil (by simp[Kq,hf,s1])
  have hrl:Kq b.p it=xd b.p it (Yy b.p):=by simp[Kq,hf,s1,xd]
  rcases Xq rvA y.sp b.rv 0 with⟨m1,m2,_,m4⟩|⟨mu,mn,m1,m2,_⟩
  ·simp[zP,aP,bq,Qp,Qc,hr,qX,Qm,s2,m2];refine Qj T4 (ar1 pre b post ls it) (fun _ m=>(Yy b.p).length-Og (pre.length+(post.length+10)) m) ?_ ?_
   ·exact⟨[],[],.nil,[],List.nodup_nil,by simp,rfl,by simp,.inl ⟨rfl,rfl,rfl⟩,by simp[aP,bq,Qp,Qc]⟩
   rintro f m ⟨seen,l,rt,exl,hn,hb,hl,h8,aT,rfl⟩;have rP:seen.length<=(Yy b.p).length:=Gl hn hb;simp[-vcNxt,aP,bq,Qp,Qc,T4];refine Gm (mid:=pre.length+3) (n:=(Yy b.p).length) (kn:=0) (seen:=seen) (kvs:=bH iA (Yy b.p)) ?_ ?_ ?_ (fun i k c hi hns=>?_) fun bS=>?_
   ·simp
   ·simp
   ·simp
   ·obtain⟨o,x,hx,rfl,rfl,VL,ai⟩:=afh hi
    have bB:(bH iA (Yy b.p))[i]'(by simpa using ai)=([o],iA x):=by
     have:=zza.1 hi;exact this.2
    have amB:=amy b.p x it hc cH;have rR:(seen++[i]).Nodup:=List.nodup_append.2 ⟨hn,by simp,fun a ha c hc=>by simp at hc;subst hc;rintro rfl;exact hns ha⟩
    have cK:∀j∈seen++[i],j<(Yy b.p).length:=fun j hj=>by
     rcases zzal.1 hj with h|h
     ·exact hb j h
     simp at h;subst h;exact ai
    have cc:seen.length+1<=(Yy b.p).length:=by simpa using Gl rR cK
    have hxo:(Yy b.p).getD i (0,0)=(o,x):=by rw[zzas,hx];rfl
    have SL:atL (0,0) (Yy b.p) (seen++[i])=atL (0,0) (Yy b.p) seen++[(o,x)]:=by
     simp only[atL,zzc,zzaw,zzce,hxo]
    have EV:=K8 b.p it (atL (0,0) (Yy b.p) seen) o x;rw[<- SL,<- hl]at EV;by_cases hg:0<Jy b.p x it
    ·rw[if_pos hg]at EV
     have y9:l.length<=(Yy b.p).length:=by
      rw[hl];refine zzbq (zzgr _ _) ?_;simp only[atL,zzbe];exact rP
     obtain⟨rfl,rfl,rfl⟩|⟨nX,rfl,rfl⟩:=aT
     ·simp[keyAV,bB,ai,Oh,hg,h8,Og];refine⟨by simpa[Qc]using amB,aN,⟨seen++[i],_,_,[1],rR,cK,rfl,by simp[EV,Qe],.inr ⟨by simp[EV],rfl,by simp[EV]⟩,by simp[aP,bq,Qp,Qc]⟩,by omega⟩
     simp[keyAV,bB,ai,Oh,hg,h8,Og];refine⟨by simpa[Qc]using amB,⟨?_,by omega⟩,aN,⟨seen++[i],_,_,[l.length+1],rR,cK,rfl,by simp[EV,Qe],.inr ⟨by simp[EV],rfl,by simp[EV]⟩,by simp[aP,bq,Qp,Qc]⟩,by omega⟩
     ·rintro row (⟨a,b,_,rfl⟩|rfl)<;>rfl
    rw[if_neg hg]at EV;simp[keyAV,bB,ai,Oh,hg,h8,Og];refine⟨by simpa[Qc]using amB,aN,⟨seen++[i],l,rt,exl,rR,cK,EV.symm,by simp,aT,by simp[aP,bq,Qp,Qc]⟩,by omega⟩
   have hpm:l.Perm (Kq b.p it):=by
    rw[hl,hrl];exact(ae6 _ _ _ hn bS hb).filterMap _
   have awk:ae5 {b with rv:=Zx y.sp (rt,l) b.rv}:=fun k x h it' y' hf' dy=>by
    rw[Uh]at h;split at h
    ·rename_i e;cases h;rw[ae8 hf' hf (by rw[dy,e])];exact hpm
    exact Iu k x h it' y' hf' dy
   have:=hK _ [[.mitr (pre.length+3) (Yy b.p).length seen]] exl rt l awk hpm;have m4':bH rvA b.rv++[([y.sp],.sl rt (l.map Qe))]=bH rvA (Zx y.sp (rt,l) b.rv):=m4 (rt,l);simp[h8,m2,Eo];rw[m4'];simpa[aP,bq,Qp,Qc]using this
  simp[zP,Eo,aP,bq,Qp,Qc,hr,qX,Qm,s2,m2,rvA];have:=hK b.rv [] [] mu.1 mu.2 Iu (Iu _ _ m1 it y hf rfl);simpa[aP,bq,Qp,Qc]using this
 have s2:Xi [0] (bH iA (Yy b.p)) 0=none:=by
  rcases Xq iA 0 (Yy b.p) 0 with⟨_,s2,_,_⟩|⟨su,sn,s1,_⟩
  ·exact s2
  rw[Yy,xe _ _ _ rfl]at s1;cases s1
 simp[zP,Eo,aP,bq,Qp,Qc,hr,s2];exact nil (by simp[Kq,hf])
open Go Go.Abs
def Iv(pre:List (List AV))(p:Pl)(at_:Int)(pl:List (Int×Int))(im:List (Int×It))(sp:List (Int×Int))(post:List (List AV))(ls:List Nat):AM:=
 ⟨pre++(Qc p::[.aK 0 (bH iA pl)]::[.aK 0 (bH qX im)]::[.aK 0 (bH iA sp)]::[.aK 0 []]::[.aK 0 []]::[.aK 0 []]::[.aK 0 []]::[.aK 2 []]::Qp pre.length ⟨p,at_,[],[],[],[],[]⟩::post),ls,fun _=>.gone,0⟩
def awl(pre:List (List AV))(p:Pl)(at_:Int)(ls:List Nat)(f:Nat->AV)(m:AM):Prop:=∃(i:Nat)(pl:List (Int×Int))(post:List (List AV)),f 36=I i/\i<=p.ens.length/\Gd (p.ens.drop i) i pl=CT p/\m=Iv pre p at_ pl [] [] post ls
def awm(pre:List (List AV))(p:Pl)(at_:Int)(ls:List Nat)(f:Nat->AV)(m:AM):Prop:=∃(i:Nat)(im:List (Int×It))(sp:List (Int×Int))(post:List (List AV)),f 67=I i/\i<=p.aM.length/\K2 (p.aM.drop i) im=zo p/\zn (p.aM.drop i) im sp=Yy p/\m=Iv pre p at_ (CT p) im sp post ls
def awn(pre:List (List AV))(p:Pl)(at_:Int)(past:List Ad)(ls:List Nat)(f:Nat->AV)(m:AM):Prop:=∃(i:Nat)(us en:List (Int×Int))(post:List (List AV)),f 108=I i/\i<=past.length/\pq i us/\N7 (past.drop i) us=N7 past []/\N8 p (past.drop i) en=N8 p past []/\m=aP pre ⟨p,at_,us,en,[],[],[]⟩ post ls
def ajz:Nat->FuncId->List AV->AV:=fun _ f _=>if f=999999 then .junk else .gd false .junk
def xh(pre:List (List AV))(ls:List Nat)(p:Pl)(at_:Int)(past:List Ad)(rtp:Rt)(Ip:p.ens.length<=1000000000)(cH:p.aM.length<=1000000000)(iP:past.length<=1000000000)(Y:YT)(K:AV->AM->Prop)
  (hK:∀ex,K (.ptr (pre.length+9) 0) (aP pre ⟨p,at_,N7 past [],N8 p past [],[],[],[]⟩ ex ls)):
  an Tryz.prog az Y 121 [.agg (Qc p),I at_,.sl rtp (past.map Vi)] ⟨pre,ls,fun _=>.gone,0⟩ K:=by
 refine Xd ab3 ajz (by simp) ?_;simp[Eb,Qc];refine Qj Bz (awl pre p at_ ls) (fun f _=>p.ens.length-(numOf (f 36)).toNat) ?_ ?_
 ·exact⟨0,[],[],by simp,by omega,rfl,by simp[Iv,Qp,Qc]⟩
 rintro f m ⟨i,pl,post,h36,hi,gq,rfl⟩;rcases zzaa i p.ens.length with ai|bB
 ·obtain⟨e,he⟩:=aR ai;have aa:=Qcs he;have ah:(i:Int)<(p.ens.length:Int):=by omega
  have hw:=bJ i (by omega);rw[Xz he,Gd]at gq;rcases Xq iA e.id pl 0 with⟨h1,h2,_,h4⟩|⟨u,n,h1,h2,_⟩
  ·rw[h1]at gq;have Is:bH iA pl++[([e.id],I i)]=bH iA (Zx e.id (i:Int) pl):=h4 _;simp[h36,ah,aa,Qd,Iv,Qp,Qc,h2,Bz,hw];refine⟨aN,⟨i+1,_,post++[Qd e],by simp,by omega,gq,?_⟩,by omega⟩
   ·rw[Is];simp[Iv,Qp,Qc,Qd]
  rw[h1]at gq;simp[h36,ah,aa,Qd,Iv,Qp,Qc,h2,Bz,hw];refine⟨aN,⟨i+1,pl,post++[Qd e],by simp,by omega,gq,by simp[Iv,Qp,Qc,Qd]⟩,by omega⟩
 have bI:¬(i:Int)<(p.ens.length:Int):=by omega
 rw[zzan bB,Gd]at gq;subst gq;simp[h36,bI,Bz,Iv,Qp,Qc];refine Qj IY (awm pre p at_ ls) (fun f _=>p.aM.length-(numOf (f 67)).toNat) ?_ ?_
 ·exact⟨0,[],[],post,by simp,by omega,rfl,rfl,by simp[Iv,Qp,Qc]⟩
 clear bB bI hi h36;rintro g m ⟨i,im,sp,post,h67,hi,Ri,dy,rfl⟩;rcases zzaa i p.aM.length with ai|bB
 ·obtain⟨x,hx⟩:=aR ai;have aa:Qh (p.aM.map Qm) i=Qm x:=Qs (by simp[hx]);have ah:(i:Int)<(p.aM.length:Int):=by omega
  have hw:=bJ i (by omega);rw[Xz hx,K2]at Ri;rw[Xz hx,zn]at dy;simp[h67,ah,aa,Qm,Iv,Qp,Qc,IY];refine Za ?_;rcases Xq qX x.id im 0 with⟨h1,h2,_,h4⟩|⟨u,n,h1,h2,_⟩
  ·rw[h1]at Ri dy;have Is:bH qX im++[([x.id],.agg [I x.id,I x.ki,I x.fr,I x.sp,I x.ra])]=bH qX (Zx x.id x im):=h4 x;simp only at Ri dy;by_cases s1:1<=x.sp
   ·by_cases s2:x.sp<=200
    ·rw[if_pos ⟨s1,s2⟩]at dy;rcases Xq iA x.sp sp 0 with⟨_,q2,_,q4⟩|⟨u,n,_,q2,_,_,_,q4⟩
     ·have q4':bH iA sp++[([x.sp],I x.id)]=bH iA (Zx x.sp x.id sp):=q4 _;simp[h67,hw,h2,s1,s2,q2];refine⟨aN,⟨i+1,Zx x.id x im,Zx x.sp x.id sp,post++[Qm x,[I 0,I 0,I 0,I 0,I 0]],by simp,by omega,Ri,dy,?_⟩,by omega⟩
      ·rw[Is,q4'];simp[Iv,Qp,Qc,Qm]
     have q4':(bH iA sp).set n ([x.sp],I x.id)=bH iA (Zx x.sp x.id sp):=q4 _;rw[zzbt]at q2;simp[h67,hw,h2,s1,s2,q2];refine⟨aN,⟨i+1,Zx x.id x im,Zx x.sp x.id sp,post++[Qm x,[I 0,I 0,I 0,I 0,I 0]],by simp,by omega,Ri,dy,?_⟩,by omega⟩
     ·rw[Is,q4'];simp[Iv,Qp,Qc,Qm]
    rw[if_neg (fun h=>s2 h.2)]at dy;simp[h67,hw,h2,s1,s2];refine⟨aN,⟨i+1,Zx x.id x im,sp,post++[Qm x,[I 0,I 0,I 0,I 0,I 0]],by simp,by omega,Ri,dy,?_⟩,by omega⟩
    ·rw[Is];simp[Iv,Qp,Qc,Qm]
   rw[if_neg (fun h=>s1 h.1)]at dy;simp[h67,hw,h2,s1];refine⟨aN,⟨i+1,Zx x.id x im,sp,post++[Qm x,[I 0,I 0,I 0,I 0,I 0]],by simp,by omega,Ri,dy,?_⟩,by omega⟩
   ·rw[Is];simp[Iv,Qp,Qc,Qm]
  rw[h1]at Ri dy;simp[h67,Qm,hw,h2,qX];refine⟨aN,⟨i+1,im,sp,post++[Qm x,Qm u],by simp,by omega,Ri,dy,by simp[Iv,Qp,Qc,Qm]⟩,by omega⟩
 have bI:¬(i:Int)<(p.aM.length:Int):=by omega
 rw[zzan bB]at Ri dy;have Ri:im=zo p:=Ri;have dy:sp=Yy p:=dy;subst Ri;subst dy;simp[h67,bI,IY,Iv,Qp,Qc];refine Qj iG (awn pre p at_ past ls) (fun f _=>past.length-(numOf (f 108)).toNat) ?_ ?_
 ·exact⟨0,[],[],post,by simp,by omega,fun k v h=>(by cases h),rfl,rfl,by simp[aP,bq,Qp,Qc,S4]⟩
 clear bB bI hi h67;rintro h m ⟨i,us,en,post,h108,hi,hus,hu,he,rfl⟩;rcases zzaa i past.length with ai|bB
 ·obtain⟨a,ha⟩:=aR ai;have aa:Qh (past.map Vi) i=Vi a:=Qs (by simp[ha]);have ah:(i:Int)<(past.length:Int):=by omega
  have hw:=bJ i (by omega);rw[Xz ha,N7]at hu;rw[Xz ha,N8]at he;have YS:pq (i+1:Nat) us:=fun k v h=>by have:=hus k v h;omega
  have skip:qV a=false->N7 (past.drop (i+1)) us=N7 past []/\N8 p (past.drop (i+1)) en=N8 p past []:=fun h=>by
   rw[h]at hu he;exact⟨hu,he⟩
  by_cases c1:a.re=0
  ·by_cases c2:0<=a.fr
   ·by_cases c3:a.fr<=100000000
    ·by_cases c4:1<=a.fs
     ·by_cases c5:a.fs<=100000000
      ·have hc:qV a=true:=by simp[qV];omega
       rw[hc]at hu he;simp only[if_true]at hu he;have hwa:IntKind.i64.wrap (a.fr+a.fs)=a.fr+a.fs:=by rw[Qi]<;>omega
       simp[h108,ah,aa,Vi,aP,bq,Qp,Qc,iG,hw,ajz,c1,c2,c3,c4,c5,hwa];have kn:=afg pre (post++[Vi a]) ls ⟨p,at_,us,en,[],[],[]⟩ us en a.it (a.fr+a.fs) (fun k v h=>by have:=hus k v h;omega) Y;simp only[aP,bq,Qp,Qc,Vi,c1]at kn;refine kn _ fun ex=>?_;simp;refine⟨aN,⟨i+1,Vs us a.it,Zm p en a.it (a.fr+a.fs),post++[[I a.it,I 0,I a.fr,I a.fs]]++ex,by simp,by omega,?_,hu,he,by simp[aP,bq,Qp,Qc]⟩,by omega⟩
       ·have:=hus.note (by omega) a.it;exact this
      obtain⟨hu,he⟩:=skip (by simp[qV];omega);simp[h108,ah,aa,Vi,aP,bq,Qp,Qc,iG,hw,c1,c2,c3,c4,c5];refine⟨aN,⟨i+1,us,en,post++[[I a.it,I 0,I a.fr,I a.fs]],by simp,by omega,YS,hu,he,by simp[aP,bq,Qp,Qc]⟩,by omega⟩
     obtain⟨hu,he⟩:=skip (by simp[qV];omega);simp[h108,ah,aa,Vi,aP,bq,Qp,Qc,iG,hw,c1,c2,c3,c4];refine⟨aN,⟨i+1,us,en,post++[[I a.it,I 0,I a.fr,I a.fs]],by simp,by omega,YS,hu,he,by simp[aP,bq,Qp,Qc]⟩,by omega⟩
    obtain⟨hu,he⟩:=skip (by simp[qV];omega);simp[h108,ah,aa,Vi,aP,bq,Qp,Qc,iG,hw,c1,c2,c3];refine⟨aN,⟨i+1,us,en,post++[[I a.it,I 0,I a.fr,I a.fs]],by simp,by omega,YS,hu,he,by simp[aP,bq,Qp,Qc]⟩,by omega⟩
   obtain⟨hu,he⟩:=skip (by simp[qV];omega);simp[h108,ah,aa,Vi,aP,bq,Qp,Qc,iG,hw,c1,c2];refine⟨aN,⟨i+1,us,en,post++[[I a.it,I 0,I a.fr,I a.fs]],by simp,by omega,YS,hu,he,by simp[aP,bq,Qp,Qc]⟩,by omega⟩
  obtain⟨hu,he⟩:=skip (by simp[qV,c1]);simp[h108,ah,aa,Vi,aP,bq,Qp,Qc,iG,hw,c1];refine⟨aN,⟨i+1,us,en,post++[[I a.it,I a.re,I a.fr,I a.fs]],by simp,by omega,YS,hu,he,by simp[aP,bq,Qp,Qc]⟩,by omega⟩
 have bI:¬(i:Int)<(past.length:Int):=by omega
 rw[zzan bB]at hu he;have hu:us=N7 past []:=hu;have he:en=N8 p past []:=he;subst hu;subst he;simp[h108,bI,iG,ag0];simpa[aP,bq,Qp,Qc,S4]using hK post
open Go Go.Abs
def AZ(b:Bd):Prop:=amz b/\ae5 b/\K5 b
def CX{α:Type}(sz:Nat)(lo:Nat)(ls:List Nat)(rt:Rt)(l:List α):Prop:=(l=[]/\rt=.nil)\/∃k,rt=.own k sz/\lo<=k/\ls[k]?=some l.length/\l≠[]
def CX.app{α:Type}{sz lo:Nat}{ls exl:List Nat}{rt:Rt}{l:List α}(h:CX sz lo ls rt l):CX sz lo (ls++exl) rt l:=by
 obtain h|⟨k,h1,h2,h3,h4⟩:=h
 ·exact .inl h
 exact .inr ⟨k,h1,h2,by rw[zzah (zza.1 h3).1];exact h3,h4⟩
def afi(p:Pl)(a b:Int):0<=Jy p a b/\Jy p a b<=6000000000:=by
 unfold Jy;cases Xh a p.aM with
 |none=>simp
 |some x=>
  cases Xh b p.aM with
  |none=>simp
  |some y=>
   simp only;split
   ·omega
   rename_i h;simp only[not_or]at h;have hv:Ve p.nu p.de=true:=by simpa using h.2.1
   obtain⟨v1,v2,v3,v4,v5⟩:=Jp hv;have hg:=Oa x.sp y.sp p.cls 0 (by omega);generalize pn x.sp y.sp p.cls 0=g at hg;rw[wJ,if_pos ⟨hv,by omega,by omega⟩];have hp:=CY hg ⟨(by omega:0<=p.nu),v2⟩;have:=CZ (x:=g*p.nu+p.de-1) (y:=p.de) (by omega) (by omega);omega
def uh{p:Pl}{it:Int}:∀r∈Kq p it,0<=r.2/\r.2<=6000000000:=fun r hr=>by
 unfold Kq at hr;cases hf:Xh it p.aM with
 |none=>rw[hf]at hr;cases hr
 |some y=>
  rw[hf]at hr;simp only at hr;cases ha:af y.sp (Yy p)with
  |none=>rw[ha]at hr;cases hr
  |some _=>
   rw[ha]at hr;simp only[zzfc]at hr;obtain⟨x,_,hx⟩:=hr;split at hx
   ·cases hx;exact afi p _ _
   cases hx
def Gp(p:Pl)(it:Int):(Kq p it).length<=(Yy p).length:=by
 unfold Kq;cases Xh it p.aM with
 |none=>simp
 |some y=>
  simp only;cases af y.sp (Yy p)with
  |none=>simp
  |some _=>exact zzgr _ _
def tG(en:List (Int×Int)):Prop:=∀k v,af k en=some v->0<=v/\v<=1000000000
def tG.note{p:Pl}{en:List (Int×Int)}(h:tG en)(it e:Int)(he:0<=e/\e<=1000000000):tG (Zm p en it e):=fun k v hk=>by
 unfold Zm at hk;cases hf:Xh it p.aM with
 |none=>rw[hf]at hk;exact h k v hk
 |some x=>
  rw[hf]at hk;simp only[Uh]at hk;split at hk
  ·cases hk;cases ha:af x.sp en with
   |none=>simp;omega
   |some u=>have:=h _ u ha;simp;omega
  exact h k v hk
def xk{en:List (Int×Int)}(h:tG en):∀{l:List Sp}{f M:Int},(∀r∈l,0<=r.2/\r.2<=6000000000)->f<=M->7000000000<=M->Ug en l f<=M
 |[],f,M,_,h1,_=>h1
 |r::l,f,M,hl,h1,h2=>by
  rw[Ug];refine xk h (fun x hx=>hl x (by simp[hx])) ?_ h2;have:=hl r (by simp);cases ha:af r.1 en with
  |none=>exact h1
  |some e=>have:=h _ e ha;simp only;omega
def YU(l:List Sp):Option (List Sp)->Option (List Sp)
 |none=>none
 |some r=>some (l++r)
def amC(pre post:List (List AV))(ls:List Nat)(b:Bd)(ids:List Int)(N:Int)(T:Option (List Sp))(f:Nat->AV)(m:AM):Prop:=
 ∃(i:Nat)(us en:List (Int×Int))(free last:Int)(l:List Sp)(rt:Rt)(rv:List (Int×(Rt×List Sp)))(li:List (Int×Int))(pm:List ((Int×Int)×List Sp))(bx:List (List AV))(exl:List Nat),
  f 39=I i/\i<=ids.length/\f 8=I free/\f 9=I last/\f 10=.sl rt (l.map Qe)/\l.length=i/\(-1<=last/\last<=1000000000)/\free<=9223372036854775807/\pq (N+i) us/\tG en/\CX 2 ls.length (ls++exl) rt l/\AZ {b with rv:=rv,li:=li,pm:=pm}/\
  YU l (Jh b.p (ids.drop i) us en free last)=T/\m=aP pre {b with rv:=rv,li:=li,pm:=pm} (post++([.aK 0 (bH iA us)]::[.aK 0 (bH iA en)]::bx)) (ls++exl)
def ajA(pre post bx0:List (List AV))(e:En)(ls:List Nat)(b:Bd)(us en:List (Int×Int))(L:List Sp)(T:Int)(f:Nat->AV)(m:AM):Prop:=
 ∃(j:Nat)(fr:Int)(bx:List (List AV)),f 90=I j/\j<=L.length/\f 17=I fr/\Ug en (L.drop j) fr=T/\m=aP pre b (post++([.aK 0 (bH iA us)]::[.aK 0 (bH iA en)]::(bx0++(Qd e::bx)))) ls
def Gq:Nat->FuncId->List AV->AV:=fun _ f _=>if f=999999 then .junk else .gd false .junk
def Qdr(pre post:List (List AV))(ls:List Nat)(b:Bd)(ids:List Int)(rt0:Rt)(N:Int)(hN:0<=N/\N<=100000000)(ar2:ids.length<=100000000)
  (hc:b.p.cls.length<=1000000)(gD:b.p.sh.length<=1000000000)(cH:b.p.aM.length<=1000000000)(Ip:b.p.ens.length<=1000000000)(mq:(Yy b.p).length<=1000000000)(dm:b.p.ln<=9223372036854775807)(S5:∀e∈b.p.ens,e.ea<=9223372036854775807)
  (SL:b.at_<=9223372036854775807)(hus:pq N b.us)(afj:tG b.en)(sd:AZ b)(Y:YT)(K:AV->AM->Prop)
  (qU:Jh b.p ids b.us b.en b.at_ (-1)=none->∀rv li pm ex exl,AZ {b with rv:=rv,li:=li,pm:=pm}->K (.aV [.sl .nil [],.bool false]) (aP pre {b with rv:=rv,li:=li,pm:=pm} (post++ex) (ls++exl)))
  (hK1:∀l,Jh b.p ids b.us b.en b.at_ (-1)=some l->∀rv li pm ex exl rt,AZ {b with rv:=rv,li:=li,pm:=pm}->CX 2 ls.length (ls++exl) rt l->K (.aV [.sl rt (l.map Qe),.bool true]) (aP pre {b with rv:=rv,li:=li,pm:=pm} (post++ex) (ls++exl))):
  an Tryz.prog az Y 122 [.ptr (pre.length+9) 0,.sl rt0 (ids.map Xa)] (aP pre b post ls) K:=by
 obtain⟨T,hT⟩:∃T,Jh b.p ids b.us b.en b.at_ (-1)=T:=⟨_,rfl⟩;rw[hT]at qU hK1;refine Xd ab4 Gq (by simp) ?_;simp[MF,aP,bq,Qp,Qc];refine Qax [(.mp (pre.length+(post.length+10)),aP pre b (post++[[.aK 0 (bH iA b.us)]]) ls)] ?_;simp[aP,bq,Qp,Qc,Gq];refine⟨Oi (kn:=0) (kvs:=bH iA b.us) (by simp) ⟨by simp,by simp⟩,Oi (kn:=0) (kvs:=bH iA b.en) (by simp) ?_⟩;simp;refine Qj uF (amC pre post ls b ids N T) (fun f _=>ids.length-(numOf (f 39)).toNat) ?_ ?_
 ·refine⟨0,b.us,b.en,b.at_,-1,[],.nil,b.rv,b.li,b.pm,[],[],by simp,by omega,by simp,by simp,by simp,rfl,by omega,SL,by simpa using hus,afj,.inl ⟨rfl,rfl⟩,sd,?_,by simp[aP,bq,Qp,Qc]⟩;rw[zzde,hT];cases T<;>rfl
 rintro f m ⟨i,us,en,free,last,l,rt,rv,li,pm,bx,exl,h39,hi,h8,h9,nY,y9,hla,wD,hu,he,hO,hB,hg,rfl⟩;rcases zzaa i ids.length with ai|bB
 ·obtain⟨id,aO⟩:=aR ai;have aa:Qh (ids.map Xa) i=Xa id:=Qs (by simp[aO]);have ah:(i:Int)<(ids.length:Int):=by omega
  have hw:=bJ i (by omega);rw[Xz aO,Jh]at hg;have no:T=none->∀rv li pm ex exl,AZ {b with rv:=rv,li:=li,pm:=pm}->K (.aV [.sl .nil [],.bool false]) (aP pre {b with rv:=rv,li:=li,pm:=pm} (post++ex) (ls++exl)):=qU;rcases Xq iA id (CT b.p) 0 with⟨p1,p2,_⟩|⟨u,n,p1,p2,_⟩
  ·have p1:zq id b.p.ens 0=none:=by
    rw[ue]at p1;cases hx:zq id b.p.ens 0 with
    |none=>rfl
    |some k=>rw[hx]at p1;cases p1
   rw[p1]at hg;simp[h39,h8,h9,nY,ah,aa,Xa,aP,bq,Qp,Qc,uF,p2,rF];have:=qU hg.symm rv li pm ([.aK 0 (bH iA us)]::[.aK 0 (bH iA en)]::bx) exl hB;simpa[aP,bq,Qp,Qc]using this
  obtain⟨k,pk,rfl⟩:∃k:Nat,zq id b.p.ens 0=some k/\(k:Int)=u:=by
   rw[ue]at p1;cases hx:zq id b.p.ens 0 with
   |none=>rw[hx]at p1;cases p1
   |some k=>rw[hx]at p1;cases p1;exact⟨k,rfl,rfl⟩
  rw[zzbt]at p2;rw[pk]at hg;simp only at hg;obtain⟨_,e,he1,he2,he3⟩:=qW pk;rw[zzfb]at he1;have DQ:=(zza.1 he1).1;have za:(k:Int)<(b.p.ens.length:Int):=by omega
  have xm:=Qcs he1;by_cases c1:(k:Int)<=last
  ·rw[if_pos c1]at hg;simp[h39,h8,h9,nY,ah,aa,Xa,aP,bq,Qp,Qc,uF,p2,rF,c1];have:=qU hg.symm rv li pm ([.aK 0 (bH iA us)]::[.aK 0 (bH iA en)]::bx) exl hB;simpa[aP,bq,Qp,Qc]using this
  rw[if_neg c1,he1]at hg;simp only at hg;simp[h39,h8,h9,nY,ah,aa,Xa,aP,bq,Qp,Qc,uF,p2,c1,za,xm,Qd,Gq];have k82:=fun K'=>ae4 pre (post++([.aK 0 (bH iA us)]::[.aK 0 (bH iA en)]::(bx++[Qd e]))) (ls++exl) {b with rv:=rv,li:=li,pm:=pm} e.it (by simp only;omega) cH hB.1 Y K';simp only[aP,bq,Qp,Qc,Qd]at k82;refine k82 _ fun sB YV=>?_;clear k82;have th:AZ {b with rv:=rv,li:=sB,pm:=pm}:=⟨YV,hB.2.1,hB.2.2⟩;obtain⟨R,hR⟩:∃R,Wm b.p e.it=R:=⟨_,rfl⟩;rw[hR]at hg
  obtain⟨cu,tM,ar3⟩:∃cu,(af e.it us).getD 0=cu/\((Xi [e.it] (bH iA us) 0=none/\cu=0)\/∃n,Xi [e.it] (bH iA us) 0=some (n,I cu)):=by
   rcases Xq iA e.it us 0 with⟨q1,q2,_⟩|⟨u,n,q1,q2,_⟩
   ·exact⟨0,by rw[q1];rfl,.inl ⟨q2,rfl⟩⟩
   exact⟨u,by rw[q1];rfl,.inr ⟨_,q2⟩⟩
  rw[tM]at hg;by_cases r2:R≠ -1/\R<=cu
  ·rw[if_pos r2]at hg;have:=qU hg.symm rv sB pm ([.aK 0 (bH iA us)]::[.aK 0 (bH iA en)]::(bx++[Qd e])) exl th;obtain⟨r1,r2⟩:=r2;obtain⟨q2,rfl⟩|⟨n2,q2⟩:=ar3
   ·simp[q2,r1,r2,hR,rF];simpa[aP,bq,Qp,Qc,Qd]using this
   simp[q2,r1,r2,hR,rF];simpa[aP,bq,Qp,Qc,Qd]using this
  rw[if_neg r2]at hg
  have r3:R= -1\/(R≠ -1/\¬R<=cu):=by
   by_cases h:R= -1
   ·exact .inl h
   exact .inr ⟨h,fun h'=>r2 ⟨h,h'⟩⟩
  clear r2;obtain r1|⟨r1,r2⟩:=r3
  ·have q2:True:=trivial;have r2:True:=trivial;simp[r1,hR];have k83:=fun K'=>Gn pre (post++([.aK 0 (bH iA us)]::[.aK 0 (bH iA en)]::(bx++[Qd e]))) (ls++exl) {b with rv:=rv,li:=sB,pm:=pm} e.it (by simp only;omega) cH mq hB.2.1 Y K';simp only[aP,bq,Qp,Qc,Qd]at k83;refine k83 _ fun DS sC eu rt3 L YW xq=>?_;clear k83;have KF:AZ {b with rv:=DS,li:=sB,pm:=pm}:=⟨YV,YW,hB.2.2⟩;have hLb:∀r∈L,0<=r.2/\r.2<=6000000000:=fun r hr=>uh r (xq.mem_iff.1 hr)
   have hLl:L.length<=1000000000:=by
    rw[xq.length_eq];have:=Gp b.p e.it;omega
   have hfp:=xb en xq (max e.ea free);obtain⟨F,hF⟩:∃F,Ug en (Kq b.p e.it) (max e.ea free)=F:=⟨_,rfl⟩;rw[hF]at hfp
   have hFb:F<=9223372036854775807:=by
    rw[<- hF];refine xk he uh ?_ (by omega);have:=S5 e (zzac he1);omega
   have SY:(if e.ea<free then free else e.ea)=max e.ea free:=by omega
   simp[SY];refine Qj iH (ajA pre post bx e (ls++(exl++eu)) {b with rv:=DS,li:=sB,pm:=pm} us en L F) (fun f _=>L.length-(numOf (f 90)).toNat) ?_ ?_
   ·exact⟨0,max e.ea free,sC,by simp,by omega,by simp,by rw[zzde];exact hfp,by simp[aP,bq,Qp,Qc,Qd]⟩
   rintro g m ⟨j,fr,bx4,g90,hj,g17,C0,rfl⟩;rcases zzaa j L.length with jlt|jge
   ·obtain⟨r,hr⟩:=aR jlt;have YX:=Zd hr;have YY:(j:Int)<(L.length:Int):=by omega
    have tE:=bJ j (by omega);rw[Xz hr,Ug]at C0;have tV:=hLb r (zzac hr);rcases Xq iA r.1 en 0 with⟨v1,v2,_⟩|⟨v,nv,v1,v2,_⟩
    ·rw[v1]at C0;simp[g90,g17,iH,YY,YX,tE,aP,bq,Qp,Qc,Qd,v2];refine⟨aN,⟨j+1,fr,bx4++[Qe r],by simp,by omega,by simp,C0,by simp[aP,bq,Qp,Qc,Qe,Qd]⟩,by omega⟩
    rw[v1]at C0;have hvb:=he r.1 v v1;have hwv:IntKind.i64.wrap (v+r.2)=v+r.2:=by rw[Qi]<;>omega
    have hmv:(if fr<v+r.2 then v+r.2 else fr)=max fr (v+r.2):=by omega
    simp[g90,g17,iH,YY,YX,tE,aP,bq,Qp,Qc,Qd,v2,hwv,hmv];refine⟨aN,⟨j+1,max fr (v+r.2),bx4++[Qe r],by simp,by omega,by simp,C0,by simp[aP,bq,Qp,Qc,Qe,Qd]⟩,by omega⟩
   have jin:¬(j:Int)<(L.length:Int):=by omega
   rw[zzan jge]at C0;have C0:fr=F:=C0;subst C0;have k84:=fun K'=>Oe pre (post++([.aK 0 (bH iA us)]::[.aK 0 (bH iA en)]::(bx++(Qd e::bx4)))) (ls++(exl++eu)) {b with rv:=DS,li:=sB,pm:=pm} e fr hc gD cH dm hFb hB.2.2 Y K';simp only[aP,bq,Qp,Qc,Qd]at k84;have hO':CX 2 ls.length (ls++(exl++eu)) rt l:=by rw[<- zzbc];exact hO.app
   rw[hF]at hg;simp[g90,g17,jin,iH,h39,aP,bq,Qp,Qc,Qd,Gq];refine k84 _ fun YZ xu amD=>?_;clear k84;have Y1:AZ {b with rv:=DS,li:=sB,pm:=YZ}:=⟨YV,YW,amD⟩;cases hs:Vz b.p e fr with
   |none=>
    rw[hs]at hg;have:=qU hg.symm DS sB YZ ([.aK 0 (bH iA us)]::[.aK 0 (bH iA en)]::(bx++(Qd e::(bx4++xu)))) (exl++eu) Y1;simp[Wx,rF];simpa[aP,bq,Qp,Qc,Qd]using this
   |some s=>
    rw[hs]at hg;simp only at hg
    have hg:YU (l++[(id,s)]) (Jh b.p (ids.drop (i+1)) (Vs us e.it) (Zm b.p en e.it (s+e.fr)) (s+e.fr) k)=T:=by
     rw[<- hg];cases Jh b.p (ids.drop (i+1)) (Vs us e.it) (Zm b.p en e.it (s+e.fr)) (s+e.fr) k<;>simp[YU]
    obtain⟨a1,a2,a3,a4,a5,a6,_⟩:=Qaw hs;have hws:IntKind.i64.wrap (s+e.fr)=s+e.fr:=by rw[Qi]<;>omega
    have kn:=fun LS K'=>YR pre post (bx++(Qd e::(bx4++xu))) LS {b with rv:=DS,li:=sB,pm:=YZ} us en e.it (s+e.fr) (fun k v h=>by have:=hu k v h;omega) Y K';simp only[aP,bq,Qp,Qc,Qd]at kn;have JP:=hu.note (by omega) e.it;have he2:tG (Zm b.p en e.it (s+e.fr)):=he.note e.it _ (by omega);have hN1:N+i+1=N+(i+1:Nat):=by omega
    rw[hN1]at JP;obtain⟨nX,s5⟩|⟨k2,s5,cV,di,_⟩:=hO'
    ·subst s5;subst nX;simp[Wx,hws];refine kn _ _ fun ex5=>?_;refine⟨aN,⟨i+1,Vs us e.it,Zm b.p en e.it (s+e.fr),s+e.fr,k,[(id,s)],.own (ls.length+(exl.length+eu.length)) 2,DS,sB,YZ,bx++(Qd e::(bx4++xu++ex5)),exl++(eu++[1]),by simp[hw],by omega,by simp,by simp,by simp[Qe],by simp at y9;simp[y9],by omega,by omega,JP,he2,.inr ⟨_,rfl,by omega,?_,by simp⟩,Y1,hg,?_⟩,by simp[hw];omega⟩
     ·have:(ls++(exl++(eu++[1])))=(ls++(exl++eu))++[1]:=by simp
      rw[this,zzap (by simp)];simp
     simp[aP,bq,Qp,Qc,Qd]
    subst s5;have AP:=(zza.1 di).1;have bZ:(ls++(exl++eu)).set k2 (l.length+1)=ls++(exl++eu).set (k2-ls.length) (l.length+1):=zzcq _ _ cV;simp[Wx,hws,di];refine⟨⟨?_,by omega⟩,kn _ _ fun ex5=>?_⟩
    ·rintro row (⟨a,b,_,rfl⟩|rfl)<;>rfl
    refine⟨aN,⟨i+1,Vs us e.it,Zm b.p en e.it (s+e.fr),s+e.fr,k,l++[(id,s)],.own k2 2,DS,sB,YZ,bx++(Qd e::(bx4++xu++ex5)),(exl++eu).set (k2-ls.length) (l.length+1),by simp[hw],by omega,by simp,by simp,by simp[Qe],by simp[y9],by omega,by omega,JP,he2,.inr ⟨k2,rfl,cV,?_,by simp⟩,Y1,hg,?_⟩,by simp[hw];omega⟩
    ·rw[<- bZ,zzaz AP];simp
    simp only[bZ];simp[aP,bq,Qp,Qc,Qd]
  obtain⟨q2,rfl⟩|⟨n2,q2⟩:=ar3
  all_goals
   simp[q2,r1,r2,hR];have k83:=fun K'=>Gn pre (post++([.aK 0 (bH iA us)]::[.aK 0 (bH iA en)]::(bx++[Qd e]))) (ls++exl) {b with rv:=rv,li:=sB,pm:=pm} e.it (by simp only;omega) cH mq hB.2.1 Y K';simp only[aP,bq,Qp,Qc,Qd]at k83;refine k83 _ fun DS sC eu rt3 L YW xq=>?_;clear k83;have KF:AZ {b with rv:=DS,li:=sB,pm:=pm}:=⟨YV,YW,hB.2.2⟩;have hLb:∀r∈L,0<=r.2/\r.2<=6000000000:=fun r hr=>uh r (xq.mem_iff.1 hr)
   have hLl:L.length<=1000000000:=by
    rw[xq.length_eq];have:=Gp b.p e.it;omega
   have hfp:=xb en xq (max e.ea free);obtain⟨F,hF⟩:∃F,Ug en (Kq b.p e.it) (max e.ea free)=F:=⟨_,rfl⟩;rw[hF]at hfp
   have hFb:F<=9223372036854775807:=by
    rw[<- hF];refine xk he uh ?_ (by omega);have:=S5 e (zzac he1);omega
   have SY:(if e.ea<free then free else e.ea)=max e.ea free:=by omega
   simp[SY];refine Qj iH (ajA pre post bx e (ls++(exl++eu)) {b with rv:=DS,li:=sB,pm:=pm} us en L F) (fun f _=>L.length-(numOf (f 90)).toNat) ?_ ?_
   ·exact⟨0,max e.ea free,sC,by simp,by omega,by simp,by rw[zzde];exact hfp,by simp[aP,bq,Qp,Qc,Qd]⟩
   rintro g m ⟨j,fr,bx4,g90,hj,g17,C0,rfl⟩;rcases zzaa j L.length with jlt|jge
   ·obtain⟨r,hr⟩:=aR jlt;have YX:=Zd hr;have YY:(j:Int)<(L.length:Int):=by omega
    have tE:=bJ j (by omega);rw[Xz hr,Ug]at C0;have tV:=hLb r (zzac hr);rcases Xq iA r.1 en 0 with⟨v1,v2,_⟩|⟨v,nv,v1,v2,_⟩
    ·rw[v1]at C0;simp[g90,g17,iH,YY,YX,tE,aP,bq,Qp,Qc,Qd,v2];refine⟨aN,⟨j+1,fr,bx4++[Qe r],by simp,by omega,by simp,C0,by simp[aP,bq,Qp,Qc,Qe,Qd]⟩,by omega⟩
    rw[v1]at C0;have hvb:=he r.1 v v1;have hwv:IntKind.i64.wrap (v+r.2)=v+r.2:=by rw[Qi]<;>omega
    have hmv:(if fr<v+r.2 then v+r.2 else fr)=max fr (v+r.2):=by omega
    simp[g90,g17,iH,YY,YX,tE,aP,bq,Qp,Qc,Qd,v2,hwv,hmv];refine⟨aN,⟨j+1,max fr (v+r.2),bx4++[Qe r],by simp,by omega,by simp,C0,by simp[aP,bq,Qp,Qc,Qe,Qd]⟩,by omega⟩
   have jin:¬(j:Int)<(L.length:Int):=by omega
   rw[zzan jge]at C0;have C0:fr=F:=C0;subst C0;have k84:=fun K'=>Oe pre (post++([.aK 0 (bH iA us)]::[.aK 0 (bH iA en)]::(bx++(Qd e::bx4)))) (ls++(exl++eu)) {b with rv:=DS,li:=sB,pm:=pm} e fr hc gD cH dm hFb hB.2.2 Y K';simp only[aP,bq,Qp,Qc,Qd]at k84;have hO':CX 2 ls.length (ls++(exl++eu)) rt l:=by rw[<- zzbc];exact hO.app
   rw[hF]at hg;simp[g90,g17,jin,iH,h39,aP,bq,Qp,Qc,Qd,Gq];refine k84 _ fun YZ xu amD=>?_;clear k84;have Y1:AZ {b with rv:=DS,li:=sB,pm:=YZ}:=⟨YV,YW,amD⟩;cases hs:Vz b.p e fr with
   |none=>
    rw[hs]at hg;have:=qU hg.symm DS sB YZ ([.aK 0 (bH iA us)]::[.aK 0 (bH iA en)]::(bx++(Qd e::(bx4++xu)))) (exl++eu) Y1;simp[Wx,rF];simpa[aP,bq,Qp,Qc,Qd]using this
   |some s=>
    rw[hs]at hg;simp only at hg
    have hg:YU (l++[(id,s)]) (Jh b.p (ids.drop (i+1)) (Vs us e.it) (Zm b.p en e.it (s+e.fr)) (s+e.fr) k)=T:=by
     rw[<- hg];cases Jh b.p (ids.drop (i+1)) (Vs us e.it) (Zm b.p en e.it (s+e.fr)) (s+e.fr) k<;>simp[YU]
    obtain⟨a1,a2,a3,a4,a5,a6,_⟩:=Qaw hs;have hws:IntKind.i64.wrap (s+e.fr)=s+e.fr:=by rw[Qi]<;>omega
    have kn:=fun LS K'=>YR pre post (bx++(Qd e::(bx4++xu))) LS {b with rv:=DS,li:=sB,pm:=YZ} us en e.it (s+e.fr) (fun k v h=>by have:=hu k v h;omega) Y K';simp only[aP,bq,Qp,Qc,Qd]at kn;have JP:=hu.note (by omega) e.it;have he2:tG (Zm b.p en e.it (s+e.fr)):=he.note e.it _ (by omega);have hN1:N+i+1=N+(i+1:Nat):=by omega
    rw[hN1]at JP;obtain⟨nX,s5⟩|⟨k2,s5,cV,di,_⟩:=hO'
    ·subst s5;subst nX;simp[Wx,hws];refine kn _ _ fun ex5=>?_;refine⟨aN,⟨i+1,Vs us e.it,Zm b.p en e.it (s+e.fr),s+e.fr,k,[(id,s)],.own (ls.length+(exl.length+eu.length)) 2,DS,sB,YZ,bx++(Qd e::(bx4++xu++ex5)),exl++(eu++[1]),by simp[hw],by omega,by simp,by simp,by simp[Qe],by simp at y9;simp[y9],by omega,by omega,JP,he2,.inr ⟨_,rfl,by omega,?_,by simp⟩,Y1,hg,?_⟩,by simp[hw];omega⟩
     ·have:(ls++(exl++(eu++[1])))=(ls++(exl++eu))++[1]:=by simp
      rw[this,zzap (by simp)];simp
     simp[aP,bq,Qp,Qc,Qd]
    subst s5;have AP:=(zza.1 di).1;have bZ:(ls++(exl++eu)).set k2 (l.length+1)=ls++(exl++eu).set (k2-ls.length) (l.length+1):=zzcq _ _ cV;simp[Wx,hws,di];refine⟨⟨?_,by omega⟩,kn _ _ fun ex5=>?_⟩
    ·rintro row (⟨a,b,_,rfl⟩|rfl)<;>rfl
    refine⟨aN,⟨i+1,Vs us e.it,Zm b.p en e.it (s+e.fr),s+e.fr,k,l++[(id,s)],.own k2 2,DS,sB,YZ,bx++(Qd e::(bx4++xu++ex5)),(exl++eu).set (k2-ls.length) (l.length+1),by simp[hw],by omega,by simp,by simp,by simp[Qe],by simp[y9],by omega,by omega,JP,he2,.inr ⟨k2,rfl,cV,?_,by simp⟩,Y1,hg,?_⟩,by simp[hw];omega⟩
    ·rw[<- bZ,zzaz AP];simp
    simp only[bZ];simp[aP,bq,Qp,Qc,Qd]
 have bI:¬(i:Int)<(ids.length:Int):=by omega
 rw[zzan bB,Jh]at hg;have hg:some (l++[])=T:=hg;rw[zzat]at hg;have:=hK1 l hg.symm rv li pm ([.aK 0 (bH iA us)]::[.aK 0 (bH iA en)]::bx) exl rt hB hO;simp[h39,h8,h9,nY,bI,uF,rF];simpa[aP,bq,Qp,Qc]using this
open Go Go.Abs
def afk(l:List Int)(hl:l.length<=1000000000):Pure Tryz.prog az 93 [.sl .ro (l.map Xa)] (.sl .ro (l.map Xa)):=by
 cases l with
 |nil=>
  refine Vm (Qy (?_:Pure Tryz.prog az 93 [.sl .nil []] (.sl .nil [])) (Wk.sl _ _)) ?_
  ·refine Qn qh (fun _ _ _=>.junk) (by simp) ?_;simp[IV,IW]
  refine Qn qh (fun _ _ _=>.junk) (by simp) ?_;simp[IV,IW]
 |cons x r=>
  refine Qn qh (fun _ _ _=>.junk) (by simp) ?_;simp[IV,IW,Xa];simp at hl;omega
def A0{α:Type}(c:List α)(i:Nat)(h:i<c.length):(c.take i++c.drop (i+1)).length+1=c.length:=by
 simp;omega
def Gr(ok:List Int->Bool)(c:List Int)(i:Nat):List Int:=
 if h:i<c.length then(if ok (c.take i++c.drop (i+1))=true then Gr ok c (i+1)else Gr ok (c.take i++c.drop (i+1)) i)else c
termination_by c.length-i
decreasing_by
 ·omega
 have:=A0 c i h;omega
def nZ(b:Bd)(ids:List Int):Bool:=(Jh b.p ids b.us b.en b.at_ (-1)).isSome
def nJ(b:Bd)(ids:List Int):List Int:=if nZ b ids=true then[]else Gr (nZ b) ids 0
def ar4(pre post:List (List AV))(ls:List Nat)(b:Bd)(N:Nat)(T:List Int)(f:Nat->AV)(m:AM):Prop:=
 ∃(i:Nat)(c:List Int)(rv:List (Int×(Rt×List Sp)))(li:List (Int×Int))(pm:List ((Int×Int)×List Sp))(ex:List (List AV))(exl:List Nat),
  f 7=.sl .ro (c.map Xa)/\f 8=I i/\i<=c.length/\c.length<=N/\Gr (nZ b) c i=T/\AZ {b with rv:=rv,li:=li,pm:=pm}/\m=aP pre {b with rv:=rv,li:=li,pm:=pm} (post++ex) (ls++exl)
def Y2(ids:List Int):Nat->FuncId->List AV->AV:=fun _ f l=>if f=122 then .gd false .junk else if f=93 then .sl .ro (ids.map Xa)else
 (match l with|[.sl _ [[.sl _ a],[.sl _ c]]]=>.sl .ro (a++c)|_=>.junk)
def K9(pre post:List (List AV))(ls:List Nat)(b:Bd)(ids:List Int)(rt0:Rt)(h85:∀m,Abs.Pure Tryz.prog az 93 [bF m 6 (.sl rt0 (ids.map Xa))] (.sl .ro (ids.map Xa)))(N:Int)(hN:0<=N/\N<=100000000)(ar2:ids.length<=100000000)
  (hc:b.p.cls.length<=1000000)(gD:b.p.sh.length<=1000000000)(cH:b.p.aM.length<=1000000000)(Ip:b.p.ens.length<=1000000000)(mq:(Yy b.p).length<=1000000000)(dm:b.p.ln<=9223372036854775807)(S5:∀e∈b.p.ens,e.ea<=9223372036854775807)
  (SL:b.at_<=9223372036854775807)(hus:pq N b.us)(afj:tG b.en)(sd:AZ b)(Y:YT)(K:AV->AM->Prop)
  (hK:∀rv li pm ex exl,AZ {b with rv:=rv,li:=li,pm:=pm}->K (.sl (if nZ b ids=true then .nil else .ro) ((nJ b ids).map Xa)) (aP pre {b with rv:=rv,li:=li,pm:=pm} (post++ex) (ls++exl))):
  an Tryz.prog az Y 123 [.ptr (pre.length+9) 0,.sl rt0 (ids.map Xa)] (aP pre b post ls) K:=by
 refine Xd ab5 (Y2 ids) (by simp) ?_;simp[Tx,aP,bq,Qp,Qc,Y2];have k42:=fun K'=>Qdr pre post ls b ids rt0 N hN ar2 hc gD cH Ip mq dm S5 SL hus afj sd Y K';simp only[aP,bq,Qp,Qc]at k42;refine k42 _ (fun h0 rv li pm ex exl hB=>?_) (fun l h1 rv li pm ex exl rt hB hO=>?_)
 ·have bT:nZ b ids=false:=by simp[nZ,h0]
  simp;refine⟨h85 _,?_⟩;refine Qj IZ (ar4 pre post ls b ids.length (nJ b ids)) (fun f _=>(match f 7 with|.sl _ c=>c.length|_=>0)-(numOf (f 8)).toNat) ?_ ?_
  ·exact⟨0,ids,rv,li,pm,ex,exl,by simp,by simp,by omega,by omega,by simp[nJ,bT],hB,by simp[aP,bq,Qp,Qc]⟩
  rintro f m ⟨i,c,rv,li,pm,ex,exl,h7,h8,hi,p6,hT,hB,rfl⟩;rcases zzaa i c.length with ai|bB
  ·have ah:(i:Int)<(c.length:Int):=by omega
   have hw:=bJ i (by omega);simp[h7,h8,ah,IZ,aP,bq,Qp,Qc,Y2,hw];have eA:List.take i (List.map Xa c)=(c.take i).map Xa:=by simp
   have eB:List.take (c.length-(i+1)) (List.drop (i+1) (List.map Xa c))=(c.drop (i+1)).map Xa:=by
    rw[zzam (by simp)];simp
   rw[eA,eB,<- zzc];have k86:=YL [(.ro,c.take i),(.ro,c.drop (i+1))] (by simp) (by simp) (by simp;omega);have Fv:=A0 c i ai;rw[Gr,dif_pos ai]at hT;have gj:(List.map (fun x:Rt×List Int=>x.2) [(Rt.ro,c.take i),(Rt.ro,c.drop (i+1))]).flatten=c.take i++c.drop (i+1):=by simp
   rw[gj]at k86;obtain⟨o,ho⟩:∃o,c.take i++c.drop (i+1)=o:=⟨_,rfl⟩;rw[ho]at k86 Fv hT |-
   refine⟨⟨by omega,fun _ _=>rfl⟩,⟨by omega,fun _ _=>rfl⟩,k86,?_⟩;have k42:=fun K'=>Qdr pre (post++ex) (ls++exl) {b with rv:=rv,li:=li,pm:=pm} o .ro N hN (by omega) hc gD cH Ip mq dm S5 SL hus afj hB Y K';simp only[aP,bq,Qp,Qc]at k42;refine k42 _ (fun h0 rv2 sB Of dL amE th=>?_) (fun l h1 rv2 sB Of dL amE rt th hO=>?_)
   ·have bT:nZ b o=false:=by simp only[nZ];rw[h0];rfl
    rw[bT]at hT;have hT:Gr (nZ b) o i=nJ b ids:=hT;simp;refine⟨aN,⟨i,o,rv2,sB,Of,ex++dL,exl++amE,by simp,by simp,by omega,by omega,hT,th,by simp[aP,bq,Qp,Qc]⟩,?_⟩
    ·rw[zzgx (Nat.le_of_lt ai),zzdm];exact Nat.sub_lt_sub_left ai (Nat.lt_succ_self i)
   have bT:nZ b o=true:=by simp only[nZ];rw[h1];rfl
   rw[bT]at hT;have hT:Gr (nZ b) c (i+1)=nJ b ids:=hT;simp;refine⟨aN,⟨i+1,c,rv2,sB,Of,ex++dL,exl++amE,by simp,by simp,by omega,by omega,hT,th,by simp[aP,bq,Qp,Qc]⟩,by omega⟩
  have bI:¬(i:Int)<(c.length:Int):=by omega
  rw[Gr,dif_neg (by omega)]at hT;have:=hK rv li pm ex exl hB;rw[<- hT,bT,if_neg (by simp)]at this;simp[h7,h8,bI,IZ,Ty];simpa[aP,bq,Qp,Qc]using this
 have bT:nZ b ids=true:=by simp[nZ,h1]
 have:=hK rv li pm ex exl hB;rw[bT,if_pos rfl]at this;simp[Ty];simpa[aP,bq,Qp,Qc,nJ,bT]using this
open Go Go.Abs
def Uc(p:Pl):List Int:=p.ens.map fun e=>e.id
def Iw(p:Pl):Bd:=⟨p,0,[],[],[],[],[]⟩
def Iy(l:List Sp):AV:=if l=[]then .sl .nil []else .sl .ro (l.map Qe)
def Rj(p:Pl):AV:=if sy p=false then .aV [.sl .nil [],.sl .nil [],I 80]else match Jh p (Uc p) [] [] 0 (-1)with
 |some l=>.aV [Iy l,.sl .nil [],I 0]
 |none=>.aV [.sl .nil [],.sl .ro ((nJ (Iw p) (Uc p)).map Xa),I 90]
def A1(p:Pl):Nat->FuncId->List AV->AV:=fun _ f _=>if f=999999 then .junk else if f=120 then .bool (sy p)else .gd false .junk
def ar5(p:Pl)(f:Nat->AV)(m:AM):Prop:=∃(i:Nat)(rt:Rt)(ls:List Nat)(bx:List (List AV)),f 17=I i/\i<=p.ens.length/\f 5=.sl rt ((Uc p).take i |>.map Xa)/\CX 1 0 ls rt ((Uc p).take i)/\m=⟨Qc p::bx,ls,fun _=>.gone,0⟩
def pz:∀(l:List It)(a:List (Int×It))(s:List (Int×Int)),(zn l a s).length<=s.length+l.length
 |[],a,s=>by simp[zn]
 |x::r,a,s=>by
  rw[zn];cases af x.id a with
  |some _=>
   have:=pz r a s;simp only[zzba];omega
  |none=>
   have h:=pz r (Zx x.id x a) (if 1<=x.sp/\x.sp<=200 then Zx x.sp x.id s else s)
   have h2:(if 1<=x.sp/\x.sp<=200 then Zx x.sp x.id s else s).length<=s.length+1:=by
    split
    ·exact Gb _ _ _
    omega
   simp only[zzba];omega
def amF(p:Pl):AZ (Iw p):=⟨fun _ _ h=>(by cases h),fun _ _ h=>(by cases h),fun _ _ h=>(by cases h)⟩
def Rk(p:Pl)(hs:PlS p)(hc:p.cls.length<=1000000)(Ip:p.ens.length<=10000000)(dm:p.ln<=9223372036854775807)(S5:∀e∈p.ens,e.ea<=9223372036854775807):Pure Tryz.prog az 60 [.agg (Qc p)] (Rj p):=by
 have k22:=Wp p hs;obtain⟨l1,l2,l3,l4,l5,l6⟩:=hs
 have mq:(Yy p).length<=1000000000:=by
  have:=pz p.aM [] [];simp only[Yy]at*
  simp at this;omega
 refine Qn akJ (A1 p) (by simp) ?_;cases hv:sy p with
 |false=>
  rw[hv]at k22;have:Rj p=.aV [.sl .nil [],.sl .nil [],I 80]:=by rw[Rj,if_pos hv]
  rw[this];simp[akI,Tl,Qc,A1,hv];simpa[Qc]using k22
 |true=>
  rw[hv]at k22;simp[akI,Qc,A1,hv];refine⟨by simpa[Qc]using k22,?_⟩;refine Qj Mx (ar5 p) (fun f _=>p.ens.length-(numOf (f 17)).toNat) ?_ ?_
  ·exact⟨0,.nil,[],[],by simp,by omega,by simp,.inl ⟨by simp,rfl⟩,by simp[Qc]⟩
  rintro f m ⟨i,rt,ls,bx,h17,hi,h5,hO,rfl⟩;rcases zzaa i p.ens.length with ai|bB
  ·obtain⟨e,he⟩:=aR ai;have aa:=Qcs he;have ah:(i:Int)<(p.ens.length:Int):=by omega
   have hw:=bJ i (by omega);have bz:(Uc p).take (i+1)=(Uc p).take i++[e.id]:=by rw[zzar];simp[Uc,he]
   have qE:((Uc p).take i).length=i:=by simp[Uc];omega
   obtain⟨S,hS⟩:∃S,(Uc p).take i=S:=⟨_,rfl⟩;rw[hS]at h5 hO bz qE;obtain⟨rfl,rfl⟩|⟨k,rfl,cV,di,AP⟩:=hO
   ·simp[h17,h5,ah,aa,Qd,Qc,A1,Mx,hw];refine⟨aN,⟨i+1,.own ls.length 1,ls++[1],bx++[Qd e],by simp,by omega,by rw[bz];simp[Xa],.inr ⟨_,rfl,by omega,by rw[bz];simp,by rw[bz];simp⟩,by simp[Qc,Qd]⟩,by omega⟩
   have NW:=(zza.1 di).1;simp[h17,h5,ah,aa,Qd,Qc,A1,Mx,hw,di];refine⟨⟨?_,by omega⟩,aN,⟨i+1,.own k 1,ls.set k (S.length+1),bx++[Qd e],by simp,by omega,by rw[bz];simp[Xa],.inr ⟨_,rfl,by omega,by rw[bz];simp[NW],by rw[bz];simp⟩,by simp[Qc,Qd]⟩,by omega⟩
   ·rintro row (⟨a,_,rfl⟩|rfl)<;>rfl
  have bI:¬(i:Int)<(p.ens.length:Int):=by omega
  have qE:(Uc p).take i=Uc p:=zzam (by simp[Uc];omega);rw[qE]at h5 hO;have aO:(Uc p).length<=10000000:=by simp[Uc];omega
  have k41:=fun K'=>xh (Qc p::bx) ls p 0 [] .nil (by omega) l2 (by simp) Y0 K';simp only[Qc,zzce]at k41;simp[h17,h5,bI,Mx,Qc,A1];refine k41 _ fun ex=>?_;clear k41
  have h85:∀m,Abs.Pure Tryz.prog az 93 [bF m 6 (.sl rt ((Uc p).map Xa))] (.sl .ro ((Uc p).map Xa)):=fun m=>by
   have kc:=afk (Uc p) (by omega);obtain⟨h1,rfl⟩|⟨k,rfl,_⟩:=hO
   ·exact Zk kc ⟨Wk.sl _ _,trivial⟩
   exact kc
  simp;refine Qdr (Qc p::bx) ex ls (Iw p) (Uc p) rt 0 (by omega) (by omega) hc l1 l2 l3 mq dm S5 (by simp[Iw]) (fun _ _ h=>(by cases h)) (fun _ _ h=>(by cases h)) (amF p) Y0 _ (fun h0 rv li pm dL exl hB=>?_) (fun l h1 rv li pm dL exl JH hB KR=>?_)
  ·have h0:Jh p (Uc p) [] [] 0 (-1)=none:=h0;have hr:Rj p=.aV [.sl .nil [],.sl .ro ((nJ (Iw p) (Uc p)).map Xa),I 90]:=by rw[Rj,if_neg (by simp[hv]),h0]
   have bT:nZ (Iw p) (Uc p)=false:=by show(Jh p (Uc p) [] [] 0 (-1)).isSome=false;rw[h0];rfl
   rw[hr];simp;refine K9 (Qc p::bx) (ex++dL) (ls++exl) {Iw p with rv:=rv,li:=li,pm:=pm} (Uc p) rt h85 0 (by omega) (by omega) hc l1 l2 l3 mq dm S5 (by simp[Iw]) (fun _ _ h=>(by cases h)) (fun _ _ h=>(by cases h)) hB Y0 _ (fun DS li3 pm3 sC eu KF=>?_);have awo:nZ {Iw p with rv:=rv,li:=li,pm:=pm} (Uc p)=false:=bT;have qx:nJ {Iw p with rv:=rv,li:=li,pm:=pm} (Uc p)=nJ (Iw p) (Uc p):=rfl;rw[awo,qx,if_neg (by simp)];simp[Tl]
  have h1:Jh p (Uc p) [] [] 0 (-1)=some l:=h1;have hr:Rj p=.aV [Iy l,.sl .nil [],I 0]:=by rw[Rj,if_neg (by simp[hv]),h1]
  rw[hr];obtain⟨rfl,rfl⟩|⟨k2,rfl,_,_,aJ⟩:=KR
  ·simp[Tl,Iy]
  simp[Tl,Iy,aJ]
end Go.Proofs.YtnopaopphmjnmaaGreatDoor
