import Derived.Test.YtfliagpjbbkijaaGreatDoorVBMS
set_option linter.all false
set_option maxRecDepth 100000
set_option maxHeartbeats 64000000
namespace Go.Proofs.YtfliagpjbbkijaaGreatDoor
open Go Go.Abs
def GU{l:P2}{n:Nat}(h:l.Nodup)(hb:∀i∈l,i<n):l.length<=n:=by
 have hp:l.Perm ((List.range n).filter fun i=>decide (i∈l)):=by
  rw[zzgk h (zzdl.filter _)];intro i;simp only[zzcq,zzay,decide_eq_true_eq];exact⟨fun hi=>⟨hb i hi,hi⟩,fun hi=>hi.2⟩
 rw[hp.length_eq];refine zzaz (zzci _ _) ?_;simp
def Oo(id:Nat)(m:AM):Nat:=match Qf m.boxes id with
 |[.mitr _ _ s]=>s.length
 |_=>0
def afp{α:Type}{row:α->AV}{L:List (Int×α)}{i:Nat}{k:Pi}{c:AV}(h:(bI row L)[i]?=some (k,c)):∃o x,L[i]?=some (o,x)/\k=[o]/\c=row x/\(bI row L).getD i ([],.junk)=([o],row x)/\i<L.length:=by
 have hg:(bI row L).getD i ([],.junk)=(k,c):=by rw[zzaq,h];rfl
 rw[bI,zzbc]at h;cases hL:L[i]? with
 |none=>rw[hL]at h;cases h
 |some y=>
  rw[hL]at h;cases h;exact⟨y.1,y.2,rfl,rfl,rfl,hg,(zza.1 hL).1⟩
def Ll(p:Pl)(it:Int)(L:List (Int×Int))(o x:Int):xy p it (L++[(o,x)])=if 0<Jo p x it then xy p it L++[(o,Jo p x it)]else xy p it L:=by
 unfold xy;rw[List.filterMap_append];by_cases h:0<Jo p x it
 ·rw[if_pos h];simp[h]
 rw[if_neg h];simp[h]
def GV{m:AM}{K:UV}{id mid n kn:Nat}{seen:P2}{kvs:List (Pi×AV)}(h1:Qf m.boxes id=[.mitr mid n seen])(h2:Qf m.boxes mid=[.aM kn kvs])(h:kvs.length=n)
  (hs:∀i k c,kvs[i]?=some (k,c)->i ∉ seen->K (.aS [.bool true,keyAV kn k,c]) {m with boxes:=m.boxes.set id [.mitr mid n (seen++[i])]})(he:(∀i,i<n->i∈seen)->K (.aS [.bool false]) m):vcNxt m K (.it id):=by
 simp only[vcNxt,Vo,h1,h2];exact⟨h,hs,he⟩
def Oq(p:Pl)(it:Int):X1:=fun _ f l=>if f=187 then(match l with|[_,.int _ x,_]=>I (Jo p x it)|_=>.junk)else .junk
def at2(pre:X2)(b:Bd)(post:X2)(ls:P2)(it:Int)(f:Nat->AV)(m:AM):Prop:=∃(seen:P2)(l:List Sp)(rt:Rt)(exl:P2),
 seen.Nodup/\(∀i∈seen,i<(Yx b.p).length)/\l=xy b.p it (atL (0,0) (Yx b.p) seen)/\f 8=.sl rt (l.map Qe)/\(l=[]/\rt=.nil/\exl=[]\/l≠[]/\rt=.own ls.length 2/\exl=[l.length])/\
 m=aO pre b (post++[[.mitr (pre.length+3) (Yx b.p).length seen]]) (ls++exl)
def GW(pre post:X2)(ls:P2)(b:Bd)(it:Int)(hc:b.p.cls.length<=1000000000)(cV:b.p.aT.length<=1000000000)(FX:(Yx b.p).length<=1000000000)(hrv:afc b)(Y:YT)(K:UV)
  (hK:∀(rv:List (Int×(Rt×List Sp)))(ex:X2)(exl:P2)(rt:Rt)(l:List Sp),afc {b with rv:=rv}->l.Perm (Wi b.p it)->K (.sl rt (l.map Qe)) (aO pre {b with rv:=rv} (post++ex) (ls++exl))):
  aF Tryz.prog aD Y 140 [.ptr (pre.length+9) 0,I it] (aO pre b post ls) K:=by
 have nil:Wi b.p it=[]->K (.sl .nil []) (aO pre b post ls):=fun h=>by
  have:=hK b.rv [] [] .nil [] hrv (by rw[h]);simpa using this
 refine Xn acz (Oq b.p it) zd ?_
 have ayR:∃r,Xg [it] (bI rI (zF b.p)) 0=r/\((∃n y,Xk it b.p.aT=some y/\r=some (n,rI y))\/(Xk it b.p.aT=none/\r=none)):=by
  rcases Xx rI it (zF b.p) 0 with⟨h1,h2,_,_⟩|⟨u,n,h1,h2,_⟩
  ·rw[uG]at h1;exact⟨_,rfl,.inr ⟨h1,h2⟩⟩
  rw[uG]at h1;exact⟨_,rfl,.inl ⟨_,u,h1,h2⟩⟩
 obtain⟨r,hr,Q8⟩:=ayR;obtain⟨n,y,hf,rfl⟩|⟨hf,rfl⟩:=Q8
 ·rcases Xx iA y.sp (Yx b.p) 0 with⟨s1,s2,_,_⟩|⟨su,sn,s1,s2,_⟩
  ·simp[Ae,EE,aO,bk,Qn,Qc,hr,rI,Ql,s2];exact nil (by simp[Wi,hf,s1])
  have hrl:Wi b.p it=xy b.p it (Yx b.p):=by simp[Wi,hf,s1,xy]
  rcases Xx rvA y.sp b.rv 0 with⟨m1,m2,_,m4⟩|⟨mu,mn,m1,m2,_⟩
  ·simp[Ae,aO,bk,Qn,Qc,hr,rI,Ql,s2,m2];refine Qk u5 (at2 pre b post ls it) (fun _ m=>(Yx b.p).length-Oo (pre.length+(post.length+10)) m) ?_ ?_
   ·exact⟨[],[],.nil,[],List.nodup_nil,zd,rfl,zd,.inl ⟨rfl,rfl,rfl⟩,by simp[aO,bk,Qn,Qc]⟩
   rintro f m ⟨seen,l,rt,exl,hn,hb,hl,h8,bn,rfl⟩;have fQ:seen.length<=(Yx b.p).length:=GU hn hb;simp[-vcNxt,aO,bk,Qn,Qc,u5];refine GV (mid:=pre.length+3) (n:=(Yx b.p).length) (kn:=0) (seen:=seen) (kvs:=bI iA (Yx b.p)) ?_ ?_ ?_ (fun i k c hi sA=>?_) fun bJ=>?_
   ·simp
   ·simp
   ·simp
   ·obtain⟨o,x,hx,rfl,rfl,hgd,ah⟩:=afp hi
    have bu:(bI iA (Yx b.p))[i]'(Nm ah)=([o],iA x):=by
     have:=zza.1 hi;exact this.2
    have ane:=am7 b.p x it hc cV;have qs:(seen++[i]).Nodup:=List.nodup_append.2 ⟨hn,zd,fun a ha c hc=>by simp at hc;subst hc;rintro rfl;exact sA ha⟩
    have cU:∀j∈seen++[i],j<(Yx b.p).length:=fun j hj=>by
     rcases zzat.1 hj with h|h
     ·exact hb j h
     simp at h;subst h;exact ah
    have cw:seen.length+1<=(Yx b.p).length:=by simpa using GU qs cU
    have hxo:(Yx b.p).getD i (0,0)=(o,x):=by rw[zzaq,hx];rfl
    have SK:atL (0,0) (Yx b.p) (seen++[i])=atL (0,0) (Yx b.p) seen++[(o,x)]:=by
     simp only[atL,zzcj,zzax,zzce,hxo]
    have Fl:=Ll b.p it (atL (0,0) (Yx b.p) seen) o x;rw[<- SK,<- hl]at Fl;by_cases hg:0<Jo b.p x it
    ·rw[if_pos hg]at Fl
     have D9:l.length<=(Yx b.p).length:=by
      rw[hl];refine zzaz (zzgr _ _) ?_;simp only[atL,zzbv];exact fQ
     obtain⟨rfl,rfl,rfl⟩|⟨iX,rfl,rfl⟩:=bn
     ·simp[keyAV,hi,bu,ah,Oq,hg,h8,u5,Oo];refine⟨by simpa[Qc]using ane,aP,⟨seen++[i],_,_,[1],qs,cU,rfl,by simp[Fl,Qe],.inr ⟨by simp[Fl],rfl,by simp[Fl]⟩,by simp[aO,bk,Qn,Qc]⟩,zE⟩
     simp[keyAV,hi,bu,ah,Oq,hg,h8,u5,Oo];refine⟨by simpa[Qc]using ane,⟨?_,zE⟩,aP,⟨seen++[i],_,_,[l.length+1],qs,cU,rfl,by simp[Fl,Qe],.inr ⟨by simp[Fl],rfl,by simp[Fl]⟩,by simp[aO,bk,Qn,Qc]⟩,zE⟩
     ·rintro row (⟨a,b,_,rfl⟩|rfl)<;>rfl
    rw[if_neg hg]at Fl;simp[keyAV,hi,bu,ah,Oq,hg,h8,u5,Oo];refine⟨by simpa[Qc]using ane,aP,⟨seen++[i],l,rt,exl,qs,cU,Fl.symm,by simp[h8],bn,by simp[aO,bk,Qn,Qc]⟩,zE⟩
   have hpm:l.Perm (Wi b.p it):=by
    rw[hl,hrl];exact(afd _ _ _ hn bJ hb).filterMap _
   have ayS:afc {b with rv:=Vi y.sp (rt,l) b.rv}:=fun k x h it' y' hf' dy=>by
    rw[Uz]at h;split at h
    ·rename_i e;cases h;rw[aff hf' hf (by rw[dy,e])];exact hpm
    exact hrv k x h it' y' hf' dy
   have:=hK _ [[.mitr (pre.length+3) (Yx b.p).length seen]] exl rt l ayS hpm;have m4':bI rvA b.rv++[([y.sp],.sl rt (l.map Qe))]=bI rvA (Vi y.sp (rt,l) b.rv):=m4 (rt,l);simp[h8,m2,EE];rw[m4'];simpa[aO,bk,Qn,Qc]using this
  simp[Ae,EE,aO,bk,Qn,Qc,hr,rI,Ql,s2,m2,rvA];have:=hK b.rv [] [] mu.1 mu.2 hrv (hrv _ _ m1 it y hf rfl);simpa[aO,bk,Qn,Qc]using this
 have s2:Xg [0] (bI iA (Yx b.p)) 0=none:=by
  rcases Xx iA 0 (Yx b.p) 0 with⟨_,s2,_,_⟩|⟨su,sn,s1,_⟩
  ·exact s2
  rw[Yx,xA _ _ _ rfl]at s1;cases s1
 simp[Ae,EE,aO,bk,Qn,Qc,hr,s2];exact nil (by simp[Wi,hf])
def zG(pre:X2)(p:Pl)(at_:Int)(pl:List (Int×Int))(im:List (Int×It))(sp:List (Int×Int))(post:X2)(ls:P2):AM:=
 ⟨pre++(Qc p::[.aM 0 (bI iA pl)]::[.aM 0 (bI rI im)]::[.aM 0 (bI iA sp)]::[.aM 0 []]::[.aM 0 []]::[.aM 0 []]::[.aM 0 []]::[.aM 2 []]::Qn pre.length ⟨p,at_,[],[],[],[],[]⟩::post),ls,fun _=>.gone,0⟩
def ayT(pre:X2)(p:Pl)(at_:Int)(ls:P2)(f:Nat->AV)(m:AM):Prop:=∃(i:Nat)(pl:List (Int×Int))(post:X2),f 36=I i/\i<=p.ens.length/\GK (p.ens.drop i) i pl=Dq p/\m=zG pre p at_ pl [] [] post ls
def ayU(pre:X2)(p:Pl)(at_:Int)(ls:P2)(f:Nat->AV)(m:AM):Prop:=∃(i:Nat)(im:List (Int×It))(sp:List (Int×Int))(post:X2),f 67=I i/\i<=p.aT.length/\Le (p.aT.drop i) im=zF p/\zD (p.aT.drop i) im sp=Yx p/\m=zG pre p at_ (Dq p) im sp post ls
def ayV(pre:X2)(p:Pl)(at_:Int)(past:List Ad)(ls:P2)(f:Nat->AV)(m:AM):Prop:=∃(i:Nat)(us en:List (Int×Int))(post:X2),f 108=I i/\i<=past.length/\pV i us/\Of (past.drop i) us=Of past []/\Og p (past.drop i) en=Og p past []/\m=aO pre ⟨p,at_,us,en,[],[],[]⟩ post ls
def Wz:X1:=fun _ f _=>if f=999999 then .junk else .gd false .junk
def xC(pre:X2)(ls:P2)(p:Pl)(at_:Int)(past:List Ad)(rtp:Rt)(hen:p.ens.length<=1000000000)(cV:p.aT.length<=1000000000)(j7:past.length<=1000000000)(Y:YT)(K:UV)
  (hK:∀ex,K (.ptr (pre.length+9) 0) (aO pre ⟨p,at_,Of past [],Og p past [],[],[],[]⟩ ex ls)):
  aF Tryz.prog aD Y 84 [.agg (Qc p),I at_,.sl rtp (past.map Vj)] ⟨pre,ls,fun _=>.gone,0⟩ K:=by
 refine Xn alf Wz zd ?_;simp[Tl,Qc,Wz];refine Qk MO (ayT pre p at_ ls) (fun f _=>p.ens.length-(numOf (f 36)).toNat) ?_ ?_
 ·exact⟨0,[],[],zd,zE,rfl,by simp[zG,Qn,Qc]⟩
 rintro f m ⟨i,pl,post,h36,hi,iy,rfl⟩;rcases zzab i p.ens.length with ah|bu
 ·obtain⟨e,he⟩:=aX ah;have ai:=Qdf he;have aa:(i:Int)<(p.ens.length:Int):=zE
  have hw:=bO i zE;rw[Zb he,GK]at iy;rcases Xx iA e.id pl 0 with⟨h1,h2,_,h4⟩|⟨u,n,h1,h2,_⟩
  ·rw[h1]at iy;have IC:bI iA pl++[([e.id],I i)]=bI iA (Vi e.id (i:Int) pl):=h4 _;simp[h36,ah,aa,ai,Qd,zG,Qn,Qc,h2,MO,hw];refine⟨aP,⟨i+1,_,post++[Qd e],zd,zE,iy,?_⟩,zE⟩
   ·rw[IC];simp[zG,Qn,Qc,Qd]
  rw[h1]at iy;simp[h36,ah,aa,ai,Qd,zG,Qn,Qc,h2,MO,hw];refine⟨aP,⟨i+1,pl,post++[Qd e],zd,zE,iy,by simp[zG,Qn,Qc,Qd]⟩,zE⟩
 have bT:¬(i:Int)<(p.ens.length:Int):=zE
 rw[zzaj bu,GK]at iy;subst iy;simp[h36,bT,zzbj.2 bu,MO,zG,Qn,Qc,Wz];refine Qk si (ayU pre p at_ ls) (fun f _=>p.aT.length-(numOf (f 67)).toNat) ?_ ?_
 ·exact⟨0,[],[],post,zd,zE,rfl,rfl,by simp[zG,Qn,Qc]⟩
 clear bu bT hi h36;rintro g m ⟨i,im,sp,post,h67,hi,Rn,dy,rfl⟩;rcases zzab i p.aT.length with ah|bu
 ·obtain⟨x,hx⟩:=aX ah;have ai:Qf (p.aT.map Ql) i=Ql x:=Qv (by simp[hx]);have aa:(i:Int)<(p.aT.length:Int):=zE
  have hw:=bO i zE;rw[Zb hx,Le]at Rn;rw[Zb hx,zD]at dy;simp[h67,ah,aa,ai,Ql,zG,Qn,Qc,si,hw,Wz];refine Jb ?_;rcases Xx rI x.id im 0 with⟨h1,h2,_,h4⟩|⟨u,n,h1,h2,_⟩
  ·rw[h1]at Rn dy;have IC:bI rI im++[([x.id],.agg [I x.id,I x.ki,I x.fr,I x.sp,I x.ra])]=bI rI (Vi x.id x im):=h4 x;simp only at Rn dy;by_cases s1:1<=x.sp
   ·by_cases s2:x.sp<=200
    ·rw[if_pos ⟨s1,s2⟩]at dy;rcases Xx iA x.sp sp 0 with⟨_,q2,_,q4⟩|⟨u,n,_,q2,_,_,_,q4⟩
     ·have q4':bI iA sp++[([x.sp],I x.id)]=bI iA (Vi x.sp x.id sp):=q4 _;simp[h67,ah,aa,ai,Ql,zG,Qn,Qc,si,hw,Wz,h2,s1,s2,q2];refine⟨aP,⟨i+1,Vi x.id x im,Vi x.sp x.id sp,post++[Ql x,[I 0,I 0,I 0,I 0,I 0]],zd,zE,Rn,dy,?_⟩,zE⟩
      ·rw[IC,q4'];simp[zG,Qn,Qc,Ql]
     have q4':(bI iA sp).set n ([x.sp],I x.id)=bI iA (Vi x.sp x.id sp):=q4 _;rw[zzbn]at q2;simp[h67,ah,aa,ai,Ql,zG,Qn,Qc,si,hw,Wz,h2,s1,s2,q2];refine⟨aP,⟨i+1,Vi x.id x im,Vi x.sp x.id sp,post++[Ql x,[I 0,I 0,I 0,I 0,I 0]],zd,zE,Rn,dy,?_⟩,zE⟩
     ·rw[IC,q4'];simp[zG,Qn,Qc,Ql]
    rw[if_neg (fun h=>s2 h.2)]at dy;simp[h67,ah,aa,ai,Ql,zG,Qn,Qc,si,hw,Wz,h2,s1,s2];refine⟨aP,⟨i+1,Vi x.id x im,sp,post++[Ql x,[I 0,I 0,I 0,I 0,I 0]],zd,zE,Rn,dy,?_⟩,zE⟩
    ·rw[IC];simp[zG,Qn,Qc,Ql]
   rw[if_neg (fun h=>s1 h.1)]at dy;simp[h67,ah,aa,ai,Ql,zG,Qn,Qc,si,hw,Wz,h2,s1];refine⟨aP,⟨i+1,Vi x.id x im,sp,post++[Ql x,[I 0,I 0,I 0,I 0,I 0]],zd,zE,Rn,dy,?_⟩,zE⟩
   ·rw[IC];simp[zG,Qn,Qc,Ql]
  rw[h1]at Rn dy;simp[h67,ah,aa,ai,Ql,zG,Qn,Qc,si,hw,Wz,h2,rI];refine⟨aP,⟨i+1,im,sp,post++[Ql x,Ql u],zd,zE,Rn,dy,by simp[zG,Qn,Qc,Ql]⟩,zE⟩
 have bT:¬(i:Int)<(p.aT.length:Int):=zE
 rw[zzaj bu]at Rn dy;have Rn:im=zF p:=Rn;have dy:sp=Yx p:=dy;subst Rn;subst dy;simp[h67,bT,zzbj.2 bu,si,zG,Qn,Qc,Wz];refine Qk oo (ayV pre p at_ past ls) (fun f _=>past.length-(numOf (f 108)).toNat) ?_ ?_
 ·exact⟨0,[],[],post,zd,zE,fun k v h=>(by cases h),rfl,rfl,by simp[aO,bk,Qn,Qc,S0]⟩
 clear bu bT hi h67;rintro h m ⟨i,us,en,post,h108,hi,hus,hu,he,rfl⟩;rcases zzab i past.length with ah|bu
 ·obtain⟨a,ha⟩:=aX ah;have ai:Qf (past.map Vj) i=Vj a:=Qv (by simp[ha]);have aa:(i:Int)<(past.length:Int):=zE
  have hw:=bO i zE;rw[Zb ha,Of]at hu;rw[Zb ha,Og]at he;have YU:pV (i+1:Nat) us:=fun k v h=>by have:=hus k v h;omega
  have skip:rG a=false->Of (past.drop (i+1)) us=Of past []/\Og p (past.drop (i+1)) en=Og p past []:=fun h=>by
   rw[h]at hu he;exact⟨hu,he⟩
  by_cases c1:a.re=0
  ·by_cases c2:0<=a.fr
   ·by_cases c3:a.fr<=100000000
    ·by_cases c4:1<=a.fs
     ·by_cases c5:a.fs<=100000000
      ·have hc:rG a=true:=by simp[rG];omega
       rw[hc]at hu he;simp only[if_true]at hu he;have hwa:IntKind.i64.wrap (a.fr+a.fs)=a.fr+a.fs:=by rw[Qh]<;>omega
       simp[h108,ah,aa,ai,Vj,aO,bk,Qn,Qc,oo,hw,Wz,c1,c2,c3,c4,c5,hwa];have kn:=afn pre (post++[Vj a]) ls ⟨p,at_,us,en,[],[],[]⟩ us en a.it (a.fr+a.fs) (fun k v h=>by have:=hus k v h;omega) Y;simp only[aO,bk,Qn,Qc,Vj,c1]at kn;refine kn _ fun ex=>?_;simp[h108,oo,hw];refine⟨aP,⟨i+1,Vu us a.it,Zx p en a.it (a.fr+a.fs),post++[[I a.it,I 0,I a.fr,I a.fs]]++ex,zd,zE,?_,hu,he,by simp[aO,bk,Qn,Qc]⟩,zE⟩
       ·have:=hus.note zE a.it;exact this
      obtain⟨hu,he⟩:=skip (by simp[rG];omega);simp[h108,ah,aa,ai,Vj,aO,bk,Qn,Qc,oo,hw,Wz,c1,c2,c3,c4,c5];refine⟨aP,⟨i+1,us,en,post++[[I a.it,I 0,I a.fr,I a.fs]],zd,zE,YU,hu,he,by simp[aO,bk,Qn,Qc]⟩,zE⟩
     obtain⟨hu,he⟩:=skip (by simp[rG];omega);simp[h108,ah,aa,ai,Vj,aO,bk,Qn,Qc,oo,hw,Wz,c1,c2,c3,c4];refine⟨aP,⟨i+1,us,en,post++[[I a.it,I 0,I a.fr,I a.fs]],zd,zE,YU,hu,he,by simp[aO,bk,Qn,Qc]⟩,zE⟩
    obtain⟨hu,he⟩:=skip (by simp[rG];omega);simp[h108,ah,aa,ai,Vj,aO,bk,Qn,Qc,oo,hw,Wz,c1,c2,c3];refine⟨aP,⟨i+1,us,en,post++[[I a.it,I 0,I a.fr,I a.fs]],zd,zE,YU,hu,he,by simp[aO,bk,Qn,Qc]⟩,zE⟩
   obtain⟨hu,he⟩:=skip (by simp[rG];omega);simp[h108,ah,aa,ai,Vj,aO,bk,Qn,Qc,oo,hw,Wz,c1,c2];refine⟨aP,⟨i+1,us,en,post++[[I a.it,I 0,I a.fr,I a.fs]],zd,zE,YU,hu,he,by simp[aO,bk,Qn,Qc]⟩,zE⟩
  obtain⟨hu,he⟩:=skip (by simp[rG,c1]);simp[h108,ah,aa,ai,Vj,aO,bk,Qn,Qc,oo,hw,Wz,c1];refine⟨aP,⟨i+1,us,en,post++[[I a.it,I a.re,I a.fr,I a.fs]],zd,zE,YU,hu,he,by simp[aO,bk,Qn,Qc]⟩,zE⟩
 have bT:¬(i:Int)<(past.length:Int):=zE
 rw[zzaj bu]at hu he;have hu:us=Of past []:=hu;have he:en=Og p past []:=he;subst hu;subst he;simp[h108,bT,zzbj.2 bu,oo,apM];simpa[aO,bk,Qn,Qc,S0]using hK post
def Bn(b:Bd):Prop:=am8 b/\afc b/\Lh b
def Dt{α:Type}(sz:Nat)(lo:Nat)(ls:P2)(rt:Rt)(l:List α):Prop:=(l=[]/\rt=.nil)\/∃k,rt=.own k sz/\lo<=k/\ls[k]?=some l.length/\l≠[]
def Dt.app{α:Type}{sz lo:Nat}{ls exl:P2}{rt:Rt}{l:List α}(h:Dt sz lo ls rt l):Dt sz lo (ls++exl) rt l:=by
 obtain h|⟨k,h1,h2,h3,h4⟩:=h
 ·exact .inl h
 exact .inr ⟨k,h1,h2,by rw[zzam (zza.1 h3).1];exact h3,h4⟩
def afq(p:Pl)(a b:Int):0<=Jo p a b/\Jo p a b<=6000000000:=by
 unfold Jo;cases Xk a p.aT with
 |none=>simp
 |some x=>
  cases Xk b p.aT with
  |none=>simp
  |some y=>
   simp only;split
   ·omega
   rename_i h;simp only[not_or]at h;have hv:Vf p.nu p.de=true:=by simpa using h.2.1
   obtain⟨v1,v2,v3,v4,v5⟩:=Jk hv;have hg:=Oi x.sp y.sp p.cls 0 zE;generalize pT x.sp y.sp p.cls 0=g at hg;rw[wM,if_pos ⟨hv,zE,zE⟩];have hp:=Dc hg ⟨(by omega:0<=p.nu),v2⟩;have:=Dd (x:=g*p.nu+p.de-1) (y:=p.de) zE zE;omega
def uJ{p:Pl}{it:Int}:∀r∈Wi p it,0<=r.2/\r.2<=6000000000:=fun r hr=>by
 unfold Wi at hr;cases hf:Xk it p.aT with
 |none=>rw[hf]at hr;cases hr
 |some y=>
  rw[hf]at hr;simp only at hr;cases ha:af y.sp (Yx p)with
  |none=>rw[ha]at hr;cases hr
  |some _=>
   rw[ha]at hr;simp only[zzfj]at hr;obtain⟨x,_,hx⟩:=hr;split at hx
   ·cases hx;exact afq p _ _
   cases hx
def GX(p:Pl)(it:Int):(Wi p it).length<=(Yx p).length:=by
 unfold Wi;cases Xk it p.aT with
 |none=>simp
 |some y=>
  simp only;cases af y.sp (Yx p)with
  |none=>simp
  |some _=>exact zzgr _ _
def tU(en:List (Int×Int)):Prop:=∀k v,af k en=some v->0<=v/\v<=1000000000
def tU.note{p:Pl}{en:List (Int×Int)}(h:tU en)(it e:Int)(he:0<=e/\e<=1000000000):tU (Zx p en it e):=fun k v hk=>by
 unfold Zx at hk;cases hf:Xk it p.aT with
 |none=>rw[hf]at hk;exact h k v hk
 |some x=>
  rw[hf]at hk;simp only[Uz]at hk;split at hk
  ·cases hk;cases ha:af x.sp en with
   |none=>simp;omega
   |some u=>have:=h _ u ha;simp;omega
  exact h k v hk
def xD{en:List (Int×Int)}(h:tU en):∀{l:List Sp}{f M:Int},(∀r∈l,0<=r.2/\r.2<=6000000000)->f<=M->7000000000<=M->Ur en l f<=M
 |[],f,M,_,h1,_=>h1
 |r::l,f,M,hl,h1,h2=>by
  rw[Ur];refine xD h (fun x hx=>hl x (by simp[hx])) ?_ h2;have:=hl r zd;cases ha:af r.1 en with
  |none=>exact h1
  |some e=>have:=h _ e ha;simp only;omega
def YV(l:List Sp):Option (List Sp)->Option (List Sp)
 |none=>none
 |some r=>some (l++r)
def anf(pre post:X2)(ls:P2)(b:Bd)(ids:Pi)(N:Int)(T:Option (List Sp))(f:Nat->AV)(m:AM):Prop:=
 ∃(i:Nat)(us en:List (Int×Int))(free last:Int)(l:List Sp)(rt:Rt)(rv:List (Int×(Rt×List Sp)))(li:List (Int×Int))(pm:List ((Int×Int)×List Sp))(bx:X2)(exl:P2),
  f 39=I i/\i<=ids.length/\f 8=I free/\f 9=I last/\f 10=.sl rt (l.map Qe)/\l.length=i/\(-1<=last/\last<=1000000000)/\free<=9223372036854775807/\pV (N+i) us/\tU en/\Dt 2 ls.length (ls++exl) rt l/\Bn {b with rv:=rv,li:=li,pm:=pm}/\
  YV l (Jz b.p (ids.drop i) us en free last)=T/\m=aO pre {b with rv:=rv,li:=li,pm:=pm} (post++([.aM 0 (bI iA us)]::[.aM 0 (bI iA en)]::bx)) (ls++exl)
def ajx(pre post bx0:X2)(e:En)(ls:P2)(b:Bd)(us en:List (Int×Int))(L:List Sp)(T:Int)(f:Nat->AV)(m:AM):Prop:=
 ∃(j:Nat)(fr:Int)(bx:X2),f 90=I j/\j<=L.length/\f 17=I fr/\Ur en (L.drop j) fr=T/\m=aO pre b (post++([.aM 0 (bI iA us)]::[.aM 0 (bI iA en)]::(bx0++(Qd e::bx)))) ls
def IE:X1:=fun _ f _=>if f=999999 then .junk else .gd false .junk
def Qeh(pre post:X2)(ls:P2)(b:Bd)(ids:Pi)(rt0:Rt)(N:Int)(hN:0<=N/\N<=100000000)(at3:ids.length<=100000000)
  (hc:b.p.cls.length<=1000000)(fS:b.p.sh.length<=1000000000)(cV:b.p.aT.length<=1000000000)(hen:b.p.ens.length<=1000000000)(FX:(Yx b.p).length<=1000000000)(eO:b.p.ln<=9223372036854775807)(hea:∀e∈b.p.ens,e.ea<=9223372036854775807)
  (SK:b.at_<=9223372036854775807)(hus:pV N b.us)(afr:tU b.en)(yP:Bn b)(Y:YT)(K:UV)
  (rF:Jz b.p ids b.us b.en b.at_ (-1)=none->∀rv li pm ex exl,Bn {b with rv:=rv,li:=li,pm:=pm}->K (.aS [.sl .nil [],.bool false]) (aO pre {b with rv:=rv,li:=li,pm:=pm} (post++ex) (ls++exl)))
  (SM:∀l,Jz b.p ids b.us b.en b.at_ (-1)=some l->∀rv li pm ex exl rt,Bn {b with rv:=rv,li:=li,pm:=pm}->Dt 2 ls.length (ls++exl) rt l->K (.aS [.sl rt (l.map Qe),.bool true]) (aO pre {b with rv:=rv,li:=li,pm:=pm} (post++ex) (ls++exl))):
  aF Tryz.prog aD Y 85 [.ptr (pre.length+9) 0,.sl rt0 (ids.map Qy)] (aO pre b post ls) K:=by
 obtain⟨T,hT⟩:∃T,Jz b.p ids b.us b.en b.at_ (-1)=T:=⟨_,rfl⟩;rw[hT]at rF SM;refine Xn alg IE zd ?_;simp[Tm,aO,bk,Qn,Qc];refine Jc [(.mp (pre.length+(post.length+10)),aO pre b (post++[[.aM 0 (bI iA b.us)]]) ls)] ?_;simp[Tm,aO,bk,Qn,Qc,IE];refine⟨Ot (kn:=0) (kvs:=bI iA b.us) zd ⟨zd,zd⟩,Ot (kn:=0) (kvs:=bI iA b.en) zd ?_⟩;simp[IE];refine Qk uU (anf pre post ls b ids N T) (fun f _=>ids.length-(numOf (f 39)).toNat) ?_ ?_
 ·refine⟨0,b.us,b.en,b.at_,-1,[],.nil,b.rv,b.li,b.pm,[],[],zd,zE,zd,zd,zd,rfl,zE,SK,Nm hus,afr,.inl ⟨rfl,rfl⟩,yP,?_,by simp[aO,bk,Qn,Qc]⟩;rw[zzdf,hT];cases T<;>rfl
 rintro f m ⟨i,us,en,free,last,l,rt,rv,li,pm,bx,exl,h39,hi,h8,h9,lE,D9,hla,Fx,hu,he,hO,hB,hg,rfl⟩;rcases zzab i ids.length with ah|bu
 ·obtain⟨id,aL⟩:=aX ah;have ai:Qf (ids.map Qy) i=Qy id:=Qv (by simp[aL]);have aa:(i:Int)<(ids.length:Int):=zE
  have hw:=bO i zE;rw[Zb aL,Jz]at hg;have no:T=none->∀rv li pm ex exl,Bn {b with rv:=rv,li:=li,pm:=pm}->K (.aS [.sl .nil [],.bool false]) (aO pre {b with rv:=rv,li:=li,pm:=pm} (post++ex) (ls++exl)):=rF;rcases Xx iA id (Dq b.p) 0 with⟨p1,p2,_⟩|⟨u,n,p1,p2,_⟩
  ·have p1:Bi id b.p.ens 0=none:=by
    rw[uF]at p1;cases hx:Bi id b.p.ens 0 with
    |none=>rfl
    |some k=>rw[hx]at p1;cases p1
   rw[p1]at hg;simp[h39,h8,h9,lE,ah,aa,ai,Qy,aO,bk,Qn,Qc,uU,p2,Et];have:=rF hg.symm rv li pm ([.aM 0 (bI iA us)]::[.aM 0 (bI iA en)]::bx) exl hB;simpa[aO,bk,Qn,Qc]using this
  obtain⟨k,pk,rfl⟩:∃k:Nat,Bi id b.p.ens 0=some k/\(k:Int)=u:=by
   rw[uF]at p1;cases hx:Bi id b.p.ens 0 with
   |none=>rw[hx]at p1;cases p1
   |some k=>rw[hx]at p1;cases p1;exact⟨k,rfl,rfl⟩
  rw[zzbn]at p2;rw[pk]at hg;simp only at hg;obtain⟨_,e,Ln,Lo,he3⟩:=rH pk;rw[zzef]at Ln;have qu:=(zza.1 Ln).1;have zn:(k:Int)<(b.p.ens.length:Int):=zE
  have xE:=Qdf Ln;by_cases c1:(k:Int)<=last
  ·rw[if_pos c1]at hg;simp[h39,h8,h9,lE,ah,aa,ai,Qy,aO,bk,Qn,Qc,uU,p2,Et,c1];have:=rF hg.symm rv li pm ([.aM 0 (bI iA us)]::[.aM 0 (bI iA en)]::bx) exl hB;simpa[aO,bk,Qn,Qc]using this
  rw[if_neg c1,Ln]at hg;simp only at hg;simp[h39,h8,h9,lE,ah,aa,ai,Qy,aO,bk,Qn,Qc,uU,p2,c1,qu,zn,xE,Qd,IE];have k82:=fun K'=>afb pre (post++([.aM 0 (bI iA us)]::[.aM 0 (bI iA en)]::(bx++[Qd e]))) (ls++exl) {b with rv:=rv,li:=li,pm:=pm} e.it (by simp only;omega) cV hB.1 Y K';simp only[aO,bk,Qn,Qc,Qd]at k82;refine k82 _ fun sX YW=>?_;clear k82;have yR:Bn {b with rv:=rv,li:=sX,pm:=pm}:=⟨YW,hB.2.1,hB.2.2⟩;obtain⟨R,hR⟩:∃R,Wh b.p e.it=R:=⟨_,rfl⟩;rw[hR]at hg
  obtain⟨cu,ud,at4⟩:∃cu,(af e.it us).getD 0=cu/\((Xg [e.it] (bI iA us) 0=none/\cu=0)\/∃n,Xg [e.it] (bI iA us) 0=some (n,I cu)):=by
   rcases Xx iA e.it us 0 with⟨q1,q2,_⟩|⟨u,n,q1,q2,_⟩
   ·exact⟨0,by rw[q1];rfl,.inl ⟨q2,rfl⟩⟩
   exact⟨u,by rw[q1];rfl,.inr ⟨_,q2⟩⟩
  rw[ud]at hg;by_cases r2:R≠ -1/\R<=cu
  ·rw[if_pos r2]at hg;have:=rF hg.symm rv sX pm ([.aM 0 (bI iA us)]::[.aM 0 (bI iA en)]::(bx++[Qd e])) exl yR;obtain⟨r1,r2⟩:=r2;obtain⟨q2,rfl⟩|⟨n2,q2⟩:=at4
   ·simp[aO,bk,Qn,Qc,Qd,IE,q2,r1,r2,hR,Et];simpa[aO,bk,Qn,Qc,Qd]using this
   simp[aO,bk,Qn,Qc,Qd,IE,q2,r1,r2,hR,Et];simpa[aO,bk,Qn,Qc,Qd]using this
  rw[if_neg r2]at hg
  have r3:R= -1\/(R≠ -1/\¬R<=cu):=by
   by_cases h:R= -1
   ·exact .inl h
   exact .inr ⟨h,fun h'=>r2 ⟨h,h'⟩⟩
  clear r2;obtain r1|⟨r1,r2⟩:=r3
  ·have q2:True:=trivial;have r2:True:=trivial;simp[h39,h8,h9,lE,aO,bk,Qn,Qc,Qd,IE,q2,r1,r2,hR];have k83:=fun K'=>GW pre (post++([.aM 0 (bI iA us)]::[.aM 0 (bI iA en)]::(bx++[Qd e]))) (ls++exl) {b with rv:=rv,li:=sX,pm:=pm} e.it (by simp only;omega) cV FX hB.2.1 Y K';simp only[aO,bk,Qn,Qc,Qd]at k83;refine k83 _ fun Eb Du eP rt3 L YX xF=>?_;clear k83;have N3:Bn {b with rv:=Eb,li:=sX,pm:=pm}:=⟨YW,YX,hB.2.2⟩;have hLb:∀r∈L,0<=r.2/\r.2<=6000000000:=fun r hr=>uJ r (xF.mem_iff.1 hr)
   have hLl:L.length<=1000000000:=by
    rw[xF.length_eq];have:=GX b.p e.it;omega
   have hfp:=xx en xF (max e.ea free);obtain⟨F,hF⟩:∃F,Ur en (Wi b.p e.it) (max e.ea free)=F:=⟨_,rfl⟩;rw[hF]at hfp
   have hFb:F<=9223372036854775807:=by
    rw[<- hF];refine xD he uJ ?_ zE;have:=hea e (zzad Ln);omega
   have hmx:(if e.ea<free then free else e.ea)=max e.ea free:=zE
   simp[h39,h8,h9,lE,aO,bk,Qn,Qc,Qd,IE,hmx];refine Qk sj (ajx pre post bx e (ls++(exl++eP)) {b with rv:=Eb,li:=sX,pm:=pm} us en L F) (fun f _=>L.length-(numOf (f 90)).toNat) ?_ ?_
   ·exact⟨0,max e.ea free,Du,zd,zE,zd,by rw[zzdf];exact hfp,by simp[aO,bk,Qn,Qc,Qd]⟩
   rintro g m ⟨j,fr,bx4,g90,hj,g17,Dv,rfl⟩;rcases zzab j L.length with jlt|jge
   ·obtain⟨r,hr⟩:=aX jlt;have YY:=Ze hr;have YZ:(j:Int)<(L.length:Int):=zE
    have uw:=bO j zE;rw[Zb hr,Ur]at Dv;have A1:=hLb r (zzad hr);rcases Xx iA r.1 en 0 with⟨v1,v2,_⟩|⟨v,nv,v1,v2,_⟩
    ·rw[v1]at Dv;simp[g90,g17,sj,jlt,YZ,YY,Qe,uw,aO,bk,Qn,Qc,Qd,v2];refine⟨aP,⟨j+1,fr,bx4++[Qe r],zd,zE,by simp[g17],Dv,by simp[aO,bk,Qn,Qc,Qe,Qd]⟩,zE⟩
    rw[v1]at Dv;have hvb:=he r.1 v v1;have hwv:IntKind.i64.wrap (v+r.2)=v+r.2:=by rw[Qh]<;>omega
    have hmv:(if fr<v+r.2 then v+r.2 else fr)=max fr (v+r.2):=zE
    simp[g90,g17,sj,jlt,YZ,YY,Qe,uw,aO,bk,Qn,Qc,Qd,v2,hwv,hmv];refine⟨aP,⟨j+1,max fr (v+r.2),bx4++[Qe r],zd,zE,zd,Dv,by simp[aO,bk,Qn,Qc,Qe,Qd]⟩,zE⟩
   have jin:¬(j:Int)<(L.length:Int):=zE
   rw[zzaj jge]at Dv;have Dv:fr=F:=Dv;subst Dv;have k84:=fun K'=>Om pre (post++([.aM 0 (bI iA us)]::[.aM 0 (bI iA en)]::(bx++(Qd e::bx4)))) (ls++(exl++eP)) {b with rv:=Eb,li:=sX,pm:=pm} e fr hc fS cV eO hFb hB.2.2 Y K';simp only[aO,bk,Qn,Qc,Qd]at k84;have hO':Dt 2 ls.length (ls++(exl++eP)) rt l:=by rw[<- zzbd];exact hO.app
   rw[hF]at hg;simp[g90,g17,jin,zzbj.2 jge,sj,uU,h39,h8,h9,lE,aO,bk,Qn,Qc,Qd,IE];refine k84 _ fun Y8 Ro ang=>?_;clear k84;have hB4:Bn {b with rv:=Eb,li:=sX,pm:=Y8}:=⟨YW,YX,ang⟩;cases hs:Ye b.p e fr with
   |none=>
    rw[hs]at hg;have:=rF hg.symm Eb sX Y8 ([.aM 0 (bI iA us)]::[.aM 0 (bI iA en)]::(bx++(Qd e::(bx4++Ro)))) (exl++eP) hB4;simp[Wo,Et];simpa[aO,bk,Qn,Qc,Qd]using this
   |some s=>
    rw[hs]at hg;simp only at hg
    have hg:YV (l++[(id,s)]) (Jz b.p (ids.drop (i+1)) (Vu us e.it) (Zx b.p en e.it (s+e.fr)) (s+e.fr) k)=T:=by
     rw[<- hg];cases Jz b.p (ids.drop (i+1)) (Vu us e.it) (Zx b.p en e.it (s+e.fr)) (s+e.fr) k<;>simp[YV]
    obtain⟨a1,a2,a3,a4,a5,a6,_⟩:=Qcs hs;have hws:IntKind.i64.wrap (s+e.fr)=s+e.fr:=by rw[Qh]<;>omega
    have kn:=fun LS K'=>YS pre post (bx++(Qd e::(bx4++Ro))) LS {b with rv:=Eb,li:=sX,pm:=Y8} us en e.it (s+e.fr) (fun k v h=>by have:=hu k v h;omega) Y K';simp only[aO,bk,Qn,Qc,Qd]at kn;have JU:=hu.note zE e.it;have Lo:tU (Zx b.p en e.it (s+e.fr)):=he.note e.it _ zE;have hN1:N+i+1=N+(i+1:Nat):=zE
    rw[hN1]at JU;obtain⟨iX,Cz⟩|⟨k2,Cz,cZ,dM,_⟩:=hO'
    ·subst Cz;subst iX;simp[Wo,h39,h8,h9,lE,aO,bk,Qn,Qc,Qd,IE,hws];refine kn _ _ fun ex5=>?_;refine⟨aP,⟨i+1,Vu us e.it,Zx b.p en e.it (s+e.fr),s+e.fr,k,[(id,s)],.own (ls.length+(exl.length+eP.length)) 2,Eb,sX,Y8,bx++(Qd e::(bx4++Ro++ex5)),exl++(eP++[1]),by simp[hw],zE,zd,zd,by simp[Qe],by simp at D9;simp[D9],zE,zE,JU,Lo,.inr ⟨_,rfl,zE,?_,zd⟩,hB4,hg,?_⟩,by simp[hw];omega⟩
     ·have:(ls++(exl++(eP++[1])))=(ls++(exl++eP))++[1]:=zd
      rw[this,zzaw zd];simp
     simp[aO,bk,Qn,Qc,Qd]
    subst Cz;have tO:=(zza.1 dM).1;have bQ:(ls++(exl++eP)).set k2 (l.length+1)=ls++(exl++eP).set (k2-ls.length) (l.length+1):=zzch _ _ cZ;simp[Wo,h39,h8,h9,lE,aO,bk,Qn,Qc,Qd,IE,hws,dM];refine⟨⟨?_,zE⟩,kn _ _ fun ex5=>?_⟩
    ·rintro row (⟨a,b,_,rfl⟩|rfl)<;>rfl
    refine⟨aP,⟨i+1,Vu us e.it,Zx b.p en e.it (s+e.fr),s+e.fr,k,l++[(id,s)],.own k2 2,Eb,sX,Y8,bx++(Qd e::(bx4++Ro++ex5)),(exl++eP).set (k2-ls.length) (l.length+1),by simp[hw],zE,zd,zd,by simp[Qe],by simp[D9],zE,zE,JU,Lo,.inr ⟨k2,rfl,cZ,?_,zd⟩,hB4,hg,?_⟩,by simp[hw];omega⟩
    ·rw[<- bQ,zzbg tO];simp
    simp only[bQ];simp[aO,bk,Qn,Qc,Qd]
  obtain⟨q2,rfl⟩|⟨n2,q2⟩:=at4
  all_goals
   simp[h39,h8,h9,lE,aO,bk,Qn,Qc,Qd,IE,q2,r1,r2,hR];have k83:=fun K'=>GW pre (post++([.aM 0 (bI iA us)]::[.aM 0 (bI iA en)]::(bx++[Qd e]))) (ls++exl) {b with rv:=rv,li:=sX,pm:=pm} e.it (by simp only;omega) cV FX hB.2.1 Y K';simp only[aO,bk,Qn,Qc,Qd]at k83;refine k83 _ fun Eb Du eP rt3 L YX xF=>?_;clear k83;have N3:Bn {b with rv:=Eb,li:=sX,pm:=pm}:=⟨YW,YX,hB.2.2⟩;have hLb:∀r∈L,0<=r.2/\r.2<=6000000000:=fun r hr=>uJ r (xF.mem_iff.1 hr)
   have hLl:L.length<=1000000000:=by
    rw[xF.length_eq];have:=GX b.p e.it;omega
   have hfp:=xx en xF (max e.ea free);obtain⟨F,hF⟩:∃F,Ur en (Wi b.p e.it) (max e.ea free)=F:=⟨_,rfl⟩;rw[hF]at hfp
   have hFb:F<=9223372036854775807:=by
    rw[<- hF];refine xD he uJ ?_ zE;have:=hea e (zzad Ln);omega
   have hmx:(if e.ea<free then free else e.ea)=max e.ea free:=zE
   simp[h39,h8,h9,lE,aO,bk,Qn,Qc,Qd,IE,hmx];refine Qk sj (ajx pre post bx e (ls++(exl++eP)) {b with rv:=Eb,li:=sX,pm:=pm} us en L F) (fun f _=>L.length-(numOf (f 90)).toNat) ?_ ?_
   ·exact⟨0,max e.ea free,Du,zd,zE,zd,by rw[zzdf];exact hfp,by simp[aO,bk,Qn,Qc,Qd]⟩
   rintro g m ⟨j,fr,bx4,g90,hj,g17,Dv,rfl⟩;rcases zzab j L.length with jlt|jge
   ·obtain⟨r,hr⟩:=aX jlt;have YY:=Ze hr;have YZ:(j:Int)<(L.length:Int):=zE
    have uw:=bO j zE;rw[Zb hr,Ur]at Dv;have A1:=hLb r (zzad hr);rcases Xx iA r.1 en 0 with⟨v1,v2,_⟩|⟨v,nv,v1,v2,_⟩
    ·rw[v1]at Dv;simp[g90,g17,sj,jlt,YZ,YY,Qe,uw,aO,bk,Qn,Qc,Qd,v2];refine⟨aP,⟨j+1,fr,bx4++[Qe r],zd,zE,by simp[g17],Dv,by simp[aO,bk,Qn,Qc,Qe,Qd]⟩,zE⟩
    rw[v1]at Dv;have hvb:=he r.1 v v1;have hwv:IntKind.i64.wrap (v+r.2)=v+r.2:=by rw[Qh]<;>omega
    have hmv:(if fr<v+r.2 then v+r.2 else fr)=max fr (v+r.2):=zE
    simp[g90,g17,sj,jlt,YZ,YY,Qe,uw,aO,bk,Qn,Qc,Qd,v2,hwv,hmv];refine⟨aP,⟨j+1,max fr (v+r.2),bx4++[Qe r],zd,zE,zd,Dv,by simp[aO,bk,Qn,Qc,Qe,Qd]⟩,zE⟩
   have jin:¬(j:Int)<(L.length:Int):=zE
   rw[zzaj jge]at Dv;have Dv:fr=F:=Dv;subst Dv;have k84:=fun K'=>Om pre (post++([.aM 0 (bI iA us)]::[.aM 0 (bI iA en)]::(bx++(Qd e::bx4)))) (ls++(exl++eP)) {b with rv:=Eb,li:=sX,pm:=pm} e fr hc fS cV eO hFb hB.2.2 Y K';simp only[aO,bk,Qn,Qc,Qd]at k84;have hO':Dt 2 ls.length (ls++(exl++eP)) rt l:=by rw[<- zzbd];exact hO.app
   rw[hF]at hg;simp[g90,g17,jin,zzbj.2 jge,sj,uU,h39,h8,h9,lE,aO,bk,Qn,Qc,Qd,IE];refine k84 _ fun Y8 Ro ang=>?_;clear k84;have hB4:Bn {b with rv:=Eb,li:=sX,pm:=Y8}:=⟨YW,YX,ang⟩;cases hs:Ye b.p e fr with
   |none=>
    rw[hs]at hg;have:=rF hg.symm Eb sX Y8 ([.aM 0 (bI iA us)]::[.aM 0 (bI iA en)]::(bx++(Qd e::(bx4++Ro)))) (exl++eP) hB4;simp[Wo,Et];simpa[aO,bk,Qn,Qc,Qd]using this
   |some s=>
    rw[hs]at hg;simp only at hg
    have hg:YV (l++[(id,s)]) (Jz b.p (ids.drop (i+1)) (Vu us e.it) (Zx b.p en e.it (s+e.fr)) (s+e.fr) k)=T:=by
     rw[<- hg];cases Jz b.p (ids.drop (i+1)) (Vu us e.it) (Zx b.p en e.it (s+e.fr)) (s+e.fr) k<;>simp[YV]
    obtain⟨a1,a2,a3,a4,a5,a6,_⟩:=Qcs hs;have hws:IntKind.i64.wrap (s+e.fr)=s+e.fr:=by rw[Qh]<;>omega
    have kn:=fun LS K'=>YS pre post (bx++(Qd e::(bx4++Ro))) LS {b with rv:=Eb,li:=sX,pm:=Y8} us en e.it (s+e.fr) (fun k v h=>by have:=hu k v h;omega) Y K';simp only[aO,bk,Qn,Qc,Qd]at kn;have JU:=hu.note zE e.it;have Lo:tU (Zx b.p en e.it (s+e.fr)):=he.note e.it _ zE;have hN1:N+i+1=N+(i+1:Nat):=zE
    rw[hN1]at JU;obtain⟨iX,Cz⟩|⟨k2,Cz,cZ,dM,_⟩:=hO'
    ·subst Cz;subst iX;simp[Wo,h39,h8,h9,lE,aO,bk,Qn,Qc,Qd,IE,hws];refine kn _ _ fun ex5=>?_;refine⟨aP,⟨i+1,Vu us e.it,Zx b.p en e.it (s+e.fr),s+e.fr,k,[(id,s)],.own (ls.length+(exl.length+eP.length)) 2,Eb,sX,Y8,bx++(Qd e::(bx4++Ro++ex5)),exl++(eP++[1]),by simp[hw],zE,zd,zd,by simp[Qe],by simp at D9;simp[D9],zE,zE,JU,Lo,.inr ⟨_,rfl,zE,?_,zd⟩,hB4,hg,?_⟩,by simp[hw];omega⟩
     ·have:(ls++(exl++(eP++[1])))=(ls++(exl++eP))++[1]:=zd
      rw[this,zzaw zd];simp
     simp[aO,bk,Qn,Qc,Qd]
    subst Cz;have tO:=(zza.1 dM).1;have bQ:(ls++(exl++eP)).set k2 (l.length+1)=ls++(exl++eP).set (k2-ls.length) (l.length+1):=zzch _ _ cZ;simp[Wo,h39,h8,h9,lE,aO,bk,Qn,Qc,Qd,IE,hws,dM];refine⟨⟨?_,zE⟩,kn _ _ fun ex5=>?_⟩
    ·rintro row (⟨a,b,_,rfl⟩|rfl)<;>rfl
    refine⟨aP,⟨i+1,Vu us e.it,Zx b.p en e.it (s+e.fr),s+e.fr,k,l++[(id,s)],.own k2 2,Eb,sX,Y8,bx++(Qd e::(bx4++Ro++ex5)),(exl++eP).set (k2-ls.length) (l.length+1),by simp[hw],zE,zd,zd,by simp[Qe],by simp[D9],zE,zE,JU,Lo,.inr ⟨k2,rfl,cZ,?_,zd⟩,hB4,hg,?_⟩,by simp[hw];omega⟩
    ·rw[<- bQ,zzbg tO];simp
    simp only[bQ];simp[aO,bk,Qn,Qc,Qd]
 have bT:¬(i:Int)<(ids.length:Int):=zE
 rw[zzaj bu,Jz]at hg;have hg:some (l++[])=T:=hg;rw[zzau]at hg;have:=SM l hg.symm rv li pm ([.aM 0 (bI iA us)]::[.aM 0 (bI iA en)]::bx) exl rt hB hO;simp[h39,h8,h9,lE,bT,zzbj.2 bu,uU,Et];simpa[aO,bk,Qn,Qc]using this
def afs(l:Pi)(hl:l.length<=1000000000):Pure Tryz.prog aD 142 [.sl .ro (l.map Qy)] (.sl .ro (l.map Qy)):=by
 cases l with
 |nil=>
  refine sN (Zc (?_:Pure Tryz.prog aD 142 [.sl .nil []] (.sl .nil [])) (Wk.sl _ _)) ?_
  ·refine Qm B8 (fun _ _ _=>.junk) zd ?_;simp[MY,MZ]
  refine Qm B8 (fun _ _ _=>.junk) zd ?_;simp[MY,MZ]
 |cons x r=>
  refine Qm B8 (fun _ _ _=>.junk) zd ?_;simp[MY,MZ,Qy];simp at hl;omega
def Bo{α:Type}(c:List α)(i:Nat)(h:i<c.length):(c.take i++c.drop (i+1)).length+1=c.length:=by
 simp;omega
def GY(ok:Pi->Bool)(c:Pi)(i:Nat):Pi:=
 if h:i<c.length then(if ok (c.take i++c.drop (i+1))=true then GY ok c (i+1)else GY ok (c.take i++c.drop (i+1)) i)else c
termination_by c.length-i
decreasing_by
 ·omega
 have:=Bo c i h;omega
def og(b:Bd)(ids:Pi):Bool:=(Jz b.p ids b.us b.en b.at_ (-1)).isSome
def nI(b:Bd)(ids:Pi):Pi:=if og b ids=true then[]else GY (og b) ids 0
def at5(pre post:X2)(ls:P2)(b:Bd)(N:Nat)(T:Pi)(f:Nat->AV)(m:AM):Prop:=
 ∃(i:Nat)(c:Pi)(rv:List (Int×(Rt×List Sp)))(li:List (Int×Int))(pm:List ((Int×Int)×List Sp))(ex:X2)(exl:P2),
  f 7=.sl .ro (c.map Qy)/\f 8=I i/\i<=c.length/\c.length<=N/\GY (og b) c i=T/\Bn {b with rv:=rv,li:=li,pm:=pm}/\m=aO pre {b with rv:=rv,li:=li,pm:=pm} (post++ex) (ls++exl)
def Ou(ids:Pi):X1:=fun _ f l=>if f=85 then .gd false .junk else if f=142 then .sl .ro (ids.map Qy)else
 (match l with|[.sl _ [[.sl _ a],[.sl _ c]]]=>.sl .ro (a++c)|_=>.junk)
def Lp(pre post:X2)(ls:P2)(b:Bd)(ids:Pi)(rt0:Rt)(h85:∀m,Abs.Pure Tryz.prog aD 142 [bG m 6 (.sl rt0 (ids.map Qy))] (.sl .ro (ids.map Qy)))(N:Int)(hN:0<=N/\N<=100000000)(at3:ids.length<=100000000)
  (hc:b.p.cls.length<=1000000)(fS:b.p.sh.length<=1000000000)(cV:b.p.aT.length<=1000000000)(hen:b.p.ens.length<=1000000000)(FX:(Yx b.p).length<=1000000000)(eO:b.p.ln<=9223372036854775807)(hea:∀e∈b.p.ens,e.ea<=9223372036854775807)
  (SK:b.at_<=9223372036854775807)(hus:pV N b.us)(afr:tU b.en)(yP:Bn b)(Y:YT)(K:UV)
  (hK:∀rv li pm ex exl,Bn {b with rv:=rv,li:=li,pm:=pm}->K (.sl (if og b ids=true then .nil else .ro) ((nI b ids).map Qy)) (aO pre {b with rv:=rv,li:=li,pm:=pm} (post++ex) (ls++exl))):
  aF Tryz.prog aD Y 86 [.ptr (pre.length+9) 0,.sl rt0 (ids.map Qy)] (aO pre b post ls) K:=by
 refine Xn alj (Ou ids) zd ?_;simp[alh,aO,bk,Qn,Qc,Ou];have k42:=fun K'=>Qeh pre post ls b ids rt0 N hN at3 hc fS cV hen FX eO hea SK hus afr yP Y K';simp only[aO,bk,Qn,Qc]at k42;refine k42 _ (fun h0 rv li pm ex exl hB=>?_) (fun l h1 rv li pm ex exl rt hB hO=>?_)
 ·have bY:og b ids=false:=by simp[og,h0]
  simp[Ou];refine⟨h85 _,?_⟩;refine Qk Eu (at5 pre post ls b ids.length (nI b ids)) (fun f _=>(match f 7 with|.sl _ c=>c.length|_=>0)-(numOf (f 8)).toNat) ?_ ?_
  ·exact⟨0,ids,rv,li,pm,ex,exl,zd,zd,zE,zE,by simp[nI,bY],hB,by simp[aO,bk,Qn,Qc]⟩
  rintro f m ⟨i,c,rv,li,pm,ex,exl,h7,h8,hi,oJ,hT,hB,rfl⟩;rcases zzab i c.length with ah|bu
  ·have aa:(i:Int)<(c.length:Int):=zE
   have hw:=bO i zE;simp[h7,h8,ah,aa,Eu,aO,bk,Qn,Qc,Ou,hw];have eA:List.take i (List.map Qy c)=(c.take i).map Qy:=zd
   have eB:List.take (c.length-(i+1)) (List.drop (i+1) (List.map Qy c))=(c.drop (i+1)).map Qy:=by
    rw[zzai zd];simp
   rw[eA,eB,<- zzcj];have k86:=YL [(.ro,c.take i),(.ro,c.drop (i+1))] zd zd (by simp;omega);have XC:=Bo c i ah;rw[GY,dif_pos ah]at hT;have gG:(List.map (fun x:Rt×Pi=>x.2) [(Rt.ro,c.take i),(Rt.ro,c.drop (i+1))]).flatten=c.take i++c.drop (i+1):=zd
   rw[gG]at k86;obtain⟨o,ho⟩:∃o,c.take i++c.drop (i+1)=o:=⟨_,rfl⟩;rw[ho]at k86 XC hT |-
   refine⟨⟨zE,fun _ _=>rfl⟩,⟨zE,fun _ _=>rfl⟩,k86,?_⟩;have k42:=fun K'=>Qeh pre (post++ex) (ls++exl) {b with rv:=rv,li:=li,pm:=pm} o .ro N hN zE hc fS cV hen FX eO hea SK hus afr hB Y K';simp only[aO,bk,Qn,Qc]at k42;refine k42 _ (fun h0 rv2 sX On jL anh yR=>?_) (fun l h1 rv2 sX On jL anh rt yR hO=>?_)
   ·have bY:og b o=false:=by simp only[og];rw[h0];rfl
    rw[bY]at hT;have hT:GY (og b) o i=nI b ids:=hT;simp[h7,h8,Eu];refine⟨aP,⟨i,o,rv2,sX,On,ex++jL,exl++anh,zd,by simp[h8],zE,zE,hT,yR,by simp[aO,bk,Qn,Qc]⟩,?_⟩
    ·rw[zzgw (zzgs ah),zzel];exact Nat.sub_lt_sub_left ah (zzf i)
   have bY:og b o=true:=by simp only[og];rw[h1];rfl
   rw[bY]at hT;have hT:GY (og b) c (i+1)=nI b ids:=hT;simp[h7,h8,Eu,hw];refine⟨aP,⟨i+1,c,rv2,sX,On,ex++jL,exl++anh,by simp[h7],zd,zE,zE,hT,yR,by simp[aO,bk,Qn,Qc]⟩,zE⟩
  have bT:¬(i:Int)<(c.length:Int):=zE
  rw[GY,dif_neg zE]at hT;have:=hK rv li pm ex exl hB;rw[<- hT,bY,if_neg zd]at this;simp[h7,h8,bT,zzbj.2 bu,Eu,ali];simpa[aO,bk,Qn,Qc]using this
 have bY:og b ids=true:=by simp[og,h1]
 have:=hK rv li pm ex exl hB;rw[bY,if_pos rfl]at this;simp[ali];simpa[aO,bk,Qn,Qc,nI,bY]using this
def Uq(p:Pl):Pi:=p.ens.map fun e=>e.id
def IF(p:Pl):Bd:=⟨p,0,[],[],[],[],[]⟩
def Ww(l:List Sp):AV:=if l=[]then .sl .nil []else .sl .ro (l.map Qe)
def Rp(p:Pl):AV:=if Ea p=false then .aS [.sl .nil [],.sl .nil [],I 80]else match Jz p (Uq p) [] [] 0 (-1)with
 |some l=>.aS [Ww l,.sl .nil [],I 0]
 |none=>.aS [.sl .nil [],.sl .ro ((nI (IF p) (Uq p)).map Qy),I 90]
def mw(p:Pl):X1:=fun _ f _=>if f=999999 then .junk else if f=83 then .bool (Ea p)else .gd false .junk
def at6(p:Pl)(f:Nat->AV)(m:AM):Prop:=∃(i:Nat)(rt:Rt)(ls:P2)(bx:X2),f 17=I i/\i<=p.ens.length/\f 5=.sl rt ((Uq p).take i |>.map Qy)/\Dt 1 0 ls rt ((Uq p).take i)/\m=⟨Qc p::bx,ls,fun _=>.gone,0⟩
def pW:∀(l:List It)(a:List (Int×It))(s:List (Int×Int)),(zD l a s).length<=s.length+l.length
 |[],a,s=>by simp[zD]
 |x::r,a,s=>by
  rw[zD];cases af x.id a with
  |some _=>
   have:=pW r a s;simp only[zzba];omega
  |none=>
   have h:=pW r (Vi x.id x a) (if 1<=x.sp/\x.sp<=200 then Vi x.sp x.id s else s)
   have h2:(if 1<=x.sp/\x.sp<=200 then Vi x.sp x.id s else s).length<=s.length+1:=by
    split
    ·exact GJ _ _ _
    omega
   simp only[zzba];omega
def ani(p:Pl):Bn (IF p):=⟨fun _ _ h=>(by cases h),fun _ _ h=>(by cases h),fun _ _ h=>(by cases h)⟩
def Rq(p:Pl)(hs:PlS p)(hc:p.cls.length<=1000000)(hen:p.ens.length<=10000000)(eO:p.ln<=9223372036854775807)(hea:∀e∈p.ens,e.ea<=9223372036854775807):Pure Tryz.prog aD 49 [.agg (Qc p)] (Rp p):=by
 have k22:=jJ p hs;obtain⟨l1,l2,l3,l4,l5,l6⟩:=hs
 have FX:(Yx p).length<=1000000000:=by
  have:=pW p.aT [] [];simp only[Yx]at*
  simp at this;omega
 refine Qm akC (mw p) zd ?_;cases hv:Ea p with
 |false=>
  rw[hv]at k22;have:Rp p=.aS [.sl .nil [],.sl .nil [],I 80]:=by rw[Rp,if_pos hv]
  rw[this];simp[akB,S6,Qc,mw,hv];simpa[Qc]using k22
 |true=>
  rw[hv]at k22;simp[akB,Qc,mw,hv];refine⟨by simpa[Qc]using k22,?_⟩;refine Qk MM (at6 p) (fun f _=>p.ens.length-(numOf (f 17)).toNat) ?_ ?_
  ·exact⟨0,.nil,[],[],zd,zE,zd,.inl ⟨zd,rfl⟩,by simp[Qc]⟩
  rintro f m ⟨i,rt,ls,bx,h17,hi,h5,hO,rfl⟩;rcases zzab i p.ens.length with ah|bu
  ·obtain⟨e,he⟩:=aX ah;have ai:=Qdf he;have aa:(i:Int)<(p.ens.length:Int):=zE
   have hw:=bO i zE;have bD:(Uq p).take (i+1)=(Uq p).take i++[e.id]:=by rw[zzap];simp[Uq,he]
   have iG:((Uq p).take i).length=i:=by simp[Uq];omega
   obtain⟨S,hS⟩:∃S,(Uq p).take i=S:=⟨_,rfl⟩;rw[hS]at h5 hO bD iG;obtain⟨rfl,rfl⟩|⟨k,rfl,cZ,dM,tO⟩:=hO
   ·simp[h17,h5,ah,aa,ai,Qd,Qc,mw,MM,hw];refine⟨aP,⟨i+1,.own ls.length 1,ls++[1],bx++[Qd e],zd,zE,by rw[bD];simp[Qy],.inr ⟨_,rfl,zE,by rw[bD];simp,by rw[bD];simp⟩,by simp[Qc,Qd]⟩,zE⟩
   have C6:=(zza.1 dM).1;simp[h17,h5,ah,aa,ai,Qd,Qc,mw,MM,hw,dM];refine⟨⟨?_,zE⟩,aP,⟨i+1,.own k 1,ls.set k (S.length+1),bx++[Qd e],zd,zE,by rw[bD];simp[Qy],.inr ⟨_,rfl,zE,by rw[bD];simp[C6],by rw[bD];simp⟩,by simp[Qc,Qd]⟩,zE⟩
   ·rintro row (⟨a,_,rfl⟩|rfl)<;>rfl
  have bT:¬(i:Int)<(p.ens.length:Int):=zE
  have iG:(Uq p).take i=Uq p:=zzai (by simp[Uq];omega);rw[iG]at h5 hO;have aL:(Uq p).length<=10000000:=by simp[Uq];omega
  have k41:=fun K'=>xC (Qc p::bx) ls p 0 [] .nil zE l2 zd Y0 K';simp only[Qc,zzce]at k41;simp[h17,h5,bT,zzbj.2 bu,MM,Qc,mw];refine k41 _ fun ex=>?_;clear k41
  have h85:∀m,Abs.Pure Tryz.prog aD 142 [bG m 6 (.sl rt ((Uq p).map Qy))] (.sl .ro ((Uq p).map Qy)):=fun m=>by
   have kc:=afs (Uq p) zE;obtain⟨h1,rfl⟩|⟨k,rfl,_⟩:=hO
   ·exact Xl kc ⟨Wk.sl _ _,trivial⟩
   exact kc
  simp[mw];refine Qeh (Qc p::bx) ex ls (IF p) (Uq p) rt 0 zE zE hc l1 l2 l3 FX eO hea (by simp[IF]) (fun _ _ h=>(by cases h)) (fun _ _ h=>(by cases h)) (ani p) Y0 _ (fun h0 rv li pm jL exl hB=>?_) (fun l h1 rv li pm jL exl US hB hO2=>?_)
  ·have h0:Jz p (Uq p) [] [] 0 (-1)=none:=h0;have hr:Rp p=.aS [.sl .nil [],.sl .ro ((nI (IF p) (Uq p)).map Qy),I 90]:=by rw[Rp,if_neg (by simp[hv]),h0]
   have bY:og (IF p) (Uq p)=false:=by show(Jz p (Uq p) [] [] 0 (-1)).isSome=false;rw[h0];rfl
   rw[hr];simp[mw];refine Lp (Qc p::bx) (ex++jL) (ls++exl) {IF p with rv:=rv,li:=li,pm:=pm} (Uq p) rt h85 0 zE zE hc l1 l2 l3 FX eO hea (by simp[IF]) (fun _ _ h=>(by cases h)) (fun _ _ h=>(by cases h)) hB Y0 _ (fun Eb li3 pm3 Du eP N3=>?_);have ayW:og {IF p with rv:=rv,li:=li,pm:=pm} (Uq p)=false:=bY;have qq:nI {IF p with rv:=rv,li:=li,pm:=pm} (Uq p)=nI (IF p) (Uq p):=rfl;rw[ayW,qq,if_neg zd];simp[S6]
  have h1:Jz p (Uq p) [] [] 0 (-1)=some l:=h1;have hr:Rp p=.aS [Ww l,.sl .nil [],I 0]:=by rw[Rp,if_neg (by simp[hv]),h1]
  rw[hr];obtain⟨rfl,rfl⟩|⟨k2,rfl,_,_,aK⟩:=hO2
  ·simp[mw,S6,Ww]
  simp[mw,S6,Ww,aK]
