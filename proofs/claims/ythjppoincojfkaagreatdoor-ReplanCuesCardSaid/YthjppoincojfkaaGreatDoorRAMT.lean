import Derived.Test.YthjppoincojfkaaGreatDoorRAMS
set_option linter.all false
set_option maxRecDepth 100000
set_option maxHeartbeats 64000000
namespace Go.Proofs.YthjppoincojfkaaGreatDoor
open Go Go.Abs
def GD{l:Pa}{n:Nat}(h:l.Nodup)(hb:∀i∈l,i<n):l.length<=n:=by
 have hp:l.Perm ((List.range n).filter fun i=>decide (i∈l)):=by
  rw[zzge h (zzdh.filter _)];intro i;simp only[zzce,zzav,decide_eq_true_eq];exact⟨fun hi=>⟨hb i hi,hi⟩,fun hi=>hi.2⟩
 rw[hp.length_eq];refine zzba (zzca _ _) ?_;simp
def N8(id:Nat)(m:AM):Nat:=match Qj m.boxes id with
 |[.mitr _ _ s]=>s.length
 |_=>0
def aeL{α:Type}{row:α->AV}{L:List (Int×α)}{i:Nat}{k:Pi}{c:AV}(h:(bG row L)[i]?=some (k,c)):∃o x,L[i]?=some (o,x)/\k=[o]/\c=row x/\(bG row L).getD i ([],.junk)=([o],row x)/\i<L.length:=by
 have hg:(bG row L).getD i ([],.junk)=(k,c):=by rw[zzaw,h];rfl
 rw[bG,zzbm]at h;cases hL:L[i]? with
 |none=>rw[hL]at h;cases h
 |some y=>
  rw[hL]at h;cases h;exact⟨y.1,y.2,rfl,rfl,rfl,hg,(zza.1 hL).1⟩
def K7(p:Pl)(it:Int)(L:List (Int×Int))(o x:Int):xX p it (L++[(o,x)])=if 0<Kh p x it then xX p it L++[(o,Kh p x it)]else xX p it L:=by
 unfold xX;rw[List.filterMap_append];by_cases h:0<Kh p x it
 ·rw[if_pos h];simp[h]
 rw[if_neg h];simp[h]
def GF{m:AM}{K:So}{id mid n kn:Nat}{seen:Pa}{kvs:List (Pi×AV)}(h1:Qj m.boxes id=[.mitr mid n seen])(h2:Qj m.boxes mid=[.aJ kn kvs])(h:kvs.length=n)
  (hs:∀i k c,kvs[i]?=some (k,c)->i ∉ seen->K (.aS [.bool true,keyAV kn k,c]) {m with boxes:=m.boxes.set id [.mitr mid n (seen++[i])]})(he:(∀i,i<n->i∈seen)->K (.aS [.bool false]) m):vcNxt m K (.it id):=by
 simp only[vcNxt,Yd,h1,h2];exact⟨h,hs,he⟩
def N9(p:Pl)(it:Int):UV:=fun _ f l=>if f=227 then(match l with|[_,.int _ x,_]=>I (Kh p x it)|_=>.junk)else .junk
def asM(pre:T5)(b:Bd)(post:T5)(ls:Pa)(it:Int)(f:Nat->AV)(m:AM):Prop:=∃(seen:Pa)(l:List Sp)(rt:Rt)(exl:Pa),
 seen.Nodup/\(∀i∈seen,i<(Ub b.p).length)/\l=xX b.p it (atL (0,0) (Ub b.p) seen)/\f 8=.sl rt (l.map Qe)/\(l=[]/\rt=.nil/\exl=[]\/l≠[]/\rt=.own ls.length 2/\exl=[l.length])/\
 m=aP pre b (post++[[.mitr (pre.length+3) (Ub b.p).length seen]]) (ls++exl)
def GG(pre post:T5)(ls:Pa)(b:Bd)(it:Int)(hc:b.p.cls.length<=1000000000)(cU:b.p.aN.length<=1000000000)(FT:(Ub b.p).length<=1000000000)(Iz:aez b)(Y:YT)(K:So)
  (hK:∀(rv:List (Int×(Rt×List Sp)))(ex:T5)(exl:Pa)(rt:Rt)(l:List Sp),aez {b with rv:=rv}->l.Perm (Kz b.p it)->K (.sl rt (l.map Qe)) (aP pre {b with rv:=rv} (post++ex) (ls++exl))):
  aB Tryz.prog aD Y 171 [.ptr (pre.length+9) 0,I it] (aP pre b post ls) K:=by
 have nil:Kz b.p it=[]->K (.sl .nil []) (aP pre b post ls):=fun h=>by
  have:=hK b.rv [] [] .nil [] Iz (by rw[h]);simpa using this
 refine Xn acv (N9 b.p it) zd ?_
 have axo:∃r,Xi [it] (bG rH (z7 b.p)) 0=r/\((∃n y,Xk it b.p.aN=some y/\r=some (n,rH y))\/(Xk it b.p.aN=none/\r=none)):=by
  rcases Xx rH it (z7 b.p) 0 with⟨h1,h2,_,_⟩|⟨u,n,h1,h2,_⟩
  ·rw[uP]at h1;exact⟨_,rfl,.inr ⟨h1,h2⟩⟩
  rw[uP]at h1;exact⟨_,rfl,.inl ⟨_,u,h1,h2⟩⟩
 obtain⟨r,hr,QO⟩:=axo;obtain⟨n,y,hf,rfl⟩|⟨hf,rfl⟩:=QO
 ·rcases Xx iA y.sp (Ub b.p) 0 with⟨s1,s2,_,_⟩|⟨su,sn,s1,s2,_⟩
  ·simp[Ap,Ey,aP,aW,Qp,Qa,hr,rH,Qm,s2];exact nil (by simp[Kz,hf,s1])
  have hrl:Kz b.p it=xX b.p it (Ub b.p):=by simp[Kz,hf,s1,xX]
  rcases Xx rvA y.sp b.rv 0 with⟨m1,m2,_,m4⟩|⟨mu,mn,m1,m2,_⟩
  ·simp[Ap,aP,aW,Qp,Qa,hr,rH,Qm,s2,m2];refine Qk vD (asM pre b post ls it) (fun _ m=>(Ub b.p).length-N8 (pre.length+(post.length+10)) m) ?_ ?_
   ·exact⟨[],[],.nil,[],List.nodup_nil,zd,rfl,zd,.inl ⟨rfl,rfl,rfl⟩,by simp[aP,aW,Qp,Qa]⟩
   rintro f m ⟨seen,l,rt,exl,hn,hb,hl,h8,aX,rfl⟩;have iE:seen.length<=(Ub b.p).length:=GD hn hb;simp[-vcNxt,aP,aW,Qp,Qa,vD];refine GF (mid:=pre.length+3) (n:=(Ub b.p).length) (kn:=0) (seen:=seen) (kvs:=bG iA (Ub b.p)) ?_ ?_ ?_ (fun i k c hi R9=>?_) fun bD=>?_
   ·simp
   ·simp
   ·simp
   ·obtain⟨o,x,hx,rfl,rfl,JH,ai⟩:=aeL hi
    have bn:(bG iA (Ub b.p))[i]'(Nm ai)=([o],iA x):=by
     have:=zza.1 hi;exact this.2
    have amh:=ame b.p x it hc cU;have qt:(seen++[i]).Nodup:=List.nodup_append.2 ⟨hn,zd,fun a ha c hc=>by simp at hc;subst hc;rintro rfl;exact R9 ha⟩
    have cN:∀j∈seen++[i],j<(Ub b.p).length:=fun j hj=>by
     rcases zzam.1 hj with h|h
     ·exact hb j h
     simp at h;subst h;exact ai
    have cB:seen.length+1<=(Ub b.p).length:=by simpa using GD qt cN
    have hxo:(Ub b.p).getD i (0,0)=(o,x):=by rw[zzaw,hx];rfl
    have Ik:atL (0,0) (Ub b.p) (seen++[i])=atL (0,0) (Ub b.p) seen++[(o,x)]:=by
     simp only[atL,zzcg,zzaz,zzcv,hxo]
    have E7:=K7 b.p it (atL (0,0) (Ub b.p) seen) o x;rw[<- Ik,<- hl]at E7;by_cases hg:0<Kh b.p x it
    ·rw[if_pos hg]at E7
     have Ea:l.length<=(Ub b.p).length:=by
      rw[hl];refine zzba (zzgp _ _) ?_;simp only[atL,zzbt];exact iE
     obtain⟨rfl,rfl,rfl⟩|⟨qq,rfl,rfl⟩:=aX
     ·simp[keyAV,hi,bn,ai,N9,hg,h8,vD,N8];refine⟨by simpa[Qa]using amh,aQ,⟨seen++[i],_,_,[1],qt,cN,rfl,by simp[E7,Qe],.inr ⟨by simp[E7],rfl,by simp[E7]⟩,by simp[aP,aW,Qp,Qa]⟩,zE⟩
     simp[keyAV,hi,bn,ai,N9,hg,h8,vD,N8];refine⟨by simpa[Qa]using amh,⟨?_,zE⟩,aQ,⟨seen++[i],_,_,[l.length+1],qt,cN,rfl,by simp[E7,Qe],.inr ⟨by simp[E7],rfl,by simp[E7]⟩,by simp[aP,aW,Qp,Qa]⟩,zE⟩
     ·rintro row (⟨a,b,_,rfl⟩|rfl)<;>rfl
    rw[if_neg hg]at E7;simp[keyAV,hi,bn,ai,N9,hg,h8,vD,N8];refine⟨by simpa[Qa]using amh,aQ,⟨seen++[i],l,rt,exl,qt,cN,E7.symm,by simp[h8],aX,by simp[aP,aW,Qp,Qa]⟩,zE⟩
   have hpm:l.Perm (Kz b.p it):=by
    rw[hl,hrl];exact(aeA _ _ _ hn bD hb).filterMap _
   have axp:aez {b with rv:=Vm y.sp (rt,l) b.rv}:=fun k x h it' y' hf' cZ=>by
    rw[Jc]at h;split at h
    ·rename_i e;cases h;rw[aeC hf' hf (by rw[cZ,e])];exact hpm
    exact Iz k x h it' y' hf' cZ
   have:=hK _ [[.mitr (pre.length+3) (Ub b.p).length seen]] exl rt l axp hpm;have m4':bG rvA b.rv++[([y.sp],.sl rt (l.map Qe))]=bG rvA (Vm y.sp (rt,l) b.rv):=m4 (rt,l);simp[h8,m2,Ey];rw[m4'];simpa[aP,aW,Qp,Qa]using this
  simp[Ap,Ey,aP,aW,Qp,Qa,hr,rH,Qm,s2,m2,rvA];have:=hK b.rv [] [] mu.1 mu.2 Iz (Iz _ _ m1 it y hf rfl);simpa[aP,aW,Qp,Qa]using this
 have s2:Xi [0] (bG iA (Ub b.p)) 0=none:=by
  rcases Xx iA 0 (Ub b.p) 0 with⟨_,s2,_,_⟩|⟨su,sn,s1,_⟩
  ·exact s2
  rw[Ub,xY _ _ _ rfl]at s1;cases s1
 simp[Ap,Ey,aP,aW,Qp,Qa,hr,s2];exact nil (by simp[Kz,hf])
open Go Go.Abs
def Aa(pre:T5)(p:Pl)(at_:Int)(pl:List (Int×Int))(im:List (Int×It))(sp:List (Int×Int))(post:T5)(ls:Pa):AM:=
 ⟨pre++(Qa p::[.aJ 0 (bG iA pl)]::[.aJ 0 (bG rH im)]::[.aJ 0 (bG iA sp)]::[.aJ 0 []]::[.aJ 0 []]::[.aJ 0 []]::[.aJ 0 []]::[.aJ 2 []]::Qp pre.length ⟨p,at_,[],[],[],[],[]⟩::post),ls,fun _=>.gone,0⟩
def axq(pre:T5)(p:Pl)(at_:Int)(ls:Pa)(f:Nat->AV)(m:AM):Prop:=∃(i:Nat)(pl:List (Int×Int))(post:T5),f 36=I i/\i<=p.ens.length/\Gu (p.ens.drop i) i pl=Dk p/\m=Aa pre p at_ pl [] [] post ls
def axr(pre:T5)(p:Pl)(at_:Int)(ls:Pa)(f:Nat->AV)(m:AM):Prop:=∃(i:Nat)(im:List (Int×It))(sp:List (Int×Int))(post:T5),f 67=I i/\i<=p.aN.length/\KZ (p.aN.drop i) im=z7 p/\z6 (p.aN.drop i) im sp=Ub p/\m=Aa pre p at_ (Dk p) im sp post ls
def axt(pre:T5)(p:Pl)(at_:Int)(past:List Ad)(ls:Pa)(f:Nat->AV)(m:AM):Prop:=∃(i:Nat)(us en:List (Int×Int))(post:T5),f 108=I i/\i<=past.length/\pT i us/\N0 (past.drop i) us=N0 past []/\N1 p (past.drop i) en=N1 p past []/\m=aP pre ⟨p,at_,us,en,[],[],[]⟩ post ls
def IA:UV:=fun _ f _=>if f=999999 then .junk else .gd false .junk
def x8(pre:T5)(ls:Pa)(p:Pl)(at_:Int)(past:List Ad)(rtp:Rt)(Iv:p.ens.length<=1000000000)(cU:p.aN.length<=1000000000)(kJ:past.length<=1000000000)(Y:YT)(K:So)
  (hK:∀ex,K (.ptr (pre.length+9) 0) (aP pre ⟨p,at_,N0 past [],N1 p past [],[],[],[]⟩ ex ls)):
  aB Tryz.prog aD Y 113 [.agg (Qa p),I at_,.sl rtp (past.map Vn)] ⟨pre,ls,fun _=>.gone,0⟩ K:=by
 refine Xn abI IA zd ?_;simp[Eo,Qa,IA];refine Qk BY (axq pre p at_ ls) (fun f _=>p.ens.length-(numOf (f 36)).toNat) ?_ ?_
 ·exact⟨0,[],[],zd,zE,rfl,by simp[Aa,Qp,Qa]⟩
 rintro f m ⟨i,pl,post,h36,hi,uu,rfl⟩;rcases zzaa i p.ens.length with ai|bn
 ·obtain⟨e,he⟩:=aV ai;have ah:=Qdg he;have aa:(i:Int)<(p.ens.length:Int):=zE
  have hw:=bO i zE;rw[Zb he,Gu]at uu;rcases Xx iA e.id pl 0 with⟨h1,h2,_,h4⟩|⟨u,n,h1,h2,_⟩
  ·rw[h1]at uu;have Su:bG iA pl++[([e.id],I i)]=bG iA (Vm e.id (i:Int) pl):=h4 _;simp[h36,ai,aa,ah,Qd,Aa,Qp,Qa,h2,BY,hw];refine⟨aQ,⟨i+1,_,post++[Qd e],zd,zE,uu,?_⟩,zE⟩
   ·rw[Su];simp[Aa,Qp,Qa,Qd]
  rw[h1]at uu;simp[h36,ai,aa,ah,Qd,Aa,Qp,Qa,h2,BY,hw];refine⟨aQ,⟨i+1,pl,post++[Qd e],zd,zE,uu,by simp[Aa,Qp,Qa,Qd]⟩,zE⟩
 have bQ:¬(i:Int)<(p.ens.length:Int):=zE
 rw[zzal bn,Gu]at uu;subst uu;simp[h36,bQ,zzbk.2 bn,BY,Aa,Qp,Qa,IA];refine Qk iM (axr pre p at_ ls) (fun f _=>p.aN.length-(numOf (f 67)).toNat) ?_ ?_
 ·exact⟨0,[],[],post,zd,zE,rfl,rfl,by simp[Aa,Qp,Qa]⟩
 clear bn bQ hi h36;rintro g m ⟨i,im,sp,post,h67,hi,Q0,cZ,rfl⟩;rcases zzaa i p.aN.length with ai|bn
 ·obtain⟨x,hx⟩:=aV ai;have ah:Qj (p.aN.map Qm) i=Qm x:=Qu (by simp[hx]);have aa:(i:Int)<(p.aN.length:Int):=zE
  have hw:=bO i zE;rw[Zb hx,KZ]at Q0;rw[Zb hx,z6]at cZ;simp[h67,ai,aa,ah,Qm,Aa,Qp,Qa,iM,hw,IA];refine Ul ?_;rcases Xx rH x.id im 0 with⟨h1,h2,_,h4⟩|⟨u,n,h1,h2,_⟩
  ·rw[h1]at Q0 cZ;have Su:bG rH im++[([x.id],.agg [I x.id,I x.ki,I x.fr,I x.sp,I x.ra])]=bG rH (Vm x.id x im):=h4 x;simp only at Q0 cZ;by_cases s1:1<=x.sp
   ·by_cases s2:x.sp<=200
    ·rw[if_pos ⟨s1,s2⟩]at cZ;rcases Xx iA x.sp sp 0 with⟨_,q2,_,q4⟩|⟨u,n,_,q2,_,_,_,q4⟩
     ·have q4':bG iA sp++[([x.sp],I x.id)]=bG iA (Vm x.sp x.id sp):=q4 _;simp[h67,ai,aa,ah,Qm,Aa,Qp,Qa,iM,hw,IA,h2,s1,s2,q2];refine⟨aQ,⟨i+1,Vm x.id x im,Vm x.sp x.id sp,post++[Qm x,[I 0,I 0,I 0,I 0,I 0]],zd,zE,Q0,cZ,?_⟩,zE⟩
      ·rw[Su,q4'];simp[Aa,Qp,Qa,Qm]
     have q4':(bG iA sp).set n ([x.sp],I x.id)=bG iA (Vm x.sp x.id sp):=q4 _;rw[zzbs]at q2;simp[h67,ai,aa,ah,Qm,Aa,Qp,Qa,iM,hw,IA,h2,s1,s2,q2];refine⟨aQ,⟨i+1,Vm x.id x im,Vm x.sp x.id sp,post++[Qm x,[I 0,I 0,I 0,I 0,I 0]],zd,zE,Q0,cZ,?_⟩,zE⟩
     ·rw[Su,q4'];simp[Aa,Qp,Qa,Qm]
    rw[if_neg (fun h=>s2 h.2)]at cZ;simp[h67,ai,aa,ah,Qm,Aa,Qp,Qa,iM,hw,IA,h2,s1,s2];refine⟨aQ,⟨i+1,Vm x.id x im,sp,post++[Qm x,[I 0,I 0,I 0,I 0,I 0]],zd,zE,Q0,cZ,?_⟩,zE⟩
    ·rw[Su];simp[Aa,Qp,Qa,Qm]
   rw[if_neg (fun h=>s1 h.1)]at cZ;simp[h67,ai,aa,ah,Qm,Aa,Qp,Qa,iM,hw,IA,h2,s1];refine⟨aQ,⟨i+1,Vm x.id x im,sp,post++[Qm x,[I 0,I 0,I 0,I 0,I 0]],zd,zE,Q0,cZ,?_⟩,zE⟩
   ·rw[Su];simp[Aa,Qp,Qa,Qm]
  rw[h1]at Q0 cZ;simp[h67,ai,aa,ah,Qm,Aa,Qp,Qa,iM,hw,IA,h2,rH];refine⟨aQ,⟨i+1,im,sp,post++[Qm x,Qm u],zd,zE,Q0,cZ,by simp[Aa,Qp,Qa,Qm]⟩,zE⟩
 have bQ:¬(i:Int)<(p.aN.length:Int):=zE
 rw[zzal bn]at Q0 cZ;have Q0:im=z7 p:=Q0;have cZ:sp=Ub p:=cZ;subst Q0;subst cZ;simp[h67,bQ,zzbk.2 bn,iM,Aa,Qp,Qa,IA];refine Qk gh (axt pre p at_ past ls) (fun f _=>past.length-(numOf (f 108)).toNat) ?_ ?_
 ·exact⟨0,[],[],post,zd,zE,fun k v h=>(by cases h),rfl,rfl,by simp[aP,aW,Qp,Qa,St]⟩
 clear bn bQ hi h67;rintro h m ⟨i,us,en,post,h108,hi,hus,hu,he,rfl⟩;rcases zzaa i past.length with ai|bn
 ·obtain⟨a,ha⟩:=aV ai;have ah:Qj (past.map Vn) i=Vn a:=Qu (by simp[ha]);have aa:(i:Int)<(past.length:Int):=zE
  have hw:=bO i zE;rw[Zb ha,N0]at hu;rw[Zb ha,N1]at he;have YO:pT (i+1:Nat) us:=fun k v h=>by have:=hus k v h;omega
  have skip:rF a=false->N0 (past.drop (i+1)) us=N0 past []/\N1 p (past.drop (i+1)) en=N1 p past []:=fun h=>by
   rw[h]at hu he;exact⟨hu,he⟩
  by_cases c1:a.re=0
  ·by_cases c2:0<=a.fr
   ·by_cases c3:a.fr<=100000000
    ·by_cases c4:1<=a.fs
     ·by_cases c5:a.fs<=100000000
      ·have hc:rF a=true:=by simp[rF];omega
       rw[hc]at hu he;simp only[if_true]at hu he;have hwa:IntKind.i64.wrap (a.fr+a.fs)=a.fr+a.fs:=by rw[Ql]<;>omega
       simp[h108,ai,aa,ah,Vn,aP,aW,Qp,Qa,gh,hw,IA,c1,c2,c3,c4,c5,hwa];have kn:=aeK pre (post++[Vn a]) ls ⟨p,at_,us,en,[],[],[]⟩ us en a.it (a.fr+a.fs) (fun k v h=>by have:=hus k v h;omega) Y;simp only[aP,aW,Qp,Qa,Vn,c1]at kn;refine kn _ fun ex=>?_;simp[h108,gh,hw];refine⟨aQ,⟨i+1,Yb us a.it,Zo p en a.it (a.fr+a.fs),post++[[I a.it,I 0,I a.fr,I a.fs]]++ex,zd,zE,?_,hu,he,by simp[aP,aW,Qp,Qa]⟩,zE⟩
       ·have:=hus.note zE a.it;exact this
      obtain⟨hu,he⟩:=skip (by simp[rF];omega);simp[h108,ai,aa,ah,Vn,aP,aW,Qp,Qa,gh,hw,IA,c1,c2,c3,c4,c5];refine⟨aQ,⟨i+1,us,en,post++[[I a.it,I 0,I a.fr,I a.fs]],zd,zE,YO,hu,he,by simp[aP,aW,Qp,Qa]⟩,zE⟩
     obtain⟨hu,he⟩:=skip (by simp[rF];omega);simp[h108,ai,aa,ah,Vn,aP,aW,Qp,Qa,gh,hw,IA,c1,c2,c3,c4];refine⟨aQ,⟨i+1,us,en,post++[[I a.it,I 0,I a.fr,I a.fs]],zd,zE,YO,hu,he,by simp[aP,aW,Qp,Qa]⟩,zE⟩
    obtain⟨hu,he⟩:=skip (by simp[rF];omega);simp[h108,ai,aa,ah,Vn,aP,aW,Qp,Qa,gh,hw,IA,c1,c2,c3];refine⟨aQ,⟨i+1,us,en,post++[[I a.it,I 0,I a.fr,I a.fs]],zd,zE,YO,hu,he,by simp[aP,aW,Qp,Qa]⟩,zE⟩
   obtain⟨hu,he⟩:=skip (by simp[rF];omega);simp[h108,ai,aa,ah,Vn,aP,aW,Qp,Qa,gh,hw,IA,c1,c2];refine⟨aQ,⟨i+1,us,en,post++[[I a.it,I 0,I a.fr,I a.fs]],zd,zE,YO,hu,he,by simp[aP,aW,Qp,Qa]⟩,zE⟩
  obtain⟨hu,he⟩:=skip (by simp[rF,c1]);simp[h108,ai,aa,ah,Vn,aP,aW,Qp,Qa,gh,hw,IA,c1];refine⟨aQ,⟨i+1,us,en,post++[[I a.it,I a.re,I a.fr,I a.fs]],zd,zE,YO,hu,he,by simp[aP,aW,Qp,Qa]⟩,zE⟩
 have bQ:¬(i:Int)<(past.length:Int):=zE
 rw[zzal bn]at hu he;have hu:us=N0 past []:=hu;have he:en=N1 p past []:=he;subst hu;subst he;simp[h108,bQ,zzbk.2 bn,gh,agf];simpa[aP,aW,Qp,Qa,St]using hK post
open Go Go.Abs
def Bp(b:Bd):Prop:=amf b/\aez b/\K4 b
def Dn{α:Type}(sz:Nat)(lo:Nat)(ls:Pa)(rt:Rt)(l:List α):Prop:=(l=[]/\rt=.nil)\/∃k,rt=.own k sz/\lo<=k/\ls[k]?=some l.length/\l≠[]
def Dn.app{α:Type}{sz lo:Nat}{ls exl:Pa}{rt:Rt}{l:List α}(h:Dn sz lo ls rt l):Dn sz lo (ls++exl) rt l:=by
 obtain h|⟨k,h1,h2,h3,h4⟩:=h
 ·exact .inl h
 exact .inr ⟨k,h1,h2,by rw[zzaj (zza.1 h3).1];exact h3,h4⟩
def aeM(p:Pl)(a b:Int):0<=Kh p a b/\Kh p a b<=6000000000:=by
 unfold Kh;cases Xk a p.aN with
 |none=>simp
 |some x=>
  cases Xk b p.aN with
  |none=>simp
  |some y=>
   simp only;split
   ·omega
   rename_i h;simp only[not_or]at h;have hv:Vh p.nu p.de=true:=by simpa using h.2.1
   obtain⟨v1,v2,v3,v4,v5⟩:=Jy hv;have hg:=N3 x.sp y.sp p.cls 0 zE;generalize pR x.sp y.sp p.cls 0=g at hg;rw[xE,if_pos ⟨hv,zE,zE⟩];have hp:=Dp hg ⟨(by omega:0<=p.nu),v2⟩;have:=Dq (x:=g*p.nu+p.de-1) (y:=p.de) zE zE;omega
def uU{p:Pl}{it:Int}:∀r∈Kz p it,0<=r.2/\r.2<=6000000000:=fun r hr=>by
 unfold Kz at hr;cases hf:Xk it p.aN with
 |none=>rw[hf]at hr;cases hr
 |some y=>
  rw[hf]at hr;simp only at hr;cases ha:af y.sp (Ub p)with
  |none=>rw[ha]at hr;cases hr
  |some _=>
   rw[ha]at hr;simp only[zzfd]at hr;obtain⟨x,_,hx⟩:=hr;split at hx
   ·cases hx;exact aeM p _ _
   cases hx
def GH(p:Pl)(it:Int):(Kz p it).length<=(Ub p).length:=by
 unfold Kz;cases Xk it p.aN with
 |none=>simp
 |some y=>
  simp only;cases af y.sp (Ub p)with
  |none=>simp
  |some _=>exact zzgp _ _
def ug(en:List (Int×Int)):Prop:=∀k v,af k en=some v->0<=v/\v<=1000000000
def ug.note{p:Pl}{en:List (Int×Int)}(h:ug en)(it e:Int)(he:0<=e/\e<=1000000000):ug (Zo p en it e):=fun k v hk=>by
 unfold Zo at hk;cases hf:Xk it p.aN with
 |none=>rw[hf]at hk;exact h k v hk
 |some x=>
  rw[hf]at hk;simp only[Jc]at hk;split at hk
  ·cases hk;cases ha:af x.sp en with
   |none=>simp;omega
   |some u=>have:=h _ u ha;simp;omega
  exact h k v hk
def x9{en:List (Int×Int)}(h:ug en):∀{l:List Sp}{f M:Int},(∀r∈l,0<=r.2/\r.2<=6000000000)->f<=M->7000000000<=M->Uk en l f<=M
 |[],f,M,_,h1,_=>h1
 |r::l,f,M,hl,h1,h2=>by
  rw[Uk];refine x9 h (fun x hx=>hl x (by simp[hx])) ?_ h2;have:=hl r zd;cases ha:af r.1 en with
  |none=>exact h1
  |some e=>have:=h _ e ha;simp only;omega
def YP(l:List Sp):Option (List Sp)->Option (List Sp)
 |none=>none
 |some r=>some (l++r)
def ami(pre post:T5)(ls:Pa)(b:Bd)(ids:Pi)(N:Int)(T:Option (List Sp))(f:Nat->AV)(m:AM):Prop:=
 ∃(i:Nat)(us en:List (Int×Int))(free last:Int)(l:List Sp)(rt:Rt)(rv:List (Int×(Rt×List Sp)))(li:List (Int×Int))(pm:List ((Int×Int)×List Sp))(bx:T5)(exl:Pa),
  f 39=I i/\i<=ids.length/\f 8=I free/\f 9=I last/\f 10=.sl rt (l.map Qe)/\l.length=i/\(-1<=last/\last<=1000000000)/\free<=9223372036854775807/\pT (N+i) us/\ug en/\Dn 2 ls.length (ls++exl) rt l/\Bp {b with rv:=rv,li:=li,pm:=pm}/\
  YP l (Jl b.p (ids.drop i) us en free last)=T/\m=aP pre {b with rv:=rv,li:=li,pm:=pm} (post++([.aJ 0 (bG iA us)]::[.aJ 0 (bG iA en)]::bx)) (ls++exl)
def aiM(pre post bx0:T5)(e:En)(ls:Pa)(b:Bd)(us en:List (Int×Int))(L:List Sp)(T:Int)(f:Nat->AV)(m:AM):Prop:=
 ∃(j:Nat)(fr:Int)(bx:T5),f 90=I j/\j<=L.length/\f 17=I fr/\Uk en (L.drop j) fr=T/\m=aP pre b (post++([.aJ 0 (bG iA us)]::[.aJ 0 (bG iA en)]::(bx0++(Qd e::bx)))) ls
def IB:UV:=fun _ f _=>if f=999999 then .junk else .gd false .junk
def Qem(pre post:T5)(ls:Pa)(b:Bd)(ids:Pi)(rt0:Rt)(N:Int)(hN:0<=N/\N<=100000000)(asN:ids.length<=100000000)
  (hc:b.p.cls.length<=1000000)(fB:b.p.sh.length<=1000000000)(cU:b.p.aN.length<=1000000000)(Iv:b.p.ens.length<=1000000000)(FT:(Ub b.p).length<=1000000000)(dG:b.p.ln<=9223372036854775807)(Sv:∀e∈b.p.ens,e.ea<=9223372036854775807)
  (Ik:b.at_<=9223372036854775807)(hus:pT N b.us)(aeN:ug b.en)(ef:Bp b)(Y:YT)(K:So)
  (rC:Jl b.p ids b.us b.en b.at_ (-1)=none->∀rv li pm ex exl,Bp {b with rv:=rv,li:=li,pm:=pm}->K (.aS [.sl .nil [],.bool false]) (aP pre {b with rv:=rv,li:=li,pm:=pm} (post++ex) (ls++exl)))
  (VE:∀l,Jl b.p ids b.us b.en b.at_ (-1)=some l->∀rv li pm ex exl rt,Bp {b with rv:=rv,li:=li,pm:=pm}->Dn 2 ls.length (ls++exl) rt l->K (.aS [.sl rt (l.map Qe),.bool true]) (aP pre {b with rv:=rv,li:=li,pm:=pm} (post++ex) (ls++exl))):
  aB Tryz.prog aD Y 114 [.ptr (pre.length+9) 0,.sl rt0 (ids.map Xa)] (aP pre b post ls) K:=by
 obtain⟨T,hT⟩:∃T,Jl b.p ids b.us b.en b.at_ (-1)=T:=⟨_,rfl⟩;rw[hT]at rC VE;refine Xn abJ IB zd ?_;simp[Ep,aP,aW,Qp,Qa];refine Qbk [(.mp (pre.length+(post.length+10)),aP pre b (post++[[.aJ 0 (bG iA b.us)]]) ls)] ?_;simp[Ep,aP,aW,Qp,Qa,IB];refine⟨Oa (kn:=0) (kvs:=bG iA b.us) zd ⟨zd,zd⟩,Oa (kn:=0) (kvs:=bG iA b.en) zd ?_⟩;simp[IB];refine Qk mP (ami pre post ls b ids N T) (fun f _=>ids.length-(numOf (f 39)).toNat) ?_ ?_
 ·refine⟨0,b.us,b.en,b.at_,-1,[],.nil,b.rv,b.li,b.pm,[],[],zd,zE,zd,zd,zd,rfl,zE,Ik,Nm hus,aeN,.inl ⟨rfl,rfl⟩,ef,?_,by simp[aP,aW,Qp,Qa]⟩;rw[zzdb,hT];cases T<;>rfl
 rintro f m ⟨i,us,en,free,last,l,rt,rv,li,pm,bx,exl,h39,hi,h8,h9,lM,Ea,hla,zJ,hu,he,hO,hB,hg,rfl⟩;rcases zzaa i ids.length with ai|bn
 ·obtain⟨id,aL⟩:=aV ai;have ah:Qj (ids.map Xa) i=Xa id:=Qu (by simp[aL]);have aa:(i:Int)<(ids.length:Int):=zE
  have hw:=bO i zE;rw[Zb aL,Jl]at hg;have no:T=none->∀rv li pm ex exl,Bp {b with rv:=rv,li:=li,pm:=pm}->K (.aS [.sl .nil [],.bool false]) (aP pre {b with rv:=rv,li:=li,pm:=pm} (post++ex) (ls++exl)):=rC;rcases Xx iA id (Dk b.p) 0 with⟨p1,p2,_⟩|⟨u,n,p1,p2,_⟩
  ·have p1:z8 id b.p.ens 0=none:=by
    rw[uO]at p1;cases hx:z8 id b.p.ens 0 with
    |none=>rfl
    |some k=>rw[hx]at p1;cases p1
   rw[p1]at hg;simp[h39,h8,h9,lM,ai,aa,ah,Xa,aP,aW,Qp,Qa,mP,p2,sd];have:=rC hg.symm rv li pm ([.aJ 0 (bG iA us)]::[.aJ 0 (bG iA en)]::bx) exl hB;simpa[aP,aW,Qp,Qa]using this
  obtain⟨k,pk,rfl⟩:∃k:Nat,z8 id b.p.ens 0=some k/\(k:Int)=u:=by
   rw[uO]at p1;cases hx:z8 id b.p.ens 0 with
   |none=>rw[hx]at p1;cases p1
   |some k=>rw[hx]at p1;cases p1;exact⟨k,rfl,rfl⟩
  rw[zzbs]at p2;rw[pk]at hg;simp only at hg;obtain⟨_,e,he1,he2,he3⟩:=rG pk;rw[zzfc]at he1;have oQ:=(zza.1 he1).1;have zP:(k:Int)<(b.p.ens.length:Int):=zE
  have ya:=Qdg he1;by_cases c1:(k:Int)<=last
  ·rw[if_pos c1]at hg;simp[h39,h8,h9,lM,ai,aa,ah,Xa,aP,aW,Qp,Qa,mP,p2,sd,c1];have:=rC hg.symm rv li pm ([.aJ 0 (bG iA us)]::[.aJ 0 (bG iA en)]::bx) exl hB;simpa[aP,aW,Qp,Qa]using this
  rw[if_neg c1,he1]at hg;simp only at hg;simp[h39,h8,h9,lM,ai,aa,ah,Xa,aP,aW,Qp,Qa,mP,p2,c1,oQ,zP,ya,Qd,IB];have k82:=fun K'=>aey pre (post++([.aJ 0 (bG iA us)]::[.aJ 0 (bG iA en)]::(bx++[Qd e]))) (ls++exl) {b with rv:=rv,li:=li,pm:=pm} e.it (by simp only;omega) cU hB.1 Y K';simp only[aP,aW,Qp,Qa,Qd]at k82;refine k82 _ fun s5 YQ=>?_;clear k82;have A6:Bp {b with rv:=rv,li:=s5,pm:=pm}:=⟨YQ,hB.2.1,hB.2.2⟩;obtain⟨R,hR⟩:∃R,Wu b.p e.it=R:=⟨_,rfl⟩;rw[hR]at hg
  obtain⟨cu,sk,asO⟩:∃cu,(af e.it us).getD 0=cu/\((Xi [e.it] (bG iA us) 0=none/\cu=0)\/∃n,Xi [e.it] (bG iA us) 0=some (n,I cu)):=by
   rcases Xx iA e.it us 0 with⟨q1,q2,_⟩|⟨u,n,q1,q2,_⟩
   ·exact⟨0,by rw[q1];rfl,.inl ⟨q2,rfl⟩⟩
   exact⟨u,by rw[q1];rfl,.inr ⟨_,q2⟩⟩
  rw[sk]at hg;by_cases r2:R≠ -1/\R<=cu
  ·rw[if_pos r2]at hg;have:=rC hg.symm rv s5 pm ([.aJ 0 (bG iA us)]::[.aJ 0 (bG iA en)]::(bx++[Qd e])) exl A6;obtain⟨r1,r2⟩:=r2;obtain⟨q2,rfl⟩|⟨n2,q2⟩:=asO
   ·simp[aP,aW,Qp,Qa,Qd,IB,q2,r1,r2,hR,sd];simpa[aP,aW,Qp,Qa,Qd]using this
   simp[aP,aW,Qp,Qa,Qd,IB,q2,r1,r2,hR,sd];simpa[aP,aW,Qp,Qa,Qd]using this
  rw[if_neg r2]at hg
  have r3:R= -1\/(R≠ -1/\¬R<=cu):=by
   by_cases h:R= -1
   ·exact .inl h
   exact .inr ⟨h,fun h'=>r2 ⟨h,h'⟩⟩
  clear r2;obtain r1|⟨r1,r2⟩:=r3
  ·have q2:True:=trivial;have r2:True:=trivial;simp[h39,h8,h9,lM,aP,aW,Qp,Qa,Qd,IB,q2,r1,r2,hR];have k83:=fun K'=>GG pre (post++([.aJ 0 (bG iA us)]::[.aJ 0 (bG iA en)]::(bx++[Qd e]))) (ls++exl) {b with rv:=rv,li:=s5,pm:=pm} e.it (by simp only;omega) cU FT hB.2.1 Y K';simp only[aP,aW,Qp,Qa,Qd]at k83;refine k83 _ fun Ec Dr ei rt3 L YR yb=>?_;clear k83;have Sj:Bp {b with rv:=Ec,li:=s5,pm:=pm}:=⟨YQ,YR,hB.2.2⟩;have hLb:∀r∈L,0<=r.2/\r.2<=6000000000:=fun r hr=>uU r (yb.mem_iff.1 hr)
   have hLl:L.length<=1000000000:=by
    rw[yb.length_eq];have:=GH b.p e.it;omega
   have hfp:=xW en yb (max e.ea free);obtain⟨F,hF⟩:∃F,Uk en (Kz b.p e.it) (max e.ea free)=F:=⟨_,rfl⟩;rw[hF]at hfp
   have hFb:F<=9223372036854775807:=by
    rw[<- hF];refine x9 he uU ?_ zE;have:=Sv e (zzae he1);omega
   have hmx:(if e.ea<free then free else e.ea)=max e.ea free:=zE
   simp[h39,h8,h9,lM,aP,aW,Qp,Qa,Qd,IB,hmx];refine Qk iN (aiM pre post bx e (ls++(exl++ei)) {b with rv:=Ec,li:=s5,pm:=pm} us en L F) (fun f _=>L.length-(numOf (f 90)).toNat) ?_ ?_
   ·exact⟨0,max e.ea free,Dr,zd,zE,zd,by rw[zzdb];exact hfp,by simp[aP,aW,Qp,Qa,Qd]⟩
   rintro g m ⟨j,fr,bx4,g90,hj,g17,Ds,rfl⟩;rcases zzaa j L.length with jlt|jge
   ·obtain⟨r,hr⟩:=aV jlt;have YS:=Zx hr;have YU:(j:Int)<(L.length:Int):=zE
    have xI:=bO j zE;rw[Zb hr,Uk]at Ds;have A4:=hLb r (zzae hr);rcases Xx iA r.1 en 0 with⟨v1,v2,_⟩|⟨v,nv,v1,v2,_⟩
    ·rw[v1]at Ds;simp[g90,g17,iN,jlt,YU,YS,Qe,xI,aP,aW,Qp,Qa,Qd,v2];refine⟨aQ,⟨j+1,fr,bx4++[Qe r],zd,zE,by simp[g17],Ds,by simp[aP,aW,Qp,Qa,Qe,Qd]⟩,zE⟩
    rw[v1]at Ds;have hvb:=he r.1 v v1;have hwv:IntKind.i64.wrap (v+r.2)=v+r.2:=by rw[Ql]<;>omega
    have hmv:(if fr<v+r.2 then v+r.2 else fr)=max fr (v+r.2):=zE
    simp[g90,g17,iN,jlt,YU,YS,Qe,xI,aP,aW,Qp,Qa,Qd,v2,hwv,hmv];refine⟨aQ,⟨j+1,max fr (v+r.2),bx4++[Qe r],zd,zE,zd,Ds,by simp[aP,aW,Qp,Qa,Qe,Qd]⟩,zE⟩
   have jin:¬(j:Int)<(L.length:Int):=zE
   rw[zzal jge]at Ds;have Ds:fr=F:=Ds;subst Ds;have k84:=fun K'=>N6 pre (post++([.aJ 0 (bG iA us)]::[.aJ 0 (bG iA en)]::(bx++(Qd e::bx4)))) (ls++(exl++ei)) {b with rv:=Ec,li:=s5,pm:=pm} e fr hc fB cU dG hFb hB.2.2 Y K';simp only[aP,aW,Qp,Qa,Qd]at k84;have hO':Dn 2 ls.length (ls++(exl++ei)) rt l:=by rw[<- zzbe];exact hO.app
   rw[hF]at hg;simp[g90,g17,jin,zzbk.2 jge,iN,mP,h39,h8,h9,lM,aP,aW,Qp,Qa,Qd,IB];refine k84 _ fun YV Q1 amj=>?_;clear k84;have hB4:Bp {b with rv:=Ec,li:=s5,pm:=YV}:=⟨YQ,YR,amj⟩;cases hs:Yk b.p e fr with
   |none=>
    rw[hs]at hg;have:=rC hg.symm Ec s5 YV ([.aJ 0 (bG iA us)]::[.aJ 0 (bG iA en)]::(bx++(Qd e::(bx4++Q1)))) (exl++ei) hB4;simp[Gy,sd];simpa[aP,aW,Qp,Qa,Qd]using this
   |some s=>
    rw[hs]at hg;simp only at hg
    have hg:YP (l++[(id,s)]) (Jl b.p (ids.drop (i+1)) (Yb us e.it) (Zo b.p en e.it (s+e.fr)) (s+e.fr) k)=T:=by
     rw[<- hg];cases Jl b.p (ids.drop (i+1)) (Yb us e.it) (Zo b.p en e.it (s+e.fr)) (s+e.fr) k<;>simp[YP]
    obtain⟨a1,a2,a3,a4,a5,a6,_⟩:=Qbg hs;have hws:IntKind.i64.wrap (s+e.fr)=s+e.fr:=by rw[Ql]<;>omega
    have kn:=fun LS K'=>YN pre post (bx++(Qd e::(bx4++Q1))) LS {b with rv:=Ec,li:=s5,pm:=YV} us en e.it (s+e.fr) (fun k v h=>by have:=hu k v h;omega) Y K';simp only[aP,aW,Qp,Qa,Qd]at kn;have JG:=hu.note zE e.it;have he2:ug (Zo b.p en e.it (s+e.fr)):=he.note e.it _ zE;have hN1:N+i+1=N+(i+1:Nat):=zE
    rw[hN1]at JG;obtain⟨qq,Cu⟩|⟨k2,Cu,dD,ee,_⟩:=hO'
    ·subst Cu;subst qq;simp[Gy,h39,h8,h9,lM,aP,aW,Qp,Qa,Qd,IB,hws];refine kn _ _ fun ex5=>?_;refine⟨aQ,⟨i+1,Yb us e.it,Zo b.p en e.it (s+e.fr),s+e.fr,k,[(id,s)],.own (ls.length+(exl.length+ei.length)) 2,Ec,s5,YV,bx++(Qd e::(bx4++Q1++ex5)),exl++(ei++[1]),by simp[hw],zE,zd,zd,by simp[Qe],by simp at Ea;simp[Ea],zE,zE,JG,he2,.inr ⟨_,rfl,zE,?_,zd⟩,hB4,hg,?_⟩,by simp[hw];omega⟩
     ·have:(ls++(exl++(ei++[1])))=(ls++(exl++ei))++[1]:=zd
      rw[this,zzap zd];simp
     simp[aP,aW,Qp,Qa,Qd]
    subst Cu;have Bh:=(zza.1 ee).1;have bS:(ls++(exl++ei)).set k2 (l.length+1)=ls++(exl++ei).set (k2-ls.length) (l.length+1):=zzde _ _ dD;simp[Gy,h39,h8,h9,lM,aP,aW,Qp,Qa,Qd,IB,hws,ee];refine⟨⟨?_,zE⟩,kn _ _ fun ex5=>?_⟩
    ·rintro row (⟨a,b,_,rfl⟩|rfl)<;>rfl
    refine⟨aQ,⟨i+1,Yb us e.it,Zo b.p en e.it (s+e.fr),s+e.fr,k,l++[(id,s)],.own k2 2,Ec,s5,YV,bx++(Qd e::(bx4++Q1++ex5)),(exl++ei).set (k2-ls.length) (l.length+1),by simp[hw],zE,zd,zd,by simp[Qe],by simp[Ea],zE,zE,JG,he2,.inr ⟨k2,rfl,dD,?_,zd⟩,hB4,hg,?_⟩,by simp[hw];omega⟩
    ·rw[<- bS,zzbf Bh];simp
    simp only[bS];simp[aP,aW,Qp,Qa,Qd]
  obtain⟨q2,rfl⟩|⟨n2,q2⟩:=asO
  all_goals
   simp[h39,h8,h9,lM,aP,aW,Qp,Qa,Qd,IB,q2,r1,r2,hR];have k83:=fun K'=>GG pre (post++([.aJ 0 (bG iA us)]::[.aJ 0 (bG iA en)]::(bx++[Qd e]))) (ls++exl) {b with rv:=rv,li:=s5,pm:=pm} e.it (by simp only;omega) cU FT hB.2.1 Y K';simp only[aP,aW,Qp,Qa,Qd]at k83;refine k83 _ fun Ec Dr ei rt3 L YR yb=>?_;clear k83;have Sj:Bp {b with rv:=Ec,li:=s5,pm:=pm}:=⟨YQ,YR,hB.2.2⟩;have hLb:∀r∈L,0<=r.2/\r.2<=6000000000:=fun r hr=>uU r (yb.mem_iff.1 hr)
   have hLl:L.length<=1000000000:=by
    rw[yb.length_eq];have:=GH b.p e.it;omega
   have hfp:=xW en yb (max e.ea free);obtain⟨F,hF⟩:∃F,Uk en (Kz b.p e.it) (max e.ea free)=F:=⟨_,rfl⟩;rw[hF]at hfp
   have hFb:F<=9223372036854775807:=by
    rw[<- hF];refine x9 he uU ?_ zE;have:=Sv e (zzae he1);omega
   have hmx:(if e.ea<free then free else e.ea)=max e.ea free:=zE
   simp[h39,h8,h9,lM,aP,aW,Qp,Qa,Qd,IB,hmx];refine Qk iN (aiM pre post bx e (ls++(exl++ei)) {b with rv:=Ec,li:=s5,pm:=pm} us en L F) (fun f _=>L.length-(numOf (f 90)).toNat) ?_ ?_
   ·exact⟨0,max e.ea free,Dr,zd,zE,zd,by rw[zzdb];exact hfp,by simp[aP,aW,Qp,Qa,Qd]⟩
   rintro g m ⟨j,fr,bx4,g90,hj,g17,Ds,rfl⟩;rcases zzaa j L.length with jlt|jge
   ·obtain⟨r,hr⟩:=aV jlt;have YS:=Zx hr;have YU:(j:Int)<(L.length:Int):=zE
    have xI:=bO j zE;rw[Zb hr,Uk]at Ds;have A4:=hLb r (zzae hr);rcases Xx iA r.1 en 0 with⟨v1,v2,_⟩|⟨v,nv,v1,v2,_⟩
    ·rw[v1]at Ds;simp[g90,g17,iN,jlt,YU,YS,Qe,xI,aP,aW,Qp,Qa,Qd,v2];refine⟨aQ,⟨j+1,fr,bx4++[Qe r],zd,zE,by simp[g17],Ds,by simp[aP,aW,Qp,Qa,Qe,Qd]⟩,zE⟩
    rw[v1]at Ds;have hvb:=he r.1 v v1;have hwv:IntKind.i64.wrap (v+r.2)=v+r.2:=by rw[Ql]<;>omega
    have hmv:(if fr<v+r.2 then v+r.2 else fr)=max fr (v+r.2):=zE
    simp[g90,g17,iN,jlt,YU,YS,Qe,xI,aP,aW,Qp,Qa,Qd,v2,hwv,hmv];refine⟨aQ,⟨j+1,max fr (v+r.2),bx4++[Qe r],zd,zE,zd,Ds,by simp[aP,aW,Qp,Qa,Qe,Qd]⟩,zE⟩
   have jin:¬(j:Int)<(L.length:Int):=zE
   rw[zzal jge]at Ds;have Ds:fr=F:=Ds;subst Ds;have k84:=fun K'=>N6 pre (post++([.aJ 0 (bG iA us)]::[.aJ 0 (bG iA en)]::(bx++(Qd e::bx4)))) (ls++(exl++ei)) {b with rv:=Ec,li:=s5,pm:=pm} e fr hc fB cU dG hFb hB.2.2 Y K';simp only[aP,aW,Qp,Qa,Qd]at k84;have hO':Dn 2 ls.length (ls++(exl++ei)) rt l:=by rw[<- zzbe];exact hO.app
   rw[hF]at hg;simp[g90,g17,jin,zzbk.2 jge,iN,mP,h39,h8,h9,lM,aP,aW,Qp,Qa,Qd,IB];refine k84 _ fun YV Q1 amj=>?_;clear k84;have hB4:Bp {b with rv:=Ec,li:=s5,pm:=YV}:=⟨YQ,YR,amj⟩;cases hs:Yk b.p e fr with
   |none=>
    rw[hs]at hg;have:=rC hg.symm Ec s5 YV ([.aJ 0 (bG iA us)]::[.aJ 0 (bG iA en)]::(bx++(Qd e::(bx4++Q1)))) (exl++ei) hB4;simp[Gy,sd];simpa[aP,aW,Qp,Qa,Qd]using this
   |some s=>
    rw[hs]at hg;simp only at hg
    have hg:YP (l++[(id,s)]) (Jl b.p (ids.drop (i+1)) (Yb us e.it) (Zo b.p en e.it (s+e.fr)) (s+e.fr) k)=T:=by
     rw[<- hg];cases Jl b.p (ids.drop (i+1)) (Yb us e.it) (Zo b.p en e.it (s+e.fr)) (s+e.fr) k<;>simp[YP]
    obtain⟨a1,a2,a3,a4,a5,a6,_⟩:=Qbg hs;have hws:IntKind.i64.wrap (s+e.fr)=s+e.fr:=by rw[Ql]<;>omega
    have kn:=fun LS K'=>YN pre post (bx++(Qd e::(bx4++Q1))) LS {b with rv:=Ec,li:=s5,pm:=YV} us en e.it (s+e.fr) (fun k v h=>by have:=hu k v h;omega) Y K';simp only[aP,aW,Qp,Qa,Qd]at kn;have JG:=hu.note zE e.it;have he2:ug (Zo b.p en e.it (s+e.fr)):=he.note e.it _ zE;have hN1:N+i+1=N+(i+1:Nat):=zE
    rw[hN1]at JG;obtain⟨qq,Cu⟩|⟨k2,Cu,dD,ee,_⟩:=hO'
    ·subst Cu;subst qq;simp[Gy,h39,h8,h9,lM,aP,aW,Qp,Qa,Qd,IB,hws];refine kn _ _ fun ex5=>?_;refine⟨aQ,⟨i+1,Yb us e.it,Zo b.p en e.it (s+e.fr),s+e.fr,k,[(id,s)],.own (ls.length+(exl.length+ei.length)) 2,Ec,s5,YV,bx++(Qd e::(bx4++Q1++ex5)),exl++(ei++[1]),by simp[hw],zE,zd,zd,by simp[Qe],by simp at Ea;simp[Ea],zE,zE,JG,he2,.inr ⟨_,rfl,zE,?_,zd⟩,hB4,hg,?_⟩,by simp[hw];omega⟩
     ·have:(ls++(exl++(ei++[1])))=(ls++(exl++ei))++[1]:=zd
      rw[this,zzap zd];simp
     simp[aP,aW,Qp,Qa,Qd]
    subst Cu;have Bh:=(zza.1 ee).1;have bS:(ls++(exl++ei)).set k2 (l.length+1)=ls++(exl++ei).set (k2-ls.length) (l.length+1):=zzde _ _ dD;simp[Gy,h39,h8,h9,lM,aP,aW,Qp,Qa,Qd,IB,hws,ee];refine⟨⟨?_,zE⟩,kn _ _ fun ex5=>?_⟩
    ·rintro row (⟨a,b,_,rfl⟩|rfl)<;>rfl
    refine⟨aQ,⟨i+1,Yb us e.it,Zo b.p en e.it (s+e.fr),s+e.fr,k,l++[(id,s)],.own k2 2,Ec,s5,YV,bx++(Qd e::(bx4++Q1++ex5)),(exl++ei).set (k2-ls.length) (l.length+1),by simp[hw],zE,zd,zd,by simp[Qe],by simp[Ea],zE,zE,JG,he2,.inr ⟨k2,rfl,dD,?_,zd⟩,hB4,hg,?_⟩,by simp[hw];omega⟩
    ·rw[<- bS,zzbf Bh];simp
    simp only[bS];simp[aP,aW,Qp,Qa,Qd]
 have bQ:¬(i:Int)<(ids.length:Int):=zE
 rw[zzal bn,Jl]at hg;have hg:some (l++[])=T:=hg;rw[zzar]at hg;have:=VE l hg.symm rv li pm ([.aJ 0 (bG iA us)]::[.aJ 0 (bG iA en)]::bx) exl rt hB hO;simp[h39,h8,h9,lM,bQ,zzbk.2 bn,mP,sd];simpa[aP,aW,Qp,Qa]using this
open Go Go.Abs
def aeO(l:Pi)(hl:l.length<=1000000000):Pure Tryz.prog aD 173 [.sl .ro (l.map Xa)] (.sl .ro (l.map Xa)):=by
 cases l with
 |nil=>
  refine sR (Zl (?_:Pure Tryz.prog aD 173 [.sl .nil []] (.sl .nil [])) (Wk.sl _ _)) ?_
  ·refine Qo Cb (fun _ _ _=>.junk) zd ?_;simp[MT,MU]
  refine Qo Cb (fun _ _ _=>.junk) zd ?_;simp[MT,MU]
 |cons x r=>
  refine Qo Cb (fun _ _ _=>.junk) zd ?_;simp[MT,MU,Xa];simp at hl;omega
def Bq{α:Type}(c:List α)(i:Nat)(h:i<c.length):(c.take i++c.drop (i+1)).length+1=c.length:=by
 simp;omega
def GI(ok:Pi->Bool)(c:Pi)(i:Nat):Pi:=
 if h:i<c.length then(if ok (c.take i++c.drop (i+1))=true then GI ok c (i+1)else GI ok (c.take i++c.drop (i+1)) i)else c
termination_by c.length-i
decreasing_by
 ·omega
 have:=Bq c i h;omega
def ow(b:Bd)(ids:Pi):Bool:=(Jl b.p ids b.us b.en b.at_ (-1)).isSome
def nR(b:Bd)(ids:Pi):Pi:=if ow b ids=true then[]else GI (ow b) ids 0
def asP(pre post:T5)(ls:Pa)(b:Bd)(N:Nat)(T:Pi)(f:Nat->AV)(m:AM):Prop:=
 ∃(i:Nat)(c:Pi)(rv:List (Int×(Rt×List Sp)))(li:List (Int×Int))(pm:List ((Int×Int)×List Sp))(ex:T5)(exl:Pa),
  f 7=.sl .ro (c.map Xa)/\f 8=I i/\i<=c.length/\c.length<=N/\GI (ow b) c i=T/\Bp {b with rv:=rv,li:=li,pm:=pm}/\m=aP pre {b with rv:=rv,li:=li,pm:=pm} (post++ex) (ls++exl)
def Ob(ids:Pi):UV:=fun _ f l=>if f=114 then .gd false .junk else if f=173 then .sl .ro (ids.map Xa)else
 (match l with|[.sl _ [[.sl _ a],[.sl _ c]]]=>.sl .ro (a++c)|_=>.junk)
def K8(pre post:T5)(ls:Pa)(b:Bd)(ids:Pi)(rt0:Rt)(h85:∀m,Abs.Pure Tryz.prog aD 173 [bz m 6 (.sl rt0 (ids.map Xa))] (.sl .ro (ids.map Xa)))(N:Int)(hN:0<=N/\N<=100000000)(asN:ids.length<=100000000)
  (hc:b.p.cls.length<=1000000)(fB:b.p.sh.length<=1000000000)(cU:b.p.aN.length<=1000000000)(Iv:b.p.ens.length<=1000000000)(FT:(Ub b.p).length<=1000000000)(dG:b.p.ln<=9223372036854775807)(Sv:∀e∈b.p.ens,e.ea<=9223372036854775807)
  (Ik:b.at_<=9223372036854775807)(hus:pT N b.us)(aeN:ug b.en)(ef:Bp b)(Y:YT)(K:So)
  (hK:∀rv li pm ex exl,Bp {b with rv:=rv,li:=li,pm:=pm}->K (.sl (if ow b ids=true then .nil else .ro) ((nR b ids).map Xa)) (aP pre {b with rv:=rv,li:=li,pm:=pm} (post++ex) (ls++exl))):
  aB Tryz.prog aD Y 115 [.ptr (pre.length+9) 0,.sl rt0 (ids.map Xa)] (aP pre b post ls) K:=by
 refine Xn abK (Ob ids) zd ?_;simp[Tq,aP,aW,Qp,Qa,Ob];have k42:=fun K'=>Qem pre post ls b ids rt0 N hN asN hc fB cU Iv FT dG Sv Ik hus aeN ef Y K';simp only[aP,aW,Qp,Qa]at k42;refine k42 _ (fun h0 rv li pm ex exl hB=>?_) (fun l h1 rv li pm ex exl rt hB hO=>?_)
 ·have bU:ow b ids=false:=by simp[ow,h0]
  simp[Ob];refine⟨h85 _,?_⟩;refine Qk vp (asP pre post ls b ids.length (nR b ids)) (fun f _=>(match f 7 with|.sl _ c=>c.length|_=>0)-(numOf (f 8)).toNat) ?_ ?_
  ·exact⟨0,ids,rv,li,pm,ex,exl,zd,zd,zE,zE,by simp[nR,bU],hB,by simp[aP,aW,Qp,Qa]⟩
  rintro f m ⟨i,c,rv,li,pm,ex,exl,h7,h8,hi,qu,hT,hB,rfl⟩;rcases zzaa i c.length with ai|bn
  ·have aa:(i:Int)<(c.length:Int):=zE
   have hw:=bO i zE;simp[h7,h8,ai,aa,vp,aP,aW,Qp,Qa,Ob,hw];have eA:List.take i (List.map Xa c)=(c.take i).map Xa:=zd
   have eB:List.take (c.length-(i+1)) (List.drop (i+1) (List.map Xa c))=(c.drop (i+1)).map Xa:=by
    rw[zzau zd];simp
   rw[eA,eB,<- zzcg];have k86:=YG [(.ro,c.take i),(.ro,c.drop (i+1))] zd zd (by simp;omega);have FP:=Bq c i ai;rw[GI,dif_pos ai]at hT;have fM:(List.map (fun x:Rt×Pi=>x.2) [(Rt.ro,c.take i),(Rt.ro,c.drop (i+1))]).flatten=c.take i++c.drop (i+1):=zd
   rw[fM]at k86;obtain⟨o,ho⟩:∃o,c.take i++c.drop (i+1)=o:=⟨_,rfl⟩;rw[ho]at k86 FP hT |-
   refine⟨⟨zE,fun _ _=>rfl⟩,⟨zE,fun _ _=>rfl⟩,k86,?_⟩;have k42:=fun K'=>Qem pre (post++ex) (ls++exl) {b with rv:=rv,li:=li,pm:=pm} o .ro N hN zE hc fB cU Iv FT dG Sv Ik hus aeN hB Y K';simp only[aP,aW,Qp,Qa]at k42;refine k42 _ (fun h0 rv2 s5 N7 gH amk A6=>?_) (fun l h1 rv2 s5 N7 gH amk rt A6 hO=>?_)
   ·have bU:ow b o=false:=by simp only[ow];rw[h0];rfl
    rw[bU]at hT;have hT:GI (ow b) o i=nR b ids:=hT;simp[h7,h8,vp];refine⟨aQ,⟨i,o,rv2,s5,N7,ex++gH,exl++amk,zd,by simp[h8],zE,zE,hT,A6,by simp[aP,aW,Qp,Qa]⟩,?_⟩
    ·rw[zzgu (zzgq ai),zzdu];exact Nat.sub_lt_sub_left ai (zzev i)
   have bU:ow b o=true:=by simp only[ow];rw[h1];rfl
   rw[bU]at hT;have hT:GI (ow b) c (i+1)=nR b ids:=hT;simp[h7,h8,vp,hw];refine⟨aQ,⟨i+1,c,rv2,s5,N7,ex++gH,exl++amk,by simp[h7],zd,zE,zE,hT,A6,by simp[aP,aW,Qp,Qa]⟩,zE⟩
  have bQ:¬(i:Int)<(c.length:Int):=zE
  rw[GI,dif_neg zE]at hT;have:=hK rv li pm ex exl hB;rw[<- hT,bU,if_neg zd]at this;simp[h7,h8,bQ,zzbk.2 bn,vp,Tr];simpa[aP,aW,Qp,Qa]using this
 have bU:ow b ids=true:=by simp[ow,h1]
 have:=hK rv li pm ex exl hB;rw[bU,if_pos rfl]at this;simp[Tr];simpa[aP,aW,Qp,Qa,nR,bU]using this
open Go Go.Abs
def Uh(p:Pl):Pi:=p.ens.map fun e=>e.id
def IC(p:Pl):Bd:=⟨p,0,[],[],[],[],[]⟩
def IE(l:List Sp):AV:=if l=[]then .sl .nil []else .sl .ro (l.map Qe)
def Q2(p:Pl):AV:=if rE p=false then .aS [.sl .nil [],.sl .nil [],I 80]else match Jl p (Uh p) [] [] 0 (-1)with
 |some l=>.aS [IE l,.sl .nil [],I 0]
 |none=>.aS [.sl .nil [],.sl .ro ((nR (IC p) (Uh p)).map Xa),I 90]
def mD(p:Pl):UV:=fun _ f _=>if f=999999 then .junk else if f=95 then .bool (rE p)else .gd false .junk
def asQ(p:Pl)(f:Nat->AV)(m:AM):Prop:=∃(i:Nat)(rt:Rt)(ls:Pa)(bx:T5),f 17=I i/\i<=p.ens.length/\f 5=.sl rt ((Uh p).take i |>.map Xa)/\Dn 1 0 ls rt ((Uh p).take i)/\m=⟨Qa p::bx,ls,fun _=>.gone,0⟩
def pU:∀(l:List It)(a:List (Int×It))(s:List (Int×Int)),(z6 l a s).length<=s.length+l.length
 |[],a,s=>by simp[z6]
 |x::r,a,s=>by
  rw[z6];cases af x.id a with
  |some _=>
   have:=pU r a s;simp only[zzbd];omega
  |none=>
   have h:=pU r (Vm x.id x a) (if 1<=x.sp/\x.sp<=200 then Vm x.sp x.id s else s)
   have h2:(if 1<=x.sp/\x.sp<=200 then Vm x.sp x.id s else s).length<=s.length+1:=by
    split
    ·exact Gt _ _ _
    omega
   simp only[zzbd];omega
def aml(p:Pl):Bp (IC p):=⟨fun _ _ h=>(by cases h),fun _ _ h=>(by cases h),fun _ _ h=>(by cases h)⟩
def Q3(p:Pl)(hs:PlS p)(hc:p.cls.length<=1000000)(Iv:p.ens.length<=10000000)(dG:p.ln<=9223372036854775807)(Sv:∀e∈p.ens,e.ea<=9223372036854775807):Pure Tryz.prog aD 65 [.agg (Qa p)] (Q2 p):=by
 have Sw:=Wv p hs;obtain⟨l1,l2,l3,l4,l5,l6⟩:=hs
 have FT:(Ub p).length<=1000000000:=by
  have:=pU p.aN [] [];simp only[Ub]at*
  simp at this;omega
 refine Qo aj6 (mD p) zd ?_;cases hv:rE p with
 |false=>
  rw[hv]at Sw;have:Q2 p=.aS [.sl .nil [],.sl .nil [],I 80]:=by rw[Q2,if_pos hv]
  rw[this];simp[aj5,S5,Qa,mD,hv];simpa[Qa]using Sw
 |true=>
  rw[hv]at Sw;simp[aj5,Qa,mD,hv];refine⟨by simpa[Qa]using Sw,?_⟩;refine Qk Ms (asQ p) (fun f _=>p.ens.length-(numOf (f 17)).toNat) ?_ ?_
  ·exact⟨0,.nil,[],[],zd,zE,zd,.inl ⟨zd,rfl⟩,by simp[Qa]⟩
  rintro f m ⟨i,rt,ls,bx,h17,hi,h5,hO,rfl⟩;rcases zzaa i p.ens.length with ai|bn
  ·obtain⟨e,he⟩:=aV ai;have ah:=Qdg he;have aa:(i:Int)<(p.ens.length:Int):=zE
   have hw:=bO i zE;have bA:(Uh p).take (i+1)=(Uh p).take i++[e.id]:=by rw[zzax];simp[Uh,he]
   have lZ:((Uh p).take i).length=i:=by simp[Uh];omega
   obtain⟨S,hS⟩:∃S,(Uh p).take i=S:=⟨_,rfl⟩;rw[hS]at h5 hO bA lZ;obtain⟨rfl,rfl⟩|⟨k,rfl,dD,ee,Bh⟩:=hO
   ·simp[h17,h5,ai,aa,ah,Qd,Qa,mD,Ms,hw];refine⟨aQ,⟨i+1,.own ls.length 1,ls++[1],bx++[Qd e],zd,zE,by rw[bA];simp[Xa],.inr ⟨_,rfl,zE,by rw[bA];simp,by rw[bA];simp⟩,by simp[Qa,Qd]⟩,zE⟩
   have NT:=(zza.1 ee).1;simp[h17,h5,ai,aa,ah,Qd,Qa,mD,Ms,hw,ee];refine⟨⟨?_,zE⟩,aQ,⟨i+1,.own k 1,ls.set k (S.length+1),bx++[Qd e],zd,zE,by rw[bA];simp[Xa],.inr ⟨_,rfl,zE,by rw[bA];simp[NT],by rw[bA];simp⟩,by simp[Qa,Qd]⟩,zE⟩
   ·rintro row (⟨a,_,rfl⟩|rfl)<;>rfl
  have bQ:¬(i:Int)<(p.ens.length:Int):=zE
  have lZ:(Uh p).take i=Uh p:=zzau (by simp[Uh];omega);rw[lZ]at h5 hO;have aL:(Uh p).length<=10000000:=by simp[Uh];omega
  have k41:=fun K'=>x8 (Qa p::bx) ls p 0 [] .nil zE l2 zd Y0 K';simp only[Qa,zzcv]at k41;simp[h17,h5,bQ,zzbk.2 bn,Ms,Qa,mD];refine k41 _ fun ex=>?_;clear k41
  have h85:∀m,Abs.Pure Tryz.prog aD 173 [bz m 6 (.sl rt ((Uh p).map Xa))] (.sl .ro ((Uh p).map Xa)):=fun m=>by
   have kc:=aeO (Uh p) zE;obtain⟨h1,rfl⟩|⟨k,rfl,_⟩:=hO
   ·exact Xp kc ⟨Wk.sl _ _,trivial⟩
   exact kc
  simp[mD];refine Qem (Qa p::bx) ex ls (IC p) (Uh p) rt 0 zE zE hc l1 l2 l3 FT dG Sv (by simp[IC]) (fun _ _ h=>(by cases h)) (fun _ _ h=>(by cases h)) (aml p) Y0 _ (fun h0 rv li pm gH exl hB=>?_) (fun l h1 rv li pm gH exl Sb hB Ge=>?_)
  ·have h0:Jl p (Uh p) [] [] 0 (-1)=none:=h0;have hr:Q2 p=.aS [.sl .nil [],.sl .ro ((nR (IC p) (Uh p)).map Xa),I 90]:=by rw[Q2,if_neg (by simp[hv]),h0]
   have bU:ow (IC p) (Uh p)=false:=by show(Jl p (Uh p) [] [] 0 (-1)).isSome=false;rw[h0];rfl
   rw[hr];simp[mD];refine K8 (Qa p::bx) (ex++gH) (ls++exl) {IC p with rv:=rv,li:=li,pm:=pm} (Uh p) rt h85 0 zE zE hc l1 l2 l3 FT dG Sv (by simp[IC]) (fun _ _ h=>(by cases h)) (fun _ _ h=>(by cases h)) hB Y0 _ (fun Ec li3 pm3 Dr ei Sj=>?_);have axu:ow {IC p with rv:=rv,li:=li,pm:=pm} (Uh p)=false:=bU;have fC:nR {IC p with rv:=rv,li:=li,pm:=pm} (Uh p)=nR (IC p) (Uh p):=rfl;rw[axu,fC,if_neg zd];simp[S5]
  have h1:Jl p (Uh p) [] [] 0 (-1)=some l:=h1;have hr:Q2 p=.aS [IE l,.sl .nil [],I 0]:=by rw[Q2,if_neg (by simp[hv]),h1]
  rw[hr];obtain⟨rfl,rfl⟩|⟨k2,rfl,_,_,aO⟩:=Ge
  ·simp[mD,S5,IE]
  simp[mD,S5,IE,aO]
