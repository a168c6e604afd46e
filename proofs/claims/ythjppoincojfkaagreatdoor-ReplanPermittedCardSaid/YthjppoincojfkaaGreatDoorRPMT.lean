import Derived.Test.YthjppoincojfkaaGreatDoorRPMS
set_option linter.all false
set_option maxRecDepth 100000
set_option maxHeartbeats 64000000
namespace Go.Proofs.YthjppoincojfkaaGreatDoor
open Go Go.Abs
def Gw{l:Pa}{n:Nat}(h:l.Nodup)(hb:∀i∈l,i<n):l.length<=n:=by
 have hp:l.Perm ((List.range n).filter fun i=>decide (i∈l)):=by
  rw[zzgh h (zzdf.filter _)];intro i;simp only[zzbw,zzaw,decide_eq_true_eq];exact⟨fun hi=>⟨hb i hi,hi⟩,fun hi=>hi.2⟩
 rw[hp.length_eq];refine zzbd (zzce _ _) ?_;simp
def Oe(id:Nat)(m:AM):Nat:=match Qh m.boxes id with
 |[.mitr _ _ s]=>s.length
 |_=>0
def aeY{α:Type}{row:α->AV}{L:List (Int×α)}{i:Nat}{k:Pi}{c:AV}(h:(bG row L)[i]?=some (k,c)):∃o x,L[i]?=some (o,x)/\k=[o]/\c=row x/\(bG row L).getD i ([],.junk)=([o],row x)/\i<L.length:=by
 have hg:(bG row L).getD i ([],.junk)=(k,c):=by rw[zzax,h];rfl
 rw[bG,zzbm]at h;cases hL:L[i]? with
 |none=>rw[hL]at h;cases h
 |some y=>
  rw[hL]at h;cases h;exact⟨y.1,y.2,rfl,rfl,rfl,hg,(zza.1 hL).1⟩
def K7(p:Pl)(it:Int)(L:List (Int×Int))(o x:Int):xJ p it (L++[(o,x)])=if 0<Ki p x it then xJ p it L++[(o,Ki p x it)]else xJ p it L:=by
 unfold xJ;rw[List.filterMap_append];by_cases h:0<Ki p x it
 ·rw[if_pos h];simp[h]
 rw[if_neg h];simp[h]
def Gx{m:AM}{K:So}{id mid n kn:Nat}{seen:Pa}{kvs:List (Pi×AV)}(h1:Qh m.boxes id=[.mitr mid n seen])(h2:Qh m.boxes mid=[.aJ kn kvs])(h:kvs.length=n)
  (hs:∀i k c,kvs[i]?=some (k,c)->i ∉ seen->K (.aS [.bool true,keyAV kn k,c]) {m with boxes:=m.boxes.set id [.mitr mid n (seen++[i])]})(he:(∀i,i<n->i∈seen)->K (.aS [.bool false]) m):vcNxt m K (.it id):=by
 simp only[vcNxt,Yb,h1,h2];exact⟨h,hs,he⟩
def Of(p:Pl)(it:Int):UV:=fun _ f l=>if f=227 then(match l with|[_,.int _ x,_]=>I (Ki p x it)|_=>.junk)else .junk
def as2(pre:T5)(b:Bd)(post:T5)(ls:Pa)(it:Int)(f:Nat->AV)(m:AM):Prop:=∃(seen:Pa)(l:List Sp)(rt:Rt)(exl:Pa),
 seen.Nodup/\(∀i∈seen,i<(Yy b.p).length)/\l=xJ b.p it (atL (0,0) (Yy b.p) seen)/\f 8=.sl rt (l.map Qf)/\(l=[]/\rt=.nil/\exl=[]\/l≠[]/\rt=.own ls.length 2/\exl=[l.length])/\
 m=aP pre b (post++[[.mitr (pre.length+3) (Yy b.p).length seen]]) (ls++exl)
def Gy(pre post:T5)(ls:Pa)(b:Bd)(it:Int)(hc:b.p.cls.length<=1000000000)(cM:b.p.aM.length<=1000000000)(FY:(Yy b.p).length<=1000000000)(IL:aeM b)(Y:YT)(K:So)
  (hK:∀(rv:List (Int×(Rt×List Sp)))(ex:T5)(exl:Pa)(rt:Rt)(l:List Sp),aeM {b with rv:=rv}->l.Perm (Km b.p it)->K (.sl rt (l.map Qf)) (aP pre {b with rv:=rv} (post++ex) (ls++exl))):
  aB Tryz.prog aD Y 171 [.ptr (pre.length+9) 0,I it] (aP pre b post ls) K:=by
 have nil:Km b.p it=[]->K (.sl .nil []) (aP pre b post ls):=fun h=>by
  have:=hK b.rv [] [] .nil [] IL (by rw[h]);simpa using this
 refine Xn acO (Of b.p it) zd ?_
 have axN:∃r,Xk [it] (bG rA (zR b.p)) 0=r/\((∃n y,Xj it b.p.aM=some y/\r=some (n,rA y))\/(Xj it b.p.aM=none/\r=none)):=by
  rcases Xw rA it (zR b.p) 0 with⟨h1,h2,_,_⟩|⟨u,n,h1,h2,_⟩
  ·rw[uH]at h1;exact⟨_,rfl,.inr ⟨h1,h2⟩⟩
  rw[uH]at h1;exact⟨_,rfl,.inl ⟨_,u,h1,h2⟩⟩
 obtain⟨r,hr,QL⟩:=axN;obtain⟨n,y,hf,rfl⟩|⟨hf,rfl⟩:=QL
 ·rcases Xw iA y.sp (Yy b.p) 0 with⟨s1,s2,_,_⟩|⟨su,sn,s1,s2,_⟩
  ·simp[Am,Ez,aP,aW,Qo,Qa,hr,rA,Qj,s2];exact nil (by simp[Km,hf,s1])
  have hrl:Km b.p it=xJ b.p it (Yy b.p):=by simp[Km,hf,s1,xJ]
  rcases Xw rvA y.sp b.rv 0 with⟨m1,m2,_,m4⟩|⟨mu,mn,m1,m2,_⟩
  ·simp[Am,aP,aW,Qo,Qa,hr,rA,Qj,s2,m2];refine Qi vo (as2 pre b post ls it) (fun _ m=>(Yy b.p).length-Oe (pre.length+(post.length+10)) m) ?_ ?_
   ·exact⟨[],[],.nil,[],List.nodup_nil,zd,rfl,zd,.inl ⟨rfl,rfl,rfl⟩,by simp[aP,aW,Qo,Qa]⟩
   rintro f m ⟨seen,l,rt,exl,hn,hb,hl,h8,aX,rfl⟩;have iB:seen.length<=(Yy b.p).length:=Gw hn hb;simp[-vcNxt,aP,aW,Qo,Qa,vo];refine Gx (mid:=pre.length+3) (n:=(Yy b.p).length) (kn:=0) (seen:=seen) (kvs:=bG iA (Yy b.p)) ?_ ?_ ?_ (fun i k c hi Sk=>?_) fun bD=>?_
   ·simp
   ·simp
   ·simp
   ·obtain⟨o,x,hx,rfl,rfl,JM,ai⟩:=aeY hi
    have bq:(bG iA (Yy b.p))[i]'(Nm ai)=([o],iA x):=by
     have:=zza.1 hi;exact this.2
    have amy:=amv b.p x it hc cM;have qt:(seen++[i]).Nodup:=List.nodup_append.2 ⟨hn,zd,fun a ha c hc=>by simp at hc;subst hc;rintro rfl;exact Sk ha⟩
    have cL:∀j∈seen++[i],j<(Yy b.p).length:=fun j hj=>by
     rcases zzam.1 hj with h|h
     ·exact hb j h
     simp at h;subst h;exact ai
    have cn:seen.length+1<=(Yy b.p).length:=by simpa using Gw qt cL
    have hxo:(Yy b.p).getD i (0,0)=(o,x):=by rw[zzax,hx];rfl
    have Iu:atL (0,0) (Yy b.p) (seen++[i])=atL (0,0) (Yy b.p) seen++[(o,x)]:=by
     simp only[atL,zzci,zzbb,zzcs,hxo]
    have E7:=K7 b.p it (atL (0,0) (Yy b.p) seen) o x;rw[<- Iu,<- hl]at E7;by_cases hg:0<Ki b.p x it
    ·rw[if_pos hg]at E7
     have Ee:l.length<=(Yy b.p).length:=by
      rw[hl];refine zzbd (zzgs _ _) ?_;simp only[atL,zzbv];exact iB
     obtain⟨rfl,rfl,rfl⟩|⟨qs,rfl,rfl⟩:=aX
     ·simp[keyAV,hi,bq,ai,Of,hg,h8,vo,Oe];refine⟨by simpa[Qa]using amy,aQ,⟨seen++[i],_,_,[1],qt,cL,rfl,by simp[E7,Qf],.inr ⟨by simp[E7],rfl,by simp[E7]⟩,by simp[aP,aW,Qo,Qa]⟩,zE⟩
     simp[keyAV,hi,bq,ai,Of,hg,h8,vo,Oe];refine⟨by simpa[Qa]using amy,⟨?_,zE⟩,aQ,⟨seen++[i],_,_,[l.length+1],qt,cL,rfl,by simp[E7,Qf],.inr ⟨by simp[E7],rfl,by simp[E7]⟩,by simp[aP,aW,Qo,Qa]⟩,zE⟩
     ·rintro row (⟨a,b,_,rfl⟩|rfl)<;>rfl
    rw[if_neg hg]at E7;simp[keyAV,hi,bq,ai,Of,hg,h8,vo,Oe];refine⟨by simpa[Qa]using amy,aQ,⟨seen++[i],l,rt,exl,qt,cL,E7.symm,by simp[h8],aX,by simp[aP,aW,Qo,Qa]⟩,zE⟩
   have hpm:l.Perm (Km b.p it):=by
    rw[hl,hrl];exact(aeN _ _ _ hn bD hb).filterMap _
   have axO:aeM {b with rv:=Vf y.sp (rt,l) b.rv}:=fun k x h it' y' hf' cV=>by
    rw[Uk]at h;split at h
    ·rename_i e;cases h;rw[aeP hf' hf (by rw[cV,e])];exact hpm
    exact IL k x h it' y' hf' cV
   have:=hK _ [[.mitr (pre.length+3) (Yy b.p).length seen]] exl rt l axO hpm;have m4':bG rvA b.rv++[([y.sp],.sl rt (l.map Qf))]=bG rvA (Vf y.sp (rt,l) b.rv):=m4 (rt,l);simp[h8,m2,Ez];rw[m4'];simpa[aP,aW,Qo,Qa]using this
  simp[Am,Ez,aP,aW,Qo,Qa,hr,rA,Qj,s2,m2,rvA];have:=hK b.rv [] [] mu.1 mu.2 IL (IL _ _ m1 it y hf rfl);simpa[aP,aW,Qo,Qa]using this
 have s2:Xk [0] (bG iA (Yy b.p)) 0=none:=by
  rcases Xw iA 0 (Yy b.p) 0 with⟨_,s2,_,_⟩|⟨su,sn,s1,_⟩
  ·exact s2
  rw[Yy,xK _ _ _ rfl]at s1;cases s1
 simp[Am,Ez,aP,aW,Qo,Qa,hr,s2];exact nil (by simp[Km,hf])
open Go Go.Abs
def zS(pre:T5)(p:Pl)(at_:Int)(pl:List (Int×Int))(im:List (Int×It))(sp:List (Int×Int))(post:T5)(ls:Pa):AM:=
 ⟨pre++(Qa p::[.aJ 0 (bG iA pl)]::[.aJ 0 (bG rA im)]::[.aJ 0 (bG iA sp)]::[.aJ 0 []]::[.aJ 0 []]::[.aJ 0 []]::[.aJ 0 []]::[.aJ 2 []]::Qo pre.length ⟨p,at_,[],[],[],[],[]⟩::post),ls,fun _=>.gone,0⟩
def axP(pre:T5)(p:Pl)(at_:Int)(ls:Pa)(f:Nat->AV)(m:AM):Prop:=∃(i:Nat)(pl:List (Int×Int))(post:T5),f 36=I i/\i<=p.ens.length/\Gm (p.ens.drop i) i pl=De p/\m=zS pre p at_ pl [] [] post ls
def axQ(pre:T5)(p:Pl)(at_:Int)(ls:Pa)(f:Nat->AV)(m:AM):Prop:=∃(i:Nat)(im:List (Int×It))(sp:List (Int×Int))(post:T5),f 67=I i/\i<=p.aM.length/\KY (p.aM.drop i) im=zR p/\zQ (p.aM.drop i) im sp=Yy p/\m=zS pre p at_ (De p) im sp post ls
def axR(pre:T5)(p:Pl)(at_:Int)(past:List Ad)(ls:Pa)(f:Nat->AV)(m:AM):Prop:=∃(i:Nat)(us en:List (Int×Int))(post:T5),f 108=I i/\i<=past.length/\pT i us/\N5 (past.drop i) us=N5 past []/\N6 p (past.drop i) en=N6 p past []/\m=aP pre ⟨p,at_,us,en,[],[],[]⟩ post ls
def IM:UV:=fun _ f _=>if f=999999 then .junk else .gd false .junk
def xM(pre:T5)(ls:Pa)(p:Pl)(at_:Int)(past:List Ad)(rtp:Rt)(IF:p.ens.length<=1000000000)(cM:p.aM.length<=1000000000)(ku:past.length<=1000000000)(Y:YT)(K:So)
  (hK:∀ex,K (.ptr (pre.length+9) 0) (aP pre ⟨p,at_,N5 past [],N6 p past [],[],[],[]⟩ ex ls)):
  aB Tryz.prog aD Y 113 [.agg (Qa p),I at_,.sl rtp (past.map Vi)] ⟨pre,ls,fun _=>.gone,0⟩ K:=by
 refine Xn ab0 IM zd ?_;simp[Ep,Qa,IM];refine Qi BW (axP pre p at_ ls) (fun f _=>p.ens.length-(numOf (f 36)).toNat) ?_ ?_
 ·exact⟨0,[],[],zd,zE,rfl,by simp[zS,Qo,Qa]⟩
 rintro f m ⟨i,pl,post,h36,hi,sg,rfl⟩;rcases zzaa i p.ens.length with ai|bq
 ·obtain⟨e,he⟩:=aV ai;have ah:=Qdj he;have aa:(i:Int)<(p.ens.length:Int):=zE
  have hw:=bP i zE;rw[Za he,Gm]at sg;rcases Xw iA e.id pl 0 with⟨h1,h2,_,h4⟩|⟨u,n,h1,h2,_⟩
  ·rw[h1]at sg;have SE:bG iA pl++[([e.id],I i)]=bG iA (Vf e.id (i:Int) pl):=h4 _;simp[h36,ai,aa,ah,Qd,zS,Qo,Qa,h2,BW,hw];refine⟨aQ,⟨i+1,_,post++[Qd e],zd,zE,sg,?_⟩,zE⟩
   ·rw[SE];simp[zS,Qo,Qa,Qd]
  rw[h1]at sg;simp[h36,ai,aa,ah,Qd,zS,Qo,Qa,h2,BW,hw];refine⟨aQ,⟨i+1,pl,post++[Qd e],zd,zE,sg,by simp[zS,Qo,Qa,Qd]⟩,zE⟩
 have bO:¬(i:Int)<(p.ens.length:Int):=zE
 rw[zzal bq,Gm]at sg;subst sg;simp[h36,bO,zzbk.2 bq,BW,zS,Qo,Qa,IM];refine Qi iF (axQ pre p at_ ls) (fun f _=>p.aM.length-(numOf (f 67)).toNat) ?_ ?_
 ·exact⟨0,[],[],post,zd,zE,rfl,rfl,by simp[zS,Qo,Qa]⟩
 clear bq bO hi h36;rintro g m ⟨i,im,sp,post,h67,hi,QX,cV,rfl⟩;rcases zzaa i p.aM.length with ai|bq
 ·obtain⟨x,hx⟩:=aV ai;have ah:Qh (p.aM.map Qj) i=Qj x:=Qu (by simp[hx]);have aa:(i:Int)<(p.aM.length:Int):=zE
  have hw:=bP i zE;rw[Za hx,KY]at QX;rw[Za hx,zQ]at cV;simp[h67,ai,aa,ah,Qj,zS,Qo,Qa,iF,hw,IM];refine Um ?_;rcases Xw rA x.id im 0 with⟨h1,h2,_,h4⟩|⟨u,n,h1,h2,_⟩
  ·rw[h1]at QX cV;have SE:bG rA im++[([x.id],.agg [I x.id,I x.ki,I x.fr,I x.sp,I x.ra])]=bG rA (Vf x.id x im):=h4 x;simp only at QX cV;by_cases s1:1<=x.sp
   ·by_cases s2:x.sp<=200
    ·rw[if_pos ⟨s1,s2⟩]at cV;rcases Xw iA x.sp sp 0 with⟨_,q2,_,q4⟩|⟨u,n,_,q2,_,_,_,q4⟩
     ·have q4':bG iA sp++[([x.sp],I x.id)]=bG iA (Vf x.sp x.id sp):=q4 _;simp[h67,ai,aa,ah,Qj,zS,Qo,Qa,iF,hw,IM,h2,s1,s2,q2];refine⟨aQ,⟨i+1,Vf x.id x im,Vf x.sp x.id sp,post++[Qj x,[I 0,I 0,I 0,I 0,I 0]],zd,zE,QX,cV,?_⟩,zE⟩
      ·rw[SE,q4'];simp[zS,Qo,Qa,Qj]
     have q4':(bG iA sp).set n ([x.sp],I x.id)=bG iA (Vf x.sp x.id sp):=q4 _;rw[zzbs]at q2;simp[h67,ai,aa,ah,Qj,zS,Qo,Qa,iF,hw,IM,h2,s1,s2,q2];refine⟨aQ,⟨i+1,Vf x.id x im,Vf x.sp x.id sp,post++[Qj x,[I 0,I 0,I 0,I 0,I 0]],zd,zE,QX,cV,?_⟩,zE⟩
     ·rw[SE,q4'];simp[zS,Qo,Qa,Qj]
    rw[if_neg (fun h=>s2 h.2)]at cV;simp[h67,ai,aa,ah,Qj,zS,Qo,Qa,iF,hw,IM,h2,s1,s2];refine⟨aQ,⟨i+1,Vf x.id x im,sp,post++[Qj x,[I 0,I 0,I 0,I 0,I 0]],zd,zE,QX,cV,?_⟩,zE⟩
    ·rw[SE];simp[zS,Qo,Qa,Qj]
   rw[if_neg (fun h=>s1 h.1)]at cV;simp[h67,ai,aa,ah,Qj,zS,Qo,Qa,iF,hw,IM,h2,s1];refine⟨aQ,⟨i+1,Vf x.id x im,sp,post++[Qj x,[I 0,I 0,I 0,I 0,I 0]],zd,zE,QX,cV,?_⟩,zE⟩
   ·rw[SE];simp[zS,Qo,Qa,Qj]
  rw[h1]at QX cV;simp[h67,ai,aa,ah,Qj,zS,Qo,Qa,iF,hw,IM,h2,rA];refine⟨aQ,⟨i+1,im,sp,post++[Qj x,Qj u],zd,zE,QX,cV,by simp[zS,Qo,Qa,Qj]⟩,zE⟩
 have bO:¬(i:Int)<(p.aM.length:Int):=zE
 rw[zzal bq]at QX cV;have QX:im=zR p:=QX;have cV:sp=Yy p:=cV;subst QX;subst cV;simp[h67,bO,zzbk.2 bq,iF,zS,Qo,Qa,IM];refine Qi fU (axR pre p at_ past ls) (fun f _=>past.length-(numOf (f 108)).toNat) ?_ ?_
 ·exact⟨0,[],[],post,zd,zE,fun k v h=>(by cases h),rfl,rfl,by simp[aP,aW,Qo,Qa,SD]⟩
 clear bq bO hi h67;rintro h m ⟨i,us,en,post,h108,hi,hus,hu,he,rfl⟩;rcases zzaa i past.length with ai|bq
 ·obtain⟨a,ha⟩:=aV ai;have ah:Qh (past.map Vi) i=Vi a:=Qu (by simp[ha]);have aa:(i:Int)<(past.length:Int):=zE
  have hw:=bP i zE;rw[Za ha,N5]at hu;rw[Za ha,N6]at he;have YL:pT (i+1:Nat) us:=fun k v h=>by have:=hus k v h;omega
  have skip:rz a=false->N5 (past.drop (i+1)) us=N5 past []/\N6 p (past.drop (i+1)) en=N6 p past []:=fun h=>by
   rw[h]at hu he;exact⟨hu,he⟩
  by_cases c1:a.re=0
  ·by_cases c2:0<=a.fr
   ·by_cases c3:a.fr<=100000000
    ·by_cases c4:1<=a.fs
     ·by_cases c5:a.fs<=100000000
      ·have hc:rz a=true:=by simp[rz];omega
       rw[hc]at hu he;simp only[if_true]at hu he;have hwa:IntKind.i64.wrap (a.fr+a.fs)=a.fr+a.fs:=by rw[Ql]<;>omega
       simp[h108,ai,aa,ah,Vi,aP,aW,Qo,Qa,fU,hw,IM,c1,c2,c3,c4,c5,hwa];have kn:=aeX pre (post++[Vi a]) ls ⟨p,at_,us,en,[],[],[]⟩ us en a.it (a.fr+a.fs) (fun k v h=>by have:=hus k v h;omega) Y;simp only[aP,aW,Qo,Qa,Vi,c1]at kn;refine kn _ fun ex=>?_;simp[h108,fU,hw];refine⟨aQ,⟨i+1,Vv us a.it,Zn p en a.it (a.fr+a.fs),post++[[I a.it,I 0,I a.fr,I a.fs]]++ex,zd,zE,?_,hu,he,by simp[aP,aW,Qo,Qa]⟩,zE⟩
       ·have:=hus.note zE a.it;exact this
      obtain⟨hu,he⟩:=skip (by simp[rz];omega);simp[h108,ai,aa,ah,Vi,aP,aW,Qo,Qa,fU,hw,IM,c1,c2,c3,c4,c5];refine⟨aQ,⟨i+1,us,en,post++[[I a.it,I 0,I a.fr,I a.fs]],zd,zE,YL,hu,he,by simp[aP,aW,Qo,Qa]⟩,zE⟩
     obtain⟨hu,he⟩:=skip (by simp[rz];omega);simp[h108,ai,aa,ah,Vi,aP,aW,Qo,Qa,fU,hw,IM,c1,c2,c3,c4];refine⟨aQ,⟨i+1,us,en,post++[[I a.it,I 0,I a.fr,I a.fs]],zd,zE,YL,hu,he,by simp[aP,aW,Qo,Qa]⟩,zE⟩
    obtain⟨hu,he⟩:=skip (by simp[rz];omega);simp[h108,ai,aa,ah,Vi,aP,aW,Qo,Qa,fU,hw,IM,c1,c2,c3];refine⟨aQ,⟨i+1,us,en,post++[[I a.it,I 0,I a.fr,I a.fs]],zd,zE,YL,hu,he,by simp[aP,aW,Qo,Qa]⟩,zE⟩
   obtain⟨hu,he⟩:=skip (by simp[rz];omega);simp[h108,ai,aa,ah,Vi,aP,aW,Qo,Qa,fU,hw,IM,c1,c2];refine⟨aQ,⟨i+1,us,en,post++[[I a.it,I 0,I a.fr,I a.fs]],zd,zE,YL,hu,he,by simp[aP,aW,Qo,Qa]⟩,zE⟩
  obtain⟨hu,he⟩:=skip (by simp[rz,c1]);simp[h108,ai,aa,ah,Vi,aP,aW,Qo,Qa,fU,hw,IM,c1];refine⟨aQ,⟨i+1,us,en,post++[[I a.it,I a.re,I a.fr,I a.fs]],zd,zE,YL,hu,he,by simp[aP,aW,Qo,Qa]⟩,zE⟩
 have bO:¬(i:Int)<(past.length:Int):=zE
 rw[zzal bq]at hu he;have hu:us=N5 past []:=hu;have he:en=N6 p past []:=he;subst hu;subst he;simp[h108,bO,zzbk.2 bq,fU,agG];simpa[aP,aW,Qo,Qa,SD]using hK post
open Go Go.Abs
def Bg(b:Bd):Prop:=amw b/\aeM b/\K4 b
def Dh{α:Type}(sz:Nat)(lo:Nat)(ls:Pa)(rt:Rt)(l:List α):Prop:=(l=[]/\rt=.nil)\/∃k,rt=.own k sz/\lo<=k/\ls[k]?=some l.length/\l≠[]
def Dh.app{α:Type}{sz lo:Nat}{ls exl:Pa}{rt:Rt}{l:List α}(h:Dh sz lo ls rt l):Dh sz lo (ls++exl) rt l:=by
 obtain h|⟨k,h1,h2,h3,h4⟩:=h
 ·exact .inl h
 exact .inr ⟨k,h1,h2,by rw[zzaj (zza.1 h3).1];exact h3,h4⟩
def aeZ(p:Pl)(a b:Int):0<=Ki p a b/\Ki p a b<=6000000000:=by
 unfold Ki;cases Xj a p.aM with
 |none=>simp
 |some x=>
  cases Xj b p.aM with
  |none=>simp
  |some y=>
   simp only;split
   ·omega
   rename_i h;simp only[not_or]at h;have hv:Vd p.nu p.de=true:=by simpa using h.2.1
   obtain⟨v1,v2,v3,v4,v5⟩:=Ju hv;have hg:=N8 x.sp y.sp p.cls 0 zE;generalize pR x.sp y.sp p.cls 0=g at hg;rw[xk,if_pos ⟨hv,zE,zE⟩];have hp:=Di hg ⟨(by omega:0<=p.nu),v2⟩;have:=Dj (x:=g*p.nu+p.de-1) (y:=p.de) zE zE;omega
def uK{p:Pl}{it:Int}:∀r∈Km p it,0<=r.2/\r.2<=6000000000:=fun r hr=>by
 unfold Km at hr;cases hf:Xj it p.aM with
 |none=>rw[hf]at hr;cases hr
 |some y=>
  rw[hf]at hr;simp only at hr;cases ha:af y.sp (Yy p)with
  |none=>rw[ha]at hr;cases hr
  |some _=>
   rw[ha]at hr;simp only[zzff]at hr;obtain⟨x,_,hx⟩:=hr;split at hx
   ·cases hx;exact aeZ p _ _
   cases hx
def Gz(p:Pl)(it:Int):(Km p it).length<=(Yy p).length:=by
 unfold Km;cases Xj it p.aM with
 |none=>simp
 |some y=>
  simp only;cases af y.sp (Yy p)with
  |none=>simp
  |some _=>exact zzgs _ _
def tV(en:List (Int×Int)):Prop:=∀k v,af k en=some v->0<=v/\v<=1000000000
def tV.note{p:Pl}{en:List (Int×Int)}(h:tV en)(it e:Int)(he:0<=e/\e<=1000000000):tV (Zn p en it e):=fun k v hk=>by
 unfold Zn at hk;cases hf:Xj it p.aM with
 |none=>rw[hf]at hk;exact h k v hk
 |some x=>
  rw[hf]at hk;simp only[Uk]at hk;split at hk
  ·cases hk;cases ha:af x.sp en with
   |none=>simp;omega
   |some u=>have:=h _ u ha;simp;omega
  exact h k v hk
def xN{en:List (Int×Int)}(h:tV en):∀{l:List Sp}{f M:Int},(∀r∈l,0<=r.2/\r.2<=6000000000)->f<=M->7000000000<=M->Ub en l f<=M
 |[],f,M,_,h1,_=>h1
 |r::l,f,M,hl,h1,h2=>by
  rw[Ub];refine xN h (fun x hx=>hl x (by simp[hx])) ?_ h2;have:=hl r zd;cases ha:af r.1 en with
  |none=>exact h1
  |some e=>have:=h _ e ha;simp only;omega
def YM(l:List Sp):Option (List Sp)->Option (List Sp)
 |none=>none
 |some r=>some (l++r)
def amz(pre post:T5)(ls:Pa)(b:Bd)(ids:Pi)(N:Int)(T:Option (List Sp))(f:Nat->AV)(m:AM):Prop:=
 ∃(i:Nat)(us en:List (Int×Int))(free last:Int)(l:List Sp)(rt:Rt)(rv:List (Int×(Rt×List Sp)))(li:List (Int×Int))(pm:List ((Int×Int)×List Sp))(bx:T5)(exl:Pa),
  f 39=I i/\i<=ids.length/\f 8=I free/\f 9=I last/\f 10=.sl rt (l.map Qf)/\l.length=i/\(-1<=last/\last<=1000000000)/\free<=9223372036854775807/\pT (N+i) us/\tV en/\Dh 2 ls.length (ls++exl) rt l/\Bg {b with rv:=rv,li:=li,pm:=pm}/\
  YM l (Uu b.p (ids.drop i) us en free last)=T/\m=aP pre {b with rv:=rv,li:=li,pm:=pm} (post++([.aJ 0 (bG iA us)]::[.aJ 0 (bG iA en)]::bx)) (ls++exl)
def ai9(pre post bx0:T5)(e:En)(ls:Pa)(b:Bd)(us en:List (Int×Int))(L:List Sp)(T:Int)(f:Nat->AV)(m:AM):Prop:=
 ∃(j:Nat)(fr:Int)(bx:T5),f 90=I j/\j<=L.length/\f 17=I fr/\Ub en (L.drop j) fr=T/\m=aP pre b (post++([.aJ 0 (bG iA us)]::[.aJ 0 (bG iA en)]::(bx0++(Qd e::bx)))) ls
def IN:UV:=fun _ f _=>if f=999999 then .junk else .gd false .junk
def Qej(pre post:T5)(ls:Pa)(b:Bd)(ids:Pi)(rt0:Rt)(N:Int)(hN:0<=N/\N<=100000000)(as3:ids.length<=100000000)
  (hc:b.p.cls.length<=1000000)(fA:b.p.sh.length<=1000000000)(cM:b.p.aM.length<=1000000000)(IF:b.p.ens.length<=1000000000)(FY:(Yy b.p).length<=1000000000)(dD:b.p.ln<=9223372036854775807)(SF:∀e∈b.p.ens,e.ea<=9223372036854775807)
  (Iu:b.at_<=9223372036854775807)(hus:pT N b.us)(ae0:tV b.en)(ei:Bg b)(Y:YT)(K:So)
  (ry:Uu b.p ids b.us b.en b.at_ (-1)=none->∀rv li pm ex exl,Bg {b with rv:=rv,li:=li,pm:=pm}->K (.aS [.sl .nil [],.bool false]) (aP pre {b with rv:=rv,li:=li,pm:=pm} (post++ex) (ls++exl)))
  (VG:∀l,Uu b.p ids b.us b.en b.at_ (-1)=some l->∀rv li pm ex exl rt,Bg {b with rv:=rv,li:=li,pm:=pm}->Dh 2 ls.length (ls++exl) rt l->K (.aS [.sl rt (l.map Qf),.bool true]) (aP pre {b with rv:=rv,li:=li,pm:=pm} (post++ex) (ls++exl))):
  aB Tryz.prog aD Y 114 [.ptr (pre.length+9) 0,.sl rt0 (ids.map Qy)] (aP pre b post ls) K:=by
 obtain⟨T,hT⟩:∃T,Uu b.p ids b.us b.en b.at_ (-1)=T:=⟨_,rfl⟩;rw[hT]at ry VG;refine Xn ab1 IN zd ?_;simp[Er,aP,aW,Qo,Qa];refine Qbm [(.mp (pre.length+(post.length+10)),aP pre b (post++[[.aJ 0 (bG iA b.us)]]) ls)] ?_;simp[Er,aP,aW,Qo,Qa,IN];refine⟨Og (kn:=0) (kvs:=bG iA b.us) zd ⟨zd,zd⟩,Og (kn:=0) (kvs:=bG iA b.en) zd ?_⟩;simp[IN];refine Qi mP (amz pre post ls b ids N T) (fun f _=>ids.length-(numOf (f 39)).toNat) ?_ ?_
 ·refine⟨0,b.us,b.en,b.at_,-1,[],.nil,b.rv,b.li,b.pm,[],[],zd,zE,zd,zd,zd,rfl,zE,Iu,Nm hus,ae0,.inl ⟨rfl,rfl⟩,ei,?_,by simp[aP,aW,Qo,Qa]⟩;rw[zzd,hT];cases T<;>rfl
 rintro f m ⟨i,us,en,free,last,l,rt,rv,li,pm,bx,exl,h39,hi,h8,h9,jq,Ee,hla,zx,hu,he,hO,hB,hg,rfl⟩;rcases zzaa i ids.length with ai|bq
 ·obtain⟨id,aL⟩:=aV ai;have ah:Qh (ids.map Qy) i=Qy id:=Qu (by simp[aL]);have aa:(i:Int)<(ids.length:Int):=zE
  have hw:=bP i zE;rw[Za aL,Uu]at hg;have no:T=none->∀rv li pm ex exl,Bg {b with rv:=rv,li:=li,pm:=pm}->K (.aS [.sl .nil [],.bool false]) (aP pre {b with rv:=rv,li:=li,pm:=pm} (post++ex) (ls++exl)):=ry;rcases Xw iA id (De b.p) 0 with⟨p1,p2,_⟩|⟨u,n,p1,p2,_⟩
  ·have p1:za id b.p.ens 0=none:=by
    rw[uG]at p1;cases hx:za id b.p.ens 0 with
    |none=>rfl
    |some k=>rw[hx]at p1;cases p1
   rw[p1]at hg;simp[h39,h8,h9,jq,ai,aa,ah,Qy,aP,aW,Qo,Qa,mP,p2,rY];have:=ry hg.symm rv li pm ([.aJ 0 (bG iA us)]::[.aJ 0 (bG iA en)]::bx) exl hB;simpa[aP,aW,Qo,Qa]using this
  obtain⟨k,pk,rfl⟩:∃k:Nat,za id b.p.ens 0=some k/\(k:Int)=u:=by
   rw[uG]at p1;cases hx:za id b.p.ens 0 with
   |none=>rw[hx]at p1;cases p1
   |some k=>rw[hx]at p1;cases p1;exact⟨k,rfl,rfl⟩
  rw[zzbs]at p2;rw[pk]at hg;simp only at hg;obtain⟨_,e,he1,he2,he3⟩:=kT pk;rw[zzer]at he1;have qv:=(zza.1 he1).1;have zD:(k:Int)<(b.p.ens.length:Int):=zE
  have xO:=Qdj he1;by_cases c1:(k:Int)<=last
  ·rw[if_pos c1]at hg;simp[h39,h8,h9,jq,ai,aa,ah,Qy,aP,aW,Qo,Qa,mP,p2,rY,c1];have:=ry hg.symm rv li pm ([.aJ 0 (bG iA us)]::[.aJ 0 (bG iA en)]::bx) exl hB;simpa[aP,aW,Qo,Qa]using this
  rw[if_neg c1,he1]at hg;simp only at hg;simp[h39,h8,h9,jq,ai,aa,ah,Qy,aP,aW,Qo,Qa,mP,p2,c1,qv,zD,xO,Qd,IN];have k82:=fun K'=>aeL pre (post++([.aJ 0 (bG iA us)]::[.aJ 0 (bG iA en)]::(bx++[Qd e]))) (ls++exl) {b with rv:=rv,li:=li,pm:=pm} e.it (by simp only;omega) cM hB.1 Y K';simp only[aP,aW,Qo,Qa,Qd]at k82;refine k82 _ fun sU YN=>?_;clear k82;have A4:Bg {b with rv:=rv,li:=sU,pm:=pm}:=⟨YN,hB.2.1,hB.2.2⟩;obtain⟨R,hR⟩:∃R,Wy b.p e.it=R:=⟨_,rfl⟩;rw[hR]at hg
  obtain⟨cu,sd,as4⟩:∃cu,(af e.it us).getD 0=cu/\((Xk [e.it] (bG iA us) 0=none/\cu=0)\/∃n,Xk [e.it] (bG iA us) 0=some (n,I cu)):=by
   rcases Xw iA e.it us 0 with⟨q1,q2,_⟩|⟨u,n,q1,q2,_⟩
   ·exact⟨0,by rw[q1];rfl,.inl ⟨q2,rfl⟩⟩
   exact⟨u,by rw[q1];rfl,.inr ⟨_,q2⟩⟩
  rw[sd]at hg;by_cases r2:R≠ -1/\R<=cu
  ·rw[if_pos r2]at hg;have:=ry hg.symm rv sU pm ([.aJ 0 (bG iA us)]::[.aJ 0 (bG iA en)]::(bx++[Qd e])) exl A4;obtain⟨r1,r2⟩:=r2;obtain⟨q2,rfl⟩|⟨n2,q2⟩:=as4
   ·simp[aP,aW,Qo,Qa,Qd,IN,q2,r1,r2,hR,rY];simpa[aP,aW,Qo,Qa,Qd]using this
   simp[aP,aW,Qo,Qa,Qd,IN,q2,r1,r2,hR,rY];simpa[aP,aW,Qo,Qa,Qd]using this
  rw[if_neg r2]at hg
  have r3:R= -1\/(R≠ -1/\¬R<=cu):=by
   by_cases h:R= -1
   ·exact .inl h
   exact .inr ⟨h,fun h'=>r2 ⟨h,h'⟩⟩
  clear r2;obtain r1|⟨r1,r2⟩:=r3
  ·have q2:True:=trivial;have r2:True:=trivial;simp[h39,h8,h9,jq,aP,aW,Qo,Qa,Qd,IN,q2,r1,r2,hR];have k83:=fun K'=>Gy pre (post++([.aJ 0 (bG iA us)]::[.aJ 0 (bG iA en)]::(bx++[Qd e]))) (ls++exl) {b with rv:=rv,li:=sU,pm:=pm} e.it (by simp only;omega) cM FY hB.2.1 Y K';simp only[aP,aW,Qo,Qa,Qd]at k83;refine k83 _ fun Eg Dk ek rt3 L YO xP=>?_;clear k83;have Su:Bg {b with rv:=Eg,li:=sU,pm:=pm}:=⟨YN,YO,hB.2.2⟩;have hLb:∀r∈L,0<=r.2/\r.2<=6000000000:=fun r hr=>uK r (xP.mem_iff.1 hr)
   have hLl:L.length<=1000000000:=by
    rw[xP.length_eq];have:=Gz b.p e.it;omega
   have hfp:=xI en xP (max e.ea free);obtain⟨F,hF⟩:∃F,Ub en (Km b.p e.it) (max e.ea free)=F:=⟨_,rfl⟩;rw[hF]at hfp
   have hFb:F<=9223372036854775807:=by
    rw[<- hF];refine xN he uK ?_ zE;have:=SF e (zzad he1);omega
   have hmx:(if e.ea<free then free else e.ea)=max e.ea free:=zE
   simp[h39,h8,h9,jq,aP,aW,Qo,Qa,Qd,IN,hmx];refine Qi iG (ai9 pre post bx e (ls++(exl++ek)) {b with rv:=Eg,li:=sU,pm:=pm} us en L F) (fun f _=>L.length-(numOf (f 90)).toNat) ?_ ?_
   ·exact⟨0,max e.ea free,Dk,zd,zE,zd,by rw[zzd];exact hfp,by simp[aP,aW,Qo,Qa,Qd]⟩
   rintro g m ⟨j,fr,bx4,g90,hj,g17,Dl,rfl⟩;rcases zzaa j L.length with jlt|jge
   ·obtain⟨r,hr⟩:=aV jlt;have YP:=Zv hr;have YQ:(j:Int)<(L.length:Int):=zE
    have tU:=bP j zE;rw[Za hr,Ub]at Dl;have A0:=hLb r (zzad hr);rcases Xw iA r.1 en 0 with⟨v1,v2,_⟩|⟨v,nv,v1,v2,_⟩
    ·rw[v1]at Dl;simp[g90,g17,iG,jlt,YQ,YP,Qf,tU,aP,aW,Qo,Qa,Qd,v2];refine⟨aQ,⟨j+1,fr,bx4++[Qf r],zd,zE,by simp[g17],Dl,by simp[aP,aW,Qo,Qa,Qf,Qd]⟩,zE⟩
    rw[v1]at Dl;have hvb:=he r.1 v v1;have hwv:IntKind.i64.wrap (v+r.2)=v+r.2:=by rw[Ql]<;>omega
    have hmv:(if fr<v+r.2 then v+r.2 else fr)=max fr (v+r.2):=zE
    simp[g90,g17,iG,jlt,YQ,YP,Qf,tU,aP,aW,Qo,Qa,Qd,v2,hwv,hmv];refine⟨aQ,⟨j+1,max fr (v+r.2),bx4++[Qf r],zd,zE,zd,Dl,by simp[aP,aW,Qo,Qa,Qf,Qd]⟩,zE⟩
   have jin:¬(j:Int)<(L.length:Int):=zE
   rw[zzal jge]at Dl;have Dl:fr=F:=Dl;subst Dl;have k84:=fun K'=>Ob pre (post++([.aJ 0 (bG iA us)]::[.aJ 0 (bG iA en)]::(bx++(Qd e::bx4)))) (ls++(exl++ek)) {b with rv:=Eg,li:=sU,pm:=pm} e fr hc fA cM dD hFb hB.2.2 Y K';simp only[aP,aW,Qo,Qa,Qd]at k84;have hO':Dh 2 ls.length (ls++(exl++ek)) rt l:=by rw[<- zzav];exact hO.app
   rw[hF]at hg;simp[g90,g17,jin,zzbk.2 jge,iG,mP,h39,h8,h9,jq,aP,aW,Qo,Qa,Qd,IN];refine k84 _ fun YR QY amA=>?_;clear k84;have hB4:Bg {b with rv:=Eg,li:=sU,pm:=YR}:=⟨YN,YO,amA⟩;cases hs:Vq b.p e fr with
   |none=>
    rw[hs]at hg;have:=ry hg.symm Eg sU YR ([.aJ 0 (bG iA us)]::[.aJ 0 (bG iA en)]::(bx++(Qd e::(bx4++QY)))) (exl++ek) hB4;simp[Gr,rY];simpa[aP,aW,Qo,Qa,Qd]using this
   |some s=>
    rw[hs]at hg;simp only at hg
    have hg:YM (l++[(id,s)]) (Uu b.p (ids.drop (i+1)) (Vv us e.it) (Zn b.p en e.it (s+e.fr)) (s+e.fr) k)=T:=by
     rw[<- hg];cases Uu b.p (ids.drop (i+1)) (Vv us e.it) (Zn b.p en e.it (s+e.fr)) (s+e.fr) k<;>simp[YM]
    obtain⟨a1,a2,a3,a4,a5,a6,_⟩:=Jz hs;have hws:IntKind.i64.wrap (s+e.fr)=s+e.fr:=by rw[Ql]<;>omega
    have kn:=fun LS K'=>YK pre post (bx++(Qd e::(bx4++QY))) LS {b with rv:=Eg,li:=sU,pm:=YR} us en e.it (s+e.fr) (fun k v h=>by have:=hu k v h;omega) Y K';simp only[aP,aW,Qo,Qa,Qd]at kn;have JL:=hu.note zE e.it;have he2:tV (Zn b.p en e.it (s+e.fr)):=he.note e.it _ zE;have hN1:N+i+1=N+(i+1:Nat):=zE
    rw[hN1]at JL;obtain⟨qs,Ct⟩|⟨k2,Ct,dA,ef,_⟩:=hO'
    ·subst Ct;subst qs;simp[Gr,h39,h8,h9,jq,aP,aW,Qo,Qa,Qd,IN,hws];refine kn _ _ fun ex5=>?_;refine⟨aQ,⟨i+1,Vv us e.it,Zn b.p en e.it (s+e.fr),s+e.fr,k,[(id,s)],.own (ls.length+(exl.length+ek.length)) 2,Eg,sU,YR,bx++(Qd e::(bx4++QY++ex5)),exl++(ek++[1]),by simp[hw],zE,zd,zd,by simp[Qf],by simp at Ee;simp[Ee],zE,zE,JL,he2,.inr ⟨_,rfl,zE,?_,zd⟩,hB4,hg,?_⟩,by simp[hw];omega⟩
     ·have:(ls++(exl++(ek++[1])))=(ls++(exl++ek))++[1]:=zd
      rw[this,zzao zd];simp
     simp[aP,aW,Qo,Qa,Qd]
    subst Ct;have Bh:=(zza.1 ef).1;have bR:(ls++(exl++ek)).set k2 (l.length+1)=ls++(exl++ek).set (k2-ls.length) (l.length+1):=zzdc _ _ dA;simp[Gr,h39,h8,h9,jq,aP,aW,Qo,Qa,Qd,IN,hws,ef];refine⟨⟨?_,zE⟩,kn _ _ fun ex5=>?_⟩
    ·rintro row (⟨a,b,_,rfl⟩|rfl)<;>rfl
    refine⟨aQ,⟨i+1,Vv us e.it,Zn b.p en e.it (s+e.fr),s+e.fr,k,l++[(id,s)],.own k2 2,Eg,sU,YR,bx++(Qd e::(bx4++QY++ex5)),(exl++ek).set (k2-ls.length) (l.length+1),by simp[hw],zE,zd,zd,by simp[Qf],by simp[Ee],zE,zE,JL,he2,.inr ⟨k2,rfl,dA,?_,zd⟩,hB4,hg,?_⟩,by simp[hw];omega⟩
    ·rw[<- bR,zzbg Bh];simp
    simp only[bR];simp[aP,aW,Qo,Qa,Qd]
  obtain⟨q2,rfl⟩|⟨n2,q2⟩:=as4
  all_goals
   simp[h39,h8,h9,jq,aP,aW,Qo,Qa,Qd,IN,q2,r1,r2,hR];have k83:=fun K'=>Gy pre (post++([.aJ 0 (bG iA us)]::[.aJ 0 (bG iA en)]::(bx++[Qd e]))) (ls++exl) {b with rv:=rv,li:=sU,pm:=pm} e.it (by simp only;omega) cM FY hB.2.1 Y K';simp only[aP,aW,Qo,Qa,Qd]at k83;refine k83 _ fun Eg Dk ek rt3 L YO xP=>?_;clear k83;have Su:Bg {b with rv:=Eg,li:=sU,pm:=pm}:=⟨YN,YO,hB.2.2⟩;have hLb:∀r∈L,0<=r.2/\r.2<=6000000000:=fun r hr=>uK r (xP.mem_iff.1 hr)
   have hLl:L.length<=1000000000:=by
    rw[xP.length_eq];have:=Gz b.p e.it;omega
   have hfp:=xI en xP (max e.ea free);obtain⟨F,hF⟩:∃F,Ub en (Km b.p e.it) (max e.ea free)=F:=⟨_,rfl⟩;rw[hF]at hfp
   have hFb:F<=9223372036854775807:=by
    rw[<- hF];refine xN he uK ?_ zE;have:=SF e (zzad he1);omega
   have hmx:(if e.ea<free then free else e.ea)=max e.ea free:=zE
   simp[h39,h8,h9,jq,aP,aW,Qo,Qa,Qd,IN,hmx];refine Qi iG (ai9 pre post bx e (ls++(exl++ek)) {b with rv:=Eg,li:=sU,pm:=pm} us en L F) (fun f _=>L.length-(numOf (f 90)).toNat) ?_ ?_
   ·exact⟨0,max e.ea free,Dk,zd,zE,zd,by rw[zzd];exact hfp,by simp[aP,aW,Qo,Qa,Qd]⟩
   rintro g m ⟨j,fr,bx4,g90,hj,g17,Dl,rfl⟩;rcases zzaa j L.length with jlt|jge
   ·obtain⟨r,hr⟩:=aV jlt;have YP:=Zv hr;have YQ:(j:Int)<(L.length:Int):=zE
    have tU:=bP j zE;rw[Za hr,Ub]at Dl;have A0:=hLb r (zzad hr);rcases Xw iA r.1 en 0 with⟨v1,v2,_⟩|⟨v,nv,v1,v2,_⟩
    ·rw[v1]at Dl;simp[g90,g17,iG,jlt,YQ,YP,Qf,tU,aP,aW,Qo,Qa,Qd,v2];refine⟨aQ,⟨j+1,fr,bx4++[Qf r],zd,zE,by simp[g17],Dl,by simp[aP,aW,Qo,Qa,Qf,Qd]⟩,zE⟩
    rw[v1]at Dl;have hvb:=he r.1 v v1;have hwv:IntKind.i64.wrap (v+r.2)=v+r.2:=by rw[Ql]<;>omega
    have hmv:(if fr<v+r.2 then v+r.2 else fr)=max fr (v+r.2):=zE
    simp[g90,g17,iG,jlt,YQ,YP,Qf,tU,aP,aW,Qo,Qa,Qd,v2,hwv,hmv];refine⟨aQ,⟨j+1,max fr (v+r.2),bx4++[Qf r],zd,zE,zd,Dl,by simp[aP,aW,Qo,Qa,Qf,Qd]⟩,zE⟩
   have jin:¬(j:Int)<(L.length:Int):=zE
   rw[zzal jge]at Dl;have Dl:fr=F:=Dl;subst Dl;have k84:=fun K'=>Ob pre (post++([.aJ 0 (bG iA us)]::[.aJ 0 (bG iA en)]::(bx++(Qd e::bx4)))) (ls++(exl++ek)) {b with rv:=Eg,li:=sU,pm:=pm} e fr hc fA cM dD hFb hB.2.2 Y K';simp only[aP,aW,Qo,Qa,Qd]at k84;have hO':Dh 2 ls.length (ls++(exl++ek)) rt l:=by rw[<- zzav];exact hO.app
   rw[hF]at hg;simp[g90,g17,jin,zzbk.2 jge,iG,mP,h39,h8,h9,jq,aP,aW,Qo,Qa,Qd,IN];refine k84 _ fun YR QY amA=>?_;clear k84;have hB4:Bg {b with rv:=Eg,li:=sU,pm:=YR}:=⟨YN,YO,amA⟩;cases hs:Vq b.p e fr with
   |none=>
    rw[hs]at hg;have:=ry hg.symm Eg sU YR ([.aJ 0 (bG iA us)]::[.aJ 0 (bG iA en)]::(bx++(Qd e::(bx4++QY)))) (exl++ek) hB4;simp[Gr,rY];simpa[aP,aW,Qo,Qa,Qd]using this
   |some s=>
    rw[hs]at hg;simp only at hg
    have hg:YM (l++[(id,s)]) (Uu b.p (ids.drop (i+1)) (Vv us e.it) (Zn b.p en e.it (s+e.fr)) (s+e.fr) k)=T:=by
     rw[<- hg];cases Uu b.p (ids.drop (i+1)) (Vv us e.it) (Zn b.p en e.it (s+e.fr)) (s+e.fr) k<;>simp[YM]
    obtain⟨a1,a2,a3,a4,a5,a6,_⟩:=Jz hs;have hws:IntKind.i64.wrap (s+e.fr)=s+e.fr:=by rw[Ql]<;>omega
    have kn:=fun LS K'=>YK pre post (bx++(Qd e::(bx4++QY))) LS {b with rv:=Eg,li:=sU,pm:=YR} us en e.it (s+e.fr) (fun k v h=>by have:=hu k v h;omega) Y K';simp only[aP,aW,Qo,Qa,Qd]at kn;have JL:=hu.note zE e.it;have he2:tV (Zn b.p en e.it (s+e.fr)):=he.note e.it _ zE;have hN1:N+i+1=N+(i+1:Nat):=zE
    rw[hN1]at JL;obtain⟨qs,Ct⟩|⟨k2,Ct,dA,ef,_⟩:=hO'
    ·subst Ct;subst qs;simp[Gr,h39,h8,h9,jq,aP,aW,Qo,Qa,Qd,IN,hws];refine kn _ _ fun ex5=>?_;refine⟨aQ,⟨i+1,Vv us e.it,Zn b.p en e.it (s+e.fr),s+e.fr,k,[(id,s)],.own (ls.length+(exl.length+ek.length)) 2,Eg,sU,YR,bx++(Qd e::(bx4++QY++ex5)),exl++(ek++[1]),by simp[hw],zE,zd,zd,by simp[Qf],by simp at Ee;simp[Ee],zE,zE,JL,he2,.inr ⟨_,rfl,zE,?_,zd⟩,hB4,hg,?_⟩,by simp[hw];omega⟩
     ·have:(ls++(exl++(ek++[1])))=(ls++(exl++ek))++[1]:=zd
      rw[this,zzao zd];simp
     simp[aP,aW,Qo,Qa,Qd]
    subst Ct;have Bh:=(zza.1 ef).1;have bR:(ls++(exl++ek)).set k2 (l.length+1)=ls++(exl++ek).set (k2-ls.length) (l.length+1):=zzdc _ _ dA;simp[Gr,h39,h8,h9,jq,aP,aW,Qo,Qa,Qd,IN,hws,ef];refine⟨⟨?_,zE⟩,kn _ _ fun ex5=>?_⟩
    ·rintro row (⟨a,b,_,rfl⟩|rfl)<;>rfl
    refine⟨aQ,⟨i+1,Vv us e.it,Zn b.p en e.it (s+e.fr),s+e.fr,k,l++[(id,s)],.own k2 2,Eg,sU,YR,bx++(Qd e::(bx4++QY++ex5)),(exl++ek).set (k2-ls.length) (l.length+1),by simp[hw],zE,zd,zd,by simp[Qf],by simp[Ee],zE,zE,JL,he2,.inr ⟨k2,rfl,dA,?_,zd⟩,hB4,hg,?_⟩,by simp[hw];omega⟩
    ·rw[<- bR,zzbg Bh];simp
    simp only[bR];simp[aP,aW,Qo,Qa,Qd]
 have bO:¬(i:Int)<(ids.length:Int):=zE
 rw[zzal bq,Uu]at hg;have hg:some (l++[])=T:=hg;rw[zzau]at hg;have:=VG l hg.symm rv li pm ([.aJ 0 (bG iA us)]::[.aJ 0 (bG iA en)]::bx) exl rt hB hO;simp[h39,h8,h9,jq,bO,zzbk.2 bq,mP,rY];simpa[aP,aW,Qo,Qa]using this
open Go Go.Abs
def ae1(l:Pi)(hl:l.length<=1000000000):Pure Tryz.prog aD 173 [.sl .ro (l.map Qy)] (.sl .ro (l.map Qy)):=by
 cases l with
 |nil=>
  refine sV (Zh (?_:Pure Tryz.prog aD 173 [.sl .nil []] (.sl .nil [])) (Wk.sl _ _)) ?_
  ·refine Qp B8 (fun _ _ _=>.junk) zd ?_;simp[M4,M5]
  refine Qp B8 (fun _ _ _=>.junk) zd ?_;simp[M4,M5]
 |cons x r=>
  refine Qp B8 (fun _ _ _=>.junk) zd ?_;simp[M4,M5,Qy];simp at hl;omega
def Bi{α:Type}(c:List α)(i:Nat)(h:i<c.length):(c.take i++c.drop (i+1)).length+1=c.length:=by
 simp;omega
def GA(ok:Pi->Bool)(c:Pi)(i:Nat):Pi:=
 if h:i<c.length then(if ok (c.take i++c.drop (i+1))=true then GA ok c (i+1)else GA ok (c.take i++c.drop (i+1)) i)else c
termination_by c.length-i
decreasing_by
 ·omega
 have:=Bi c i h;omega
def oy(b:Bd)(ids:Pi):Bool:=(Uu b.p ids b.us b.en b.at_ (-1)).isSome
def nP(b:Bd)(ids:Pi):Pi:=if oy b ids=true then[]else GA (oy b) ids 0
def as5(pre post:T5)(ls:Pa)(b:Bd)(N:Nat)(T:Pi)(f:Nat->AV)(m:AM):Prop:=
 ∃(i:Nat)(c:Pi)(rv:List (Int×(Rt×List Sp)))(li:List (Int×Int))(pm:List ((Int×Int)×List Sp))(ex:T5)(exl:Pa),
  f 7=.sl .ro (c.map Qy)/\f 8=I i/\i<=c.length/\c.length<=N/\GA (oy b) c i=T/\Bg {b with rv:=rv,li:=li,pm:=pm}/\m=aP pre {b with rv:=rv,li:=li,pm:=pm} (post++ex) (ls++exl)
def Oh(ids:Pi):UV:=fun _ f l=>if f=114 then .gd false .junk else if f=173 then .sl .ro (ids.map Qy)else
 (match l with|[.sl _ [[.sl _ a],[.sl _ c]]]=>.sl .ro (a++c)|_=>.junk)
def K8(pre post:T5)(ls:Pa)(b:Bd)(ids:Pi)(rt0:Rt)(h85:∀m,Abs.Pure Tryz.prog aD 173 [bz m 6 (.sl rt0 (ids.map Qy))] (.sl .ro (ids.map Qy)))(N:Int)(hN:0<=N/\N<=100000000)(as3:ids.length<=100000000)
  (hc:b.p.cls.length<=1000000)(fA:b.p.sh.length<=1000000000)(cM:b.p.aM.length<=1000000000)(IF:b.p.ens.length<=1000000000)(FY:(Yy b.p).length<=1000000000)(dD:b.p.ln<=9223372036854775807)(SF:∀e∈b.p.ens,e.ea<=9223372036854775807)
  (Iu:b.at_<=9223372036854775807)(hus:pT N b.us)(ae0:tV b.en)(ei:Bg b)(Y:YT)(K:So)
  (hK:∀rv li pm ex exl,Bg {b with rv:=rv,li:=li,pm:=pm}->K (.sl (if oy b ids=true then .nil else .ro) ((nP b ids).map Qy)) (aP pre {b with rv:=rv,li:=li,pm:=pm} (post++ex) (ls++exl))):
  aB Tryz.prog aD Y 115 [.ptr (pre.length+9) 0,.sl rt0 (ids.map Qy)] (aP pre b post ls) K:=by
 refine Xn ab2 (Oh ids) zd ?_;simp[Tx,aP,aW,Qo,Qa,Oh];have k42:=fun K'=>Qej pre post ls b ids rt0 N hN as3 hc fA cM IF FY dD SF Iu hus ae0 ei Y K';simp only[aP,aW,Qo,Qa]at k42;refine k42 _ (fun h0 rv li pm ex exl hB=>?_) (fun l h1 rv li pm ex exl rt hB hO=>?_)
 ·have bU:oy b ids=false:=by simp[oy,h0]
  simp[Oh];refine⟨h85 _,?_⟩;refine Qi vf (as5 pre post ls b ids.length (nP b ids)) (fun f _=>(match f 7 with|.sl _ c=>c.length|_=>0)-(numOf (f 8)).toNat) ?_ ?_
  ·exact⟨0,ids,rv,li,pm,ex,exl,zd,zd,zE,zE,by simp[nP,bU],hB,by simp[aP,aW,Qo,Qa]⟩
  rintro f m ⟨i,c,rv,li,pm,ex,exl,h7,h8,hi,qu,hT,hB,rfl⟩;rcases zzaa i c.length with ai|bq
  ·have aa:(i:Int)<(c.length:Int):=zE
   have hw:=bP i zE;simp[h7,h8,ai,aa,vf,aP,aW,Qo,Qa,Oh,hw];have eA:List.take i (List.map Qy c)=(c.take i).map Qy:=zd
   have eB:List.take (c.length-(i+1)) (List.drop (i+1) (List.map Qy c))=(c.drop (i+1)).map Qy:=by
    rw[zzat zd];simp
   rw[eA,eB,<- zzci];have k86:=YC [(.ro,c.take i),(.ro,c.drop (i+1))] zd zd (by simp;omega);have zF:=Bi c i ai;rw[GA,dif_pos ai]at hT;have fh:(List.map (fun x:Rt×Pi=>x.2) [(Rt.ro,c.take i),(Rt.ro,c.drop (i+1))]).flatten=c.take i++c.drop (i+1):=zd
   rw[fh]at k86;obtain⟨o,ho⟩:∃o,c.take i++c.drop (i+1)=o:=⟨_,rfl⟩;rw[ho]at k86 zF hT |-
   refine⟨⟨zE,fun _ _=>rfl⟩,⟨zE,fun _ _=>rfl⟩,k86,?_⟩;have k42:=fun K'=>Qej pre (post++ex) (ls++exl) {b with rv:=rv,li:=li,pm:=pm} o .ro N hN zE hc fA cM IF FY dD SF Iu hus ae0 hB Y K';simp only[aP,aW,Qo,Qa]at k42;refine k42 _ (fun h0 rv2 sU Oc gC amB A4=>?_) (fun l h1 rv2 sU Oc gC amB rt A4 hO=>?_)
   ·have bU:oy b o=false:=by simp only[oy];rw[h0];rfl
    rw[bU]at hT;have hT:GA (oy b) o i=nP b ids:=hT;simp[h7,h8,vf];refine⟨aQ,⟨i,o,rv2,sU,Oc,ex++gC,exl++amB,zd,by simp[h8],zE,zE,hT,A4,by simp[aP,aW,Qo,Qa]⟩,?_⟩
    ·rw[zzfl (zzgt ai),zzdy];exact Nat.sub_lt_sub_left ai (zzey i)
   have bU:oy b o=true:=by simp only[oy];rw[h1];rfl
   rw[bU]at hT;have hT:GA (oy b) c (i+1)=nP b ids:=hT;simp[h7,h8,vf,hw];refine⟨aQ,⟨i+1,c,rv2,sU,Oc,ex++gC,exl++amB,by simp[h7],zd,zE,zE,hT,A4,by simp[aP,aW,Qo,Qa]⟩,zE⟩
  have bO:¬(i:Int)<(c.length:Int):=zE
  rw[GA,dif_neg zE]at hT;have:=hK rv li pm ex exl hB;rw[<- hT,bU,if_neg zd]at this;simp[h7,h8,bO,zzbk.2 bq,vf,Ty];simpa[aP,aW,Qo,Qa]using this
 have bU:oy b ids=true:=by simp[oy,h1]
 have:=hK rv li pm ex exl hB;rw[bU,if_pos rfl]at this;simp[Ty];simpa[aP,aW,Qo,Qa,nP,bU]using this
open Go Go.Abs
def Ug(p:Pl):Pi:=p.ens.map fun e=>e.id
def IP(p:Pl):Bd:=⟨p,0,[],[],[],[],[]⟩
def IQ(l:List Sp):AV:=if l=[]then .sl .nil []else .sl .ro (l.map Qf)
def QZ(p:Pl):AV:=if jJ p=false then .aS [.sl .nil [],.sl .nil [],I 80]else match Uu p (Ug p) [] [] 0 (-1)with
 |some l=>.aS [IQ l,.sl .nil [],I 0]
 |none=>.aS [.sl .nil [],.sl .ro ((nP (IP p) (Ug p)).map Qy),I 90]
def mE(p:Pl):UV:=fun _ f _=>if f=999999 then .junk else if f=95 then .bool (jJ p)else .gd false .junk
def as6(p:Pl)(f:Nat->AV)(m:AM):Prop:=∃(i:Nat)(rt:Rt)(ls:Pa)(bx:T5),f 17=I i/\i<=p.ens.length/\f 5=.sl rt ((Ug p).take i |>.map Qy)/\Dh 1 0 ls rt ((Ug p).take i)/\m=⟨Qa p::bx,ls,fun _=>.gone,0⟩
def pU:∀(l:List It)(a:List (Int×It))(s:List (Int×Int)),(zQ l a s).length<=s.length+l.length
 |[],a,s=>by simp[zQ]
 |x::r,a,s=>by
  rw[zQ];cases af x.id a with
  |some _=>
   have:=pU r a s;simp only[zzaz];omega
  |none=>
   have h:=pU r (Vf x.id x a) (if 1<=x.sp/\x.sp<=200 then Vf x.sp x.id s else s)
   have h2:(if 1<=x.sp/\x.sp<=200 then Vf x.sp x.id s else s).length<=s.length+1:=by
    split
    ·exact Gl _ _ _
    omega
   simp only[zzaz];omega
def amC(p:Pl):Bg (IP p):=⟨fun _ _ h=>(by cases h),fun _ _ h=>(by cases h),fun _ _ h=>(by cases h)⟩
def Q0(p:Pl)(hs:PlS p)(hc:p.cls.length<=1000000)(IF:p.ens.length<=10000000)(dD:p.ln<=9223372036854775807)(SF:∀e∈p.ens,e.ea<=9223372036854775807):Pure Tryz.prog aD 65 [.agg (Qa p)] (QZ p):=by
 have k22:=Wz p hs;obtain⟨l1,l2,l3,l4,l5,l6⟩:=hs
 have FY:(Yy p).length<=1000000000:=by
  have:=pU p.aM [] [];simp only[Yy]at*
  simp at this;omega
 refine Qp akr (mE p) zd ?_;cases hv:jJ p with
 |false=>
  rw[hv]at k22;have:QZ p=.aS [.sl .nil [],.sl .nil [],I 80]:=by rw[QZ,if_pos hv]
  rw[this];simp[akq,Tc,Qa,mE,hv];simpa[Qa]using k22
 |true=>
  rw[hv]at k22;simp[akq,Qa,mE,hv];refine⟨by simpa[Qa]using k22,?_⟩;refine Qi MC (as6 p) (fun f _=>p.ens.length-(numOf (f 17)).toNat) ?_ ?_
  ·exact⟨0,.nil,[],[],zd,zE,zd,.inl ⟨zd,rfl⟩,by simp[Qa]⟩
  rintro f m ⟨i,rt,ls,bx,h17,hi,h5,hO,rfl⟩;rcases zzaa i p.ens.length with ai|bq
  ·obtain⟨e,he⟩:=aV ai;have ah:=Qdj he;have aa:(i:Int)<(p.ens.length:Int):=zE
   have hw:=bP i zE;have bA:(Ug p).take (i+1)=(Ug p).take i++[e.id]:=by rw[zzb];simp[Ug,he]
   have mj:((Ug p).take i).length=i:=by simp[Ug];omega
   obtain⟨S,hS⟩:∃S,(Ug p).take i=S:=⟨_,rfl⟩;rw[hS]at h5 hO bA mj;obtain⟨rfl,rfl⟩|⟨k,rfl,dA,ef,Bh⟩:=hO
   ·simp[h17,h5,ai,aa,ah,Qd,Qa,mE,MC,hw];refine⟨aQ,⟨i+1,.own ls.length 1,ls++[1],bx++[Qd e],zd,zE,by rw[bA];simp[Qy],.inr ⟨_,rfl,zE,by rw[bA];simp,by rw[bA];simp⟩,by simp[Qa,Qd]⟩,zE⟩
   have IC:=(zza.1 ef).1;simp[h17,h5,ai,aa,ah,Qd,Qa,mE,MC,hw,ef];refine⟨⟨?_,zE⟩,aQ,⟨i+1,.own k 1,ls.set k (S.length+1),bx++[Qd e],zd,zE,by rw[bA];simp[Qy],.inr ⟨_,rfl,zE,by rw[bA];simp[IC],by rw[bA];simp⟩,by simp[Qa,Qd]⟩,zE⟩
   ·rintro row (⟨a,_,rfl⟩|rfl)<;>rfl
  have bO:¬(i:Int)<(p.ens.length:Int):=zE
  have mj:(Ug p).take i=Ug p:=zzat (by simp[Ug];omega);rw[mj]at h5 hO;have aL:(Ug p).length<=10000000:=by simp[Ug];omega
  have k41:=fun K'=>xM (Qa p::bx) ls p 0 [] .nil zE l2 zd Y0 K';simp only[Qa,zzcs]at k41;simp[h17,h5,bO,zzbk.2 bq,MC,Qa,mE];refine k41 _ fun ex=>?_;clear k41
  have h85:∀m,Abs.Pure Tryz.prog aD 173 [bz m 6 (.sl rt ((Ug p).map Qy))] (.sl .ro ((Ug p).map Qy)):=fun m=>by
   have kc:=ae1 (Ug p) zE;obtain⟨h1,rfl⟩|⟨k,rfl,_⟩:=hO
   ·exact Xz kc ⟨Wk.sl _ _,trivial⟩
   exact kc
  simp[mE];refine Qej (Qa p::bx) ex ls (IP p) (Ug p) rt 0 zE zE hc l1 l2 l3 FY dD SF (by simp[IP]) (fun _ _ h=>(by cases h)) (fun _ _ h=>(by cases h)) (amC p) Y0 _ (fun h0 rv li pm gC exl hB=>?_) (fun l h1 rv li pm gC exl Sh hB Gd=>?_)
  ·have h0:Uu p (Ug p) [] [] 0 (-1)=none:=h0;have hr:QZ p=.aS [.sl .nil [],.sl .ro ((nP (IP p) (Ug p)).map Qy),I 90]:=by rw[QZ,if_neg (by simp[hv]),h0]
   have bU:oy (IP p) (Ug p)=false:=by show(Uu p (Ug p) [] [] 0 (-1)).isSome=false;rw[h0];rfl
   rw[hr];simp[mE];refine K8 (Qa p::bx) (ex++gC) (ls++exl) {IP p with rv:=rv,li:=li,pm:=pm} (Ug p) rt h85 0 zE zE hc l1 l2 l3 FY dD SF (by simp[IP]) (fun _ _ h=>(by cases h)) (fun _ _ h=>(by cases h)) hB Y0 _ (fun Eg li3 pm3 Dk ek Su=>?_);have axS:oy {IP p with rv:=rv,li:=li,pm:=pm} (Ug p)=false:=bU;have fq:nP {IP p with rv:=rv,li:=li,pm:=pm} (Ug p)=nP (IP p) (Ug p):=rfl;rw[axS,fq,if_neg zd];simp[Tc]
  have h1:Uu p (Ug p) [] [] 0 (-1)=some l:=h1;have hr:QZ p=.aS [IQ l,.sl .nil [],I 0]:=by rw[QZ,if_neg (by simp[hv]),h1]
  rw[hr];obtain⟨rfl,rfl⟩|⟨k2,rfl,_,_,aO⟩:=Gd
  ·simp[mE,Tc,IQ]
  simp[mE,Tc,IQ,aO]
