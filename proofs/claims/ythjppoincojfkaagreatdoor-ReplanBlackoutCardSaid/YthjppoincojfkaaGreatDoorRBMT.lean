import Derived.Test.YthjppoincojfkaaGreatDoorRBMS
set_option linter.all false
set_option maxRecDepth 100000
set_option maxHeartbeats 64000000
namespace Go.Proofs.YthjppoincojfkaaGreatDoor
open Go Go.Abs
def Gp{l:Pa}{n:Nat}(h:l.Nodup)(hb:∀i∈l,i<n):l.length<=n:=by
 have hp:l.Perm ((List.range n).filter fun i=>decide (i∈l)):=by
  rw[zzgf h (zzdg.filter _)];intro i;simp only[zzbz,zzau,decide_eq_true_eq];exact⟨fun hi=>⟨hb i hi,hi⟩,fun hi=>hi.2⟩
 rw[hp.length_eq];refine zzbb (zzcb _ _) ?_;simp
def N2(id:Nat)(m:AM):Nat:=match Qj m.boxes id with
 |[.mitr _ _ s]=>s.length
 |_=>0
def aeF{α:Type}{row:α->AV}{L:List (Int×α)}{i:Nat}{k:Pi}{c:AV}(h:(bG row L)[i]?=some (k,c)):∃o x,L[i]?=some (o,x)/\k=[o]/\c=row x/\(bG row L).getD i ([],.junk)=([o],row x)/\i<L.length:=by
 have hg:(bG row L).getD i ([],.junk)=(k,c):=by rw[zzav,h];rfl
 rw[bG,zzbm]at h;cases hL:L[i]? with
 |none=>rw[hL]at h;cases h
 |some y=>
  rw[hL]at h;cases h;exact⟨y.1,y.2,rfl,rfl,rfl,hg,(zza.1 hL).1⟩
def KW(p:Pl)(it:Int)(L:List (Int×Int))(o x:Int):xL p it (L++[(o,x)])=if 0<Kg p x it then xL p it L++[(o,Kg p x it)]else xL p it L:=by
 unfold xL;rw[List.filterMap_append];by_cases h:0<Kg p x it
 ·rw[if_pos h];simp[h]
 rw[if_neg h];simp[h]
def Gq{m:AM}{K:So}{id mid n kn:Nat}{seen:Pa}{kvs:List (Pi×AV)}(h1:Qj m.boxes id=[.mitr mid n seen])(h2:Qj m.boxes mid=[.aJ kn kvs])(h:kvs.length=n)
  (hs:∀i k c,kvs[i]?=some (k,c)->i ∉ seen->K (.aS [.bool true,keyAV kn k,c]) {m with boxes:=m.boxes.set id [.mitr mid n (seen++[i])]})(he:(∀i,i<n->i∈seen)->K (.aS [.bool false]) m):vcNxt m K (.it id):=by
 simp only[vcNxt,Ya,h1,h2];exact⟨h,hs,he⟩
def N3(p:Pl)(it:Int):UV:=fun _ f l=>if f=227 then(match l with|[_,.int _ x,_]=>I (Kg p x it)|_=>.junk)else .junk
def asR(pre:T5)(b:Bd)(post:T5)(ls:Pa)(it:Int)(f:Nat->AV)(m:AM):Prop:=∃(seen:Pa)(l:List Sp)(rt:Rt)(exl:Pa),
 seen.Nodup/\(∀i∈seen,i<(Yy b.p).length)/\l=xL b.p it (atL (0,0) (Yy b.p) seen)/\f 8=.sl rt (l.map Qf)/\(l=[]/\rt=.nil/\exl=[]\/l≠[]/\rt=.own ls.length 2/\exl=[l.length])/\
 m=aP pre b (post++[[.mitr (pre.length+3) (Yy b.p).length seen]]) (ls++exl)
def Gr(pre post:T5)(ls:Pa)(b:Bd)(it:Int)(hc:b.p.cls.length<=1000000000)(cT:b.p.aM.length<=1000000000)(FL:(Yy b.p).length<=1000000000)(Ir:aeG b)(Y:YT)(K:So)
  (hK:∀(rv:List (Int×(Rt×List Sp)))(ex:T5)(exl:Pa)(rt:Rt)(l:List Sp),aeG {b with rv:=rv}->l.Perm (Kk b.p it)->K (.sl rt (l.map Qf)) (aP pre {b with rv:=rv} (post++ex) (ls++exl))):
  aB Tryz.prog aD Y 171 [.ptr (pre.length+9) 0,I it] (aP pre b post ls) K:=by
 have nil:Kk b.p it=[]->K (.sl .nil []) (aP pre b post ls):=fun h=>by
  have:=hK b.rv [] [] .nil [] Ir (by rw[h]);simpa using this
 refine Xn acA (N3 b.p it) zd ?_
 have axo:∃r,Xi [it] (bG ry (zU b.p)) 0=r/\((∃n y,Xg it b.p.aM=some y/\r=some (n,ry y))\/(Xg it b.p.aM=none/\r=none)):=by
  rcases Xy ry it (zU b.p) 0 with⟨h1,h2,_,_⟩|⟨u,n,h1,h2,_⟩
  ·rw[uK]at h1;exact⟨_,rfl,.inr ⟨h1,h2⟩⟩
  rw[uK]at h1;exact⟨_,rfl,.inl ⟨_,u,h1,h2⟩⟩
 obtain⟨r,hr,QM⟩:=axo;obtain⟨n,y,hf,rfl⟩|⟨hf,rfl⟩:=QM
 ·rcases Xy iA y.sp (Yy b.p) 0 with⟨s1,s2,_,_⟩|⟨su,sn,s1,s2,_⟩
  ·simp[Am,Ep,aP,aW,Qo,Qa,hr,ry,Qh,s2];exact nil (by simp[Kk,hf,s1])
  have hrl:Kk b.p it=xL b.p it (Yy b.p):=by simp[Kk,hf,s1,xL]
  rcases Xy rvA y.sp b.rv 0 with⟨m1,m2,_,m4⟩|⟨mu,mn,m1,m2,_⟩
  ·simp[Am,aP,aW,Qo,Qa,hr,ry,Qh,s2,m2];refine Qk vo (asR pre b post ls it) (fun _ m=>(Yy b.p).length-N2 (pre.length+(post.length+10)) m) ?_ ?_
   ·exact⟨[],[],.nil,[],List.nodup_nil,zd,rfl,zd,.inl ⟨rfl,rfl,rfl⟩,by simp[aP,aW,Qo,Qa]⟩
   rintro f m ⟨seen,l,rt,exl,hn,hb,hl,h8,aX,rfl⟩;have iC:seen.length<=(Yy b.p).length:=Gp hn hb;simp[-vcNxt,aP,aW,Qo,Qa,vo];refine Gq (mid:=pre.length+3) (n:=(Yy b.p).length) (kn:=0) (seen:=seen) (kvs:=bG iA (Yy b.p)) ?_ ?_ ?_ (fun i k c hi R9=>?_) fun bC=>?_
   ·simp
   ·simp
   ·simp
   ·obtain⟨o,x,hx,rfl,rfl,JC,ai⟩:=aeF hi
    have bn:(bG iA (Yy b.p))[i]'(Nm ai)=([o],iA x):=by
     have:=zza.1 hi;exact this.2
    have amd:=ame b.p x it hc cT;have qi:(seen++[i]).Nodup:=List.nodup_append.2 ⟨hn,zd,fun a ha c hc=>by simp at hc;subst hc;rintro rfl;exact R9 ha⟩
    have cM:∀j∈seen++[i],j<(Yy b.p).length:=fun j hj=>by
     rcases zzam.1 hj with h|h
     ·exact hb j h
     simp at h;subst h;exact ai
    have cm:seen.length+1<=(Yy b.p).length:=by simpa using Gp qi cM
    have hxo:(Yy b.p).getD i (0,0)=(o,x):=by rw[zzav,hx];rfl
    have Ig:atL (0,0) (Yy b.p) (seen++[i])=atL (0,0) (Yy b.p) seen++[(o,x)]:=by
     simp only[atL,zzch,zzaz,zzcr,hxo]
    have EX:=KW b.p it (atL (0,0) (Yy b.p) seen) o x;rw[<- Ig,<- hl]at EX;by_cases hg:0<Kg b.p x it
    ·rw[if_pos hg]at EX
     have D4:l.length<=(Yy b.p).length:=by
      rw[hl];refine zzbb (zzgr _ _) ?_;simp only[atL,zzbt];exact iC
     obtain⟨rfl,rfl,rfl⟩|⟨oy,rfl,rfl⟩:=aX
     ·simp[keyAV,hi,bn,ai,N3,hg,h8,vo,N2];refine⟨by simpa[Qa]using amd,aQ,⟨seen++[i],_,_,[1],qi,cM,rfl,by simp[EX,Qf],.inr ⟨by simp[EX],rfl,by simp[EX]⟩,by simp[aP,aW,Qo,Qa]⟩,zE⟩
     simp[keyAV,hi,bn,ai,N3,hg,h8,vo,N2];refine⟨by simpa[Qa]using amd,⟨?_,zE⟩,aQ,⟨seen++[i],_,_,[l.length+1],qi,cM,rfl,by simp[EX,Qf],.inr ⟨by simp[EX],rfl,by simp[EX]⟩,by simp[aP,aW,Qo,Qa]⟩,zE⟩
     ·rintro row (⟨a,b,_,rfl⟩|rfl)<;>rfl
    rw[if_neg hg]at EX;simp[keyAV,hi,bn,ai,N3,hg,h8,vo,N2];refine⟨by simpa[Qa]using amd,aQ,⟨seen++[i],l,rt,exl,qi,cM,EX.symm,by simp[h8],aX,by simp[aP,aW,Qo,Qa]⟩,zE⟩
   have hpm:l.Perm (Kk b.p it):=by
    rw[hl,hrl];exact(aeH _ _ _ hn bC hb).filterMap _
   have axp:aeG {b with rv:=Vh y.sp (rt,l) b.rv}:=fun k x h it' y' hf' cW=>by
    rw[Ja]at h;split at h
    ·rename_i e;cases h;rw[aeI hf' hf (by rw[cW,e])];exact hpm
    exact Ir k x h it' y' hf' cW
   have:=hK _ [[.mitr (pre.length+3) (Yy b.p).length seen]] exl rt l axp hpm;have m4':bG rvA b.rv++[([y.sp],.sl rt (l.map Qf))]=bG rvA (Vh y.sp (rt,l) b.rv):=m4 (rt,l);simp[h8,m2,Ep];rw[m4'];simpa[aP,aW,Qo,Qa]using this
  simp[Am,Ep,aP,aW,Qo,Qa,hr,ry,Qh,s2,m2,rvA];have:=hK b.rv [] [] mu.1 mu.2 Ir (Ir _ _ m1 it y hf rfl);simpa[aP,aW,Qo,Qa]using this
 have s2:Xi [0] (bG iA (Yy b.p)) 0=none:=by
  rcases Xy iA 0 (Yy b.p) 0 with⟨_,s2,_,_⟩|⟨su,sn,s1,_⟩
  ·exact s2
  rw[Yy,xM _ _ _ rfl]at s1;cases s1
 simp[Am,Ep,aP,aW,Qo,Qa,hr,s2];exact nil (by simp[Kk,hf])
open Go Go.Abs
def zV(pre:T5)(p:Pl)(at_:Int)(pl:List (Int×Int))(im:List (Int×It))(sp:List (Int×Int))(post:T5)(ls:Pa):AM:=
 ⟨pre++(Qa p::[.aJ 0 (bG iA pl)]::[.aJ 0 (bG ry im)]::[.aJ 0 (bG iA sp)]::[.aJ 0 []]::[.aJ 0 []]::[.aJ 0 []]::[.aJ 0 []]::[.aJ 2 []]::Qo pre.length ⟨p,at_,[],[],[],[],[]⟩::post),ls,fun _=>.gone,0⟩
def axq(pre:T5)(p:Pl)(at_:Int)(ls:Pa)(f:Nat->AV)(m:AM):Prop:=∃(i:Nat)(pl:List (Int×Int))(post:T5),f 36=I i/\i<=p.ens.length/\Gs (p.ens.drop i) i pl=Dg p/\m=zV pre p at_ pl [] [] post ls
def axr(pre:T5)(p:Pl)(at_:Int)(ls:Pa)(f:Nat->AV)(m:AM):Prop:=∃(i:Nat)(im:List (Int×It))(sp:List (Int×Int))(post:T5),f 67=I i/\i<=p.aM.length/\KX (p.aM.drop i) im=zU p/\zW (p.aM.drop i) im sp=Yy p/\m=zV pre p at_ (Dg p) im sp post ls
def axt(pre:T5)(p:Pl)(at_:Int)(past:List Ad)(ls:Pa)(f:Nat->AV)(m:AM):Prop:=∃(i:Nat)(us en:List (Int×Int))(post:T5),f 108=I i/\i<=past.length/\pP i us/\N4 (past.drop i) us=N4 past []/\N5 p (past.drop i) en=N5 p past []/\m=aP pre ⟨p,at_,us,en,[],[],[]⟩ post ls
def Is:UV:=fun _ f _=>if f=999999 then .junk else .gd false .junk
def xN(pre:T5)(ls:Pa)(p:Pl)(at_:Int)(past:List Ad)(rtp:Rt)(Io:p.ens.length<=1000000000)(cT:p.aM.length<=1000000000)(kJ:past.length<=1000000000)(Y:YT)(K:So)
  (hK:∀ex,K (.ptr (pre.length+9) 0) (aP pre ⟨p,at_,N4 past [],N5 p past [],[],[],[]⟩ ex ls)):
  aB Tryz.prog aD Y 113 [.agg (Qa p),I at_,.sl rtp (past.map Vi)] ⟨pre,ls,fun _=>.gone,0⟩ K:=by
 refine Xn abM Is zd ?_;simp[Eg,Qa,Is];refine Qk BT (axq pre p at_ ls) (fun f _=>p.ens.length-(numOf (f 36)).toNat) ?_ ?_
 ·exact⟨0,[],[],zd,zE,rfl,by simp[zV,Qo,Qa]⟩
 rintro f m ⟨i,pl,post,h36,hi,uk,rfl⟩;rcases zzaa i p.ens.length with ai|bn
 ·obtain⟨e,he⟩:=aV ai;have ah:=Qdg he;have aa:(i:Int)<(p.ens.length:Int):=zE
  have hw:=bO i zE;rw[Ze he,Gs]at uk;rcases Xy iA e.id pl 0 with⟨h1,h2,_,h4⟩|⟨u,n,h1,h2,_⟩
  ·rw[h1]at uk;have Su:bG iA pl++[([e.id],I i)]=bG iA (Vh e.id (i:Int) pl):=h4 _;simp[h36,ai,aa,ah,Qd,zV,Qo,Qa,h2,BT,hw];refine⟨aQ,⟨i+1,_,post++[Qd e],zd,zE,uk,?_⟩,zE⟩
   ·rw[Su];simp[zV,Qo,Qa,Qd]
  rw[h1]at uk;simp[h36,ai,aa,ah,Qd,zV,Qo,Qa,h2,BT,hw];refine⟨aQ,⟨i+1,pl,post++[Qd e],zd,zE,uk,by simp[zV,Qo,Qa,Qd]⟩,zE⟩
 have bP:¬(i:Int)<(p.ens.length:Int):=zE
 rw[zzal bn,Gs]at uk;subst uk;simp[h36,bP,zzbk.2 bn,BT,zV,Qo,Qa,Is];refine Qk iK (axr pre p at_ ls) (fun f _=>p.aM.length-(numOf (f 67)).toNat) ?_ ?_
 ·exact⟨0,[],[],post,zd,zE,rfl,rfl,by simp[zV,Qo,Qa]⟩
 clear bn bP hi h36;rintro g m ⟨i,im,sp,post,h67,hi,QX,cW,rfl⟩;rcases zzaa i p.aM.length with ai|bn
 ·obtain⟨x,hx⟩:=aV ai;have ah:Qj (p.aM.map Qh) i=Qh x:=Qu (by simp[hx]);have aa:(i:Int)<(p.aM.length:Int):=zE
  have hw:=bO i zE;rw[Ze hx,KX]at QX;rw[Ze hx,zW]at cW;simp[h67,ai,aa,ah,Qh,zV,Qo,Qa,iK,hw,Is];refine Uh ?_;rcases Xy ry x.id im 0 with⟨h1,h2,_,h4⟩|⟨u,n,h1,h2,_⟩
  ·rw[h1]at QX cW;have Su:bG ry im++[([x.id],.agg [I x.id,I x.ki,I x.fr,I x.sp,I x.ra])]=bG ry (Vh x.id x im):=h4 x;simp only at QX cW;by_cases s1:1<=x.sp
   ·by_cases s2:x.sp<=200
    ·rw[if_pos ⟨s1,s2⟩]at cW;rcases Xy iA x.sp sp 0 with⟨_,q2,_,q4⟩|⟨u,n,_,q2,_,_,_,q4⟩
     ·have q4':bG iA sp++[([x.sp],I x.id)]=bG iA (Vh x.sp x.id sp):=q4 _;simp[h67,ai,aa,ah,Qh,zV,Qo,Qa,iK,hw,Is,h2,s1,s2,q2];refine⟨aQ,⟨i+1,Vh x.id x im,Vh x.sp x.id sp,post++[Qh x,[I 0,I 0,I 0,I 0,I 0]],zd,zE,QX,cW,?_⟩,zE⟩
      ·rw[Su,q4'];simp[zV,Qo,Qa,Qh]
     have q4':(bG iA sp).set n ([x.sp],I x.id)=bG iA (Vh x.sp x.id sp):=q4 _;rw[zzbs]at q2;simp[h67,ai,aa,ah,Qh,zV,Qo,Qa,iK,hw,Is,h2,s1,s2,q2];refine⟨aQ,⟨i+1,Vh x.id x im,Vh x.sp x.id sp,post++[Qh x,[I 0,I 0,I 0,I 0,I 0]],zd,zE,QX,cW,?_⟩,zE⟩
     ·rw[Su,q4'];simp[zV,Qo,Qa,Qh]
    rw[if_neg (fun h=>s2 h.2)]at cW;simp[h67,ai,aa,ah,Qh,zV,Qo,Qa,iK,hw,Is,h2,s1,s2];refine⟨aQ,⟨i+1,Vh x.id x im,sp,post++[Qh x,[I 0,I 0,I 0,I 0,I 0]],zd,zE,QX,cW,?_⟩,zE⟩
    ·rw[Su];simp[zV,Qo,Qa,Qh]
   rw[if_neg (fun h=>s1 h.1)]at cW;simp[h67,ai,aa,ah,Qh,zV,Qo,Qa,iK,hw,Is,h2,s1];refine⟨aQ,⟨i+1,Vh x.id x im,sp,post++[Qh x,[I 0,I 0,I 0,I 0,I 0]],zd,zE,QX,cW,?_⟩,zE⟩
   ·rw[Su];simp[zV,Qo,Qa,Qh]
  rw[h1]at QX cW;simp[h67,ai,aa,ah,Qh,zV,Qo,Qa,iK,hw,Is,h2,ry];refine⟨aQ,⟨i+1,im,sp,post++[Qh x,Qh u],zd,zE,QX,cW,by simp[zV,Qo,Qa,Qh]⟩,zE⟩
 have bP:¬(i:Int)<(p.aM.length:Int):=zE
 rw[zzal bn]at QX cW;have QX:im=zU p:=QX;have cW:sp=Yy p:=cW;subst QX;subst cW;simp[h67,bP,zzbk.2 bn,iK,zV,Qo,Qa,Is];refine Qk fW (axt pre p at_ past ls) (fun f _=>past.length-(numOf (f 108)).toNat) ?_ ?_
 ·exact⟨0,[],[],post,zd,zE,fun k v h=>(by cases h),rfl,rfl,by simp[aP,aW,Qo,Qa,Ss]⟩
 clear bn bP hi h67;rintro h m ⟨i,us,en,post,h108,hi,hus,hu,he,rfl⟩;rcases zzaa i past.length with ai|bn
 ·obtain⟨a,ha⟩:=aV ai;have ah:Qj (past.map Vi) i=Vi a:=Qu (by simp[ha]);have aa:(i:Int)<(past.length:Int):=zE
  have hw:=bO i zE;rw[Ze ha,N4]at hu;rw[Ze ha,N5]at he;have YK:pP (i+1:Nat) us:=fun k v h=>by have:=hus k v h;omega
  have skip:rz a=false->N4 (past.drop (i+1)) us=N4 past []/\N5 p (past.drop (i+1)) en=N5 p past []:=fun h=>by
   rw[h]at hu he;exact⟨hu,he⟩
  by_cases c1:a.re=0
  ·by_cases c2:0<=a.fr
   ·by_cases c3:a.fr<=100000000
    ·by_cases c4:1<=a.fs
     ·by_cases c5:a.fs<=100000000
      ·have hc:rz a=true:=by simp[rz];omega
       rw[hc]at hu he;simp only[if_true]at hu he;have hwa:IntKind.i64.wrap (a.fr+a.fs)=a.fr+a.fs:=by rw[Ql]<;>omega
       simp[h108,ai,aa,ah,Vi,aP,aW,Qo,Qa,fW,hw,Is,c1,c2,c3,c4,c5,hwa];have kn:=aeE pre (post++[Vi a]) ls ⟨p,at_,us,en,[],[],[]⟩ us en a.it (a.fr+a.fs) (fun k v h=>by have:=hus k v h;omega) Y;simp only[aP,aW,Qo,Qa,Vi,c1]at kn;refine kn _ fun ex=>?_;simp[h108,fW,hw];refine⟨aQ,⟨i+1,Vv us a.it,Zm p en a.it (a.fr+a.fs),post++[[I a.it,I 0,I a.fr,I a.fs]]++ex,zd,zE,?_,hu,he,by simp[aP,aW,Qo,Qa]⟩,zE⟩
       ·have:=hus.note zE a.it;exact this
      obtain⟨hu,he⟩:=skip (by simp[rz];omega);simp[h108,ai,aa,ah,Vi,aP,aW,Qo,Qa,fW,hw,Is,c1,c2,c3,c4,c5];refine⟨aQ,⟨i+1,us,en,post++[[I a.it,I 0,I a.fr,I a.fs]],zd,zE,YK,hu,he,by simp[aP,aW,Qo,Qa]⟩,zE⟩
     obtain⟨hu,he⟩:=skip (by simp[rz];omega);simp[h108,ai,aa,ah,Vi,aP,aW,Qo,Qa,fW,hw,Is,c1,c2,c3,c4];refine⟨aQ,⟨i+1,us,en,post++[[I a.it,I 0,I a.fr,I a.fs]],zd,zE,YK,hu,he,by simp[aP,aW,Qo,Qa]⟩,zE⟩
    obtain⟨hu,he⟩:=skip (by simp[rz];omega);simp[h108,ai,aa,ah,Vi,aP,aW,Qo,Qa,fW,hw,Is,c1,c2,c3];refine⟨aQ,⟨i+1,us,en,post++[[I a.it,I 0,I a.fr,I a.fs]],zd,zE,YK,hu,he,by simp[aP,aW,Qo,Qa]⟩,zE⟩
   obtain⟨hu,he⟩:=skip (by simp[rz];omega);simp[h108,ai,aa,ah,Vi,aP,aW,Qo,Qa,fW,hw,Is,c1,c2];refine⟨aQ,⟨i+1,us,en,post++[[I a.it,I 0,I a.fr,I a.fs]],zd,zE,YK,hu,he,by simp[aP,aW,Qo,Qa]⟩,zE⟩
  obtain⟨hu,he⟩:=skip (by simp[rz,c1]);simp[h108,ai,aa,ah,Vi,aP,aW,Qo,Qa,fW,hw,Is,c1];refine⟨aQ,⟨i+1,us,en,post++[[I a.it,I a.re,I a.fr,I a.fs]],zd,zE,YK,hu,he,by simp[aP,aW,Qo,Qa]⟩,zE⟩
 have bP:¬(i:Int)<(past.length:Int):=zE
 rw[zzal bn]at hu he;have hu:us=N4 past []:=hu;have he:en=N5 p past []:=he;subst hu;subst he;simp[h108,bP,zzbk.2 bn,fW,agk];simpa[aP,aW,Qo,Qa,Ss]using hK post
open Go Go.Abs
def Bg(b:Bd):Prop:=amf b/\aeG b/\KT b
def Dh{α:Type}(sz:Nat)(lo:Nat)(ls:Pa)(rt:Rt)(l:List α):Prop:=(l=[]/\rt=.nil)\/∃k,rt=.own k sz/\lo<=k/\ls[k]?=some l.length/\l≠[]
def Dh.app{α:Type}{sz lo:Nat}{ls exl:Pa}{rt:Rt}{l:List α}(h:Dh sz lo ls rt l):Dh sz lo (ls++exl) rt l:=by
 obtain h|⟨k,h1,h2,h3,h4⟩:=h
 ·exact .inl h
 exact .inr ⟨k,h1,h2,by rw[zzaj (zza.1 h3).1];exact h3,h4⟩
def aeJ(p:Pl)(a b:Int):0<=Kg p a b/\Kg p a b<=6000000000:=by
 unfold Kg;cases Xg a p.aM with
 |none=>simp
 |some x=>
  cases Xg b p.aM with
  |none=>simp
  |some y=>
   simp only;split
   ·omega
   rename_i h;simp only[not_or]at h;have hv:Vd p.nu p.de=true:=by simpa using h.2.1
   obtain⟨v1,v2,v3,v4,v5⟩:=Ju hv;have hg:=N6 x.sp y.sp p.cls 0 zE;generalize pQ x.sp y.sp p.cls 0=g at hg;rw[xu,if_pos ⟨hv,zE,zE⟩];have hp:=Di hg ⟨(by omega:0<=p.nu),v2⟩;have:=Dj (x:=g*p.nu+p.de-1) (y:=p.de) zE zE;omega
def uL{p:Pl}{it:Int}:∀r∈Kk p it,0<=r.2/\r.2<=6000000000:=fun r hr=>by
 unfold Kk at hr;cases hf:Xg it p.aM with
 |none=>rw[hf]at hr;cases hr
 |some y=>
  rw[hf]at hr;simp only at hr;cases ha:af y.sp (Yy p)with
  |none=>rw[ha]at hr;cases hr
  |some _=>
   rw[ha]at hr;simp only[zzfh]at hr;obtain⟨x,_,hx⟩:=hr;split at hx
   ·cases hx;exact aeJ p _ _
   cases hx
def Gt(p:Pl)(it:Int):(Kk p it).length<=(Yy p).length:=by
 unfold Kk;cases Xg it p.aM with
 |none=>simp
 |some y=>
  simp only;cases af y.sp (Yy p)with
  |none=>simp
  |some _=>exact zzgr _ _
def ua(en:List (Int×Int)):Prop:=∀k v,af k en=some v->0<=v/\v<=1000000000
def ua.note{p:Pl}{en:List (Int×Int)}(h:ua en)(it e:Int)(he:0<=e/\e<=1000000000):ua (Zm p en it e):=fun k v hk=>by
 unfold Zm at hk;cases hf:Xg it p.aM with
 |none=>rw[hf]at hk;exact h k v hk
 |some x=>
  rw[hf]at hk;simp only[Ja]at hk;split at hk
  ·cases hk;cases ha:af x.sp en with
   |none=>simp;omega
   |some u=>have:=h _ u ha;simp;omega
  exact h k v hk
def xO{en:List (Int×Int)}(h:ua en):∀{l:List Sp}{f M:Int},(∀r∈l,0<=r.2/\r.2<=6000000000)->f<=M->7000000000<=M->Ua en l f<=M
 |[],f,M,_,h1,_=>h1
 |r::l,f,M,hl,h1,h2=>by
  rw[Ua];refine xO h (fun x hx=>hl x (by simp[hx])) ?_ h2;have:=hl r zd;cases ha:af r.1 en with
  |none=>exact h1
  |some e=>have:=h _ e ha;simp only;omega
def YL(l:List Sp):Option (List Sp)->Option (List Sp)
 |none=>none
 |some r=>some (l++r)
def amg(pre post:T5)(ls:Pa)(b:Bd)(ids:Pi)(N:Int)(T:Option (List Sp))(f:Nat->AV)(m:AM):Prop:=
 ∃(i:Nat)(us en:List (Int×Int))(free last:Int)(l:List Sp)(rt:Rt)(rv:List (Int×(Rt×List Sp)))(li:List (Int×Int))(pm:List ((Int×Int)×List Sp))(bx:T5)(exl:Pa),
  f 39=I i/\i<=ids.length/\f 8=I free/\f 9=I last/\f 10=.sl rt (l.map Qf)/\l.length=i/\(-1<=last/\last<=1000000000)/\free<=9223372036854775807/\pP (N+i) us/\ua en/\Dh 2 ls.length (ls++exl) rt l/\Bg {b with rv:=rv,li:=li,pm:=pm}/\
  YL l (Ur b.p (ids.drop i) us en free last)=T/\m=aP pre {b with rv:=rv,li:=li,pm:=pm} (post++([.aJ 0 (bG iA us)]::[.aJ 0 (bG iA en)]::bx)) (ls++exl)
def aiQ(pre post bx0:T5)(e:En)(ls:Pa)(b:Bd)(us en:List (Int×Int))(L:List Sp)(T:Int)(f:Nat->AV)(m:AM):Prop:=
 ∃(j:Nat)(fr:Int)(bx:T5),f 90=I j/\j<=L.length/\f 17=I fr/\Ua en (L.drop j) fr=T/\m=aP pre b (post++([.aJ 0 (bG iA us)]::[.aJ 0 (bG iA en)]::(bx0++(Qd e::bx)))) ls
def Iu:UV:=fun _ f _=>if f=999999 then .junk else .gd false .junk
def Qej(pre post:T5)(ls:Pa)(b:Bd)(ids:Pi)(rt0:Rt)(N:Int)(hN:0<=N/\N<=100000000)(asS:ids.length<=100000000)
  (hc:b.p.cls.length<=1000000)(fu:b.p.sh.length<=1000000000)(cT:b.p.aM.length<=1000000000)(Io:b.p.ens.length<=1000000000)(FL:(Yy b.p).length<=1000000000)(dG:b.p.ln<=9223372036854775807)(Sv:∀e∈b.p.ens,e.ea<=9223372036854775807)
  (Ig:b.at_<=9223372036854775807)(hus:pP N b.us)(aeK:ua b.en)(ei:Bg b)(Y:YT)(K:So)
  (rq:Ur b.p ids b.us b.en b.at_ (-1)=none->∀rv li pm ex exl,Bg {b with rv:=rv,li:=li,pm:=pm}->K (.aS [.sl .nil [],.bool false]) (aP pre {b with rv:=rv,li:=li,pm:=pm} (post++ex) (ls++exl)))
  (VE:∀l,Ur b.p ids b.us b.en b.at_ (-1)=some l->∀rv li pm ex exl rt,Bg {b with rv:=rv,li:=li,pm:=pm}->Dh 2 ls.length (ls++exl) rt l->K (.aS [.sl rt (l.map Qf),.bool true]) (aP pre {b with rv:=rv,li:=li,pm:=pm} (post++ex) (ls++exl))):
  aB Tryz.prog aD Y 114 [.ptr (pre.length+9) 0,.sl rt0 (ids.map Xb)] (aP pre b post ls) K:=by
 obtain⟨T,hT⟩:∃T,Ur b.p ids b.us b.en b.at_ (-1)=T:=⟨_,rfl⟩;rw[hT]at rq VE;refine Xn abN Iu zd ?_;simp[Eh,aP,aW,Qo,Qa];refine Qbf [(.mp (pre.length+(post.length+10)),aP pre b (post++[[.aJ 0 (bG iA b.us)]]) ls)] ?_;simp[Eh,aP,aW,Qo,Qa,Iu];refine⟨N7 (kn:=0) (kvs:=bG iA b.us) zd ⟨zd,zd⟩,N7 (kn:=0) (kvs:=bG iA b.en) zd ?_⟩;simp[Iu];refine Qk mN (amg pre post ls b ids N T) (fun f _=>ids.length-(numOf (f 39)).toNat) ?_ ?_
 ·refine⟨0,b.us,b.en,b.at_,-1,[],.nil,b.rv,b.li,b.pm,[],[],zd,zE,zd,zd,zd,rfl,zE,Ig,Nm hus,aeK,.inl ⟨rfl,rfl⟩,ei,?_,by simp[aP,aW,Qo,Qa]⟩;rw[zzd,hT];cases T<;>rfl
 rintro f m ⟨i,us,en,free,last,l,rt,rv,li,pm,bx,exl,h39,hi,h8,h9,jy,D4,hla,wC,hu,he,hO,hB,hg,rfl⟩;rcases zzaa i ids.length with ai|bn
 ·obtain⟨id,aL⟩:=aV ai;have ah:Qj (ids.map Xb) i=Xb id:=Qu (by simp[aL]);have aa:(i:Int)<(ids.length:Int):=zE
  have hw:=bO i zE;rw[Ze aL,Ur]at hg;have no:T=none->∀rv li pm ex exl,Bg {b with rv:=rv,li:=li,pm:=pm}->K (.aS [.sl .nil [],.bool false]) (aP pre {b with rv:=rv,li:=li,pm:=pm} (post++ex) (ls++exl)):=rq;rcases Xy iA id (Dg b.p) 0 with⟨p1,p2,_⟩|⟨u,n,p1,p2,_⟩
  ·have p1:y9 id b.p.ens 0=none:=by
    rw[uM]at p1;cases hx:y9 id b.p.ens 0 with
    |none=>rfl
    |some k=>rw[hx]at p1;cases p1
   rw[p1]at hg;simp[h39,h8,h9,jy,ai,aa,ah,Xb,aP,aW,Qo,Qa,mN,p2,rV];have:=rq hg.symm rv li pm ([.aJ 0 (bG iA us)]::[.aJ 0 (bG iA en)]::bx) exl hB;simpa[aP,aW,Qo,Qa]using this
  obtain⟨k,pk,rfl⟩:∃k:Nat,y9 id b.p.ens 0=some k/\(k:Int)=u:=by
   rw[uM]at p1;cases hx:y9 id b.p.ens 0 with
   |none=>rw[hx]at p1;cases p1
   |some k=>rw[hx]at p1;cases p1;exact⟨k,rfl,rfl⟩
  rw[zzbs]at p2;rw[pk]at hg;simp only at hg;obtain⟨_,e,he1,KY,he3⟩:=kV pk;rw[zzet]at he1;have sj:=(zza.1 he1).1;have zH:(k:Int)<(b.p.ens.length:Int):=zE
  have xP:=Qdg he1;by_cases c1:(k:Int)<=last
  ·rw[if_pos c1]at hg;simp[h39,h8,h9,jy,ai,aa,ah,Xb,aP,aW,Qo,Qa,mN,p2,rV,c1];have:=rq hg.symm rv li pm ([.aJ 0 (bG iA us)]::[.aJ 0 (bG iA en)]::bx) exl hB;simpa[aP,aW,Qo,Qa]using this
  rw[if_neg c1,he1]at hg;simp only at hg;simp[h39,h8,h9,jy,ai,aa,ah,Xb,aP,aW,Qo,Qa,mN,p2,c1,sj,zH,xP,Qd,Iu];have k82:=fun K'=>aeL pre (post++([.aJ 0 (bG iA us)]::[.aJ 0 (bG iA en)]::(bx++[Qd e]))) (ls++exl) {b with rv:=rv,li:=li,pm:=pm} e.it (by simp only;omega) cT hB.1 Y K';simp only[aP,aW,Qo,Qa,Qd]at k82;refine k82 _ fun sP YM=>?_;clear k82;have A2:Bg {b with rv:=rv,li:=sP,pm:=pm}:=⟨YM,hB.2.1,hB.2.2⟩;obtain⟨R,hR⟩:∃R,Wt b.p e.it=R:=⟨_,rfl⟩;rw[hR]at hg
  obtain⟨cu,r8,asT⟩:∃cu,(af e.it us).getD 0=cu/\((Xi [e.it] (bG iA us) 0=none/\cu=0)\/∃n,Xi [e.it] (bG iA us) 0=some (n,I cu)):=by
   rcases Xy iA e.it us 0 with⟨q1,q2,_⟩|⟨u,n,q1,q2,_⟩
   ·exact⟨0,by rw[q1];rfl,.inl ⟨q2,rfl⟩⟩
   exact⟨u,by rw[q1];rfl,.inr ⟨_,q2⟩⟩
  rw[r8]at hg;by_cases r2:R≠ -1/\R<=cu
  ·rw[if_pos r2]at hg;have:=rq hg.symm rv sP pm ([.aJ 0 (bG iA us)]::[.aJ 0 (bG iA en)]::(bx++[Qd e])) exl A2;obtain⟨r1,r2⟩:=r2;obtain⟨q2,rfl⟩|⟨n2,q2⟩:=asT
   ·simp[aP,aW,Qo,Qa,Qd,Iu,q2,r1,r2,hR,rV];simpa[aP,aW,Qo,Qa,Qd]using this
   simp[aP,aW,Qo,Qa,Qd,Iu,q2,r1,r2,hR,rV];simpa[aP,aW,Qo,Qa,Qd]using this
  rw[if_neg r2]at hg
  have r3:R= -1\/(R≠ -1/\¬R<=cu):=by
   by_cases h:R= -1
   ·exact .inl h
   exact .inr ⟨h,fun h'=>r2 ⟨h,h'⟩⟩
  clear r2;obtain r1|⟨r1,r2⟩:=r3
  ·have q2:True:=trivial;have r2:True:=trivial;simp[h39,h8,h9,jy,aP,aW,Qo,Qa,Qd,Iu,q2,r1,r2,hR];have k83:=fun K'=>Gr pre (post++([.aJ 0 (bG iA us)]::[.aJ 0 (bG iA en)]::(bx++[Qd e]))) (ls++exl) {b with rv:=rv,li:=sP,pm:=pm} e.it (by simp only;omega) cT FL hB.2.1 Y K';simp only[aP,aW,Qo,Qa,Qd]at k83;refine k83 _ fun D5 Dk eu rt3 L YN xQ=>?_;clear k83;have Sj:Bg {b with rv:=D5,li:=sP,pm:=pm}:=⟨YM,YN,hB.2.2⟩;have hLb:∀r∈L,0<=r.2/\r.2<=6000000000:=fun r hr=>uL r (xQ.mem_iff.1 hr)
   have hLl:L.length<=1000000000:=by
    rw[xQ.length_eq];have:=Gt b.p e.it;omega
   have hfp:=xR en xQ (max e.ea free);obtain⟨F,hF⟩:∃F,Ua en (Kk b.p e.it) (max e.ea free)=F:=⟨_,rfl⟩;rw[hF]at hfp
   have hFb:F<=9223372036854775807:=by
    rw[<- hF];refine xO he uL ?_ zE;have:=Sv e (zzad he1);omega
   have hmx:(if e.ea<free then free else e.ea)=max e.ea free:=zE
   simp[h39,h8,h9,jy,aP,aW,Qo,Qa,Qd,Iu,hmx];refine Qk iL (aiQ pre post bx e (ls++(exl++eu)) {b with rv:=D5,li:=sP,pm:=pm} us en L F) (fun f _=>L.length-(numOf (f 90)).toNat) ?_ ?_
   ·exact⟨0,max e.ea free,Dk,zd,zE,zd,by rw[zzd];exact hfp,by simp[aP,aW,Qo,Qa,Qd]⟩
   rintro g m ⟨j,fr,bx4,g90,hj,g17,Dl,rfl⟩;rcases zzaa j L.length with jlt|jge
   ·obtain⟨r,hr⟩:=aV jlt;have YO:=Zv hr;have YP:(j:Int)<(L.length:Int):=zE
    have rf:=bO j zE;rw[Ze hr,Ua]at Dl;have A0:=hLb r (zzad hr);rcases Xy iA r.1 en 0 with⟨v1,v2,_⟩|⟨v,nv,v1,v2,_⟩
    ·rw[v1]at Dl;simp[g90,g17,iL,jlt,YP,YO,Qf,rf,aP,aW,Qo,Qa,Qd,v2];refine⟨aQ,⟨j+1,fr,bx4++[Qf r],zd,zE,by simp[g17],Dl,by simp[aP,aW,Qo,Qa,Qf,Qd]⟩,zE⟩
    rw[v1]at Dl;have hvb:=he r.1 v v1;have hwv:IntKind.i64.wrap (v+r.2)=v+r.2:=by rw[Ql]<;>omega
    have hmv:(if fr<v+r.2 then v+r.2 else fr)=max fr (v+r.2):=zE
    simp[g90,g17,iL,jlt,YP,YO,Qf,rf,aP,aW,Qo,Qa,Qd,v2,hwv,hmv];refine⟨aQ,⟨j+1,max fr (v+r.2),bx4++[Qf r],zd,zE,zd,Dl,by simp[aP,aW,Qo,Qa,Qf,Qd]⟩,zE⟩
   have jin:¬(j:Int)<(L.length:Int):=zE
   rw[zzal jge]at Dl;have Dl:fr=F:=Dl;subst Dl;have k84:=fun K'=>N0 pre (post++([.aJ 0 (bG iA us)]::[.aJ 0 (bG iA en)]::(bx++(Qd e::bx4)))) (ls++(exl++eu)) {b with rv:=D5,li:=sP,pm:=pm} e fr hc fu cT dG hFb hB.2.2 Y K';simp only[aP,aW,Qo,Qa,Qd]at k84;have hO':Dh 2 ls.length (ls++(exl++eu)) rt l:=by rw[<- zzbe];exact hO.app
   rw[hF]at hg;simp[g90,g17,jin,zzbk.2 jge,iL,mN,h39,h8,h9,jy,aP,aW,Qo,Qa,Qd,Iu];refine k84 _ fun YQ QY amh=>?_;clear k84;have hB4:Bg {b with rv:=D5,li:=sP,pm:=YQ}:=⟨YM,YN,amh⟩;cases hs:Vr b.p e fr with
   |none=>
    rw[hs]at hg;have:=rq hg.symm D5 sP YQ ([.aJ 0 (bG iA us)]::[.aJ 0 (bG iA en)]::(bx++(Qd e::(bx4++QY)))) (exl++eu) hB4;simp[Wy,rV];simpa[aP,aW,Qo,Qa,Qd]using this
   |some s=>
    rw[hs]at hg;simp only at hg
    have hg:YL (l++[(id,s)]) (Ur b.p (ids.drop (i+1)) (Vv us e.it) (Zm b.p en e.it (s+e.fr)) (s+e.fr) k)=T:=by
     rw[<- hg];cases Ur b.p (ids.drop (i+1)) (Vv us e.it) (Zm b.p en e.it (s+e.fr)) (s+e.fr) k<;>simp[YL]
    obtain⟨a1,a2,a3,a4,a5,a6,_⟩:=Jy hs;have hws:IntKind.i64.wrap (s+e.fr)=s+e.fr:=by rw[Ql]<;>omega
    have kn:=fun LS K'=>YJ pre post (bx++(Qd e::(bx4++QY))) LS {b with rv:=D5,li:=sP,pm:=YQ} us en e.it (s+e.fr) (fun k v h=>by have:=hu k v h;omega) Y K';simp only[aP,aW,Qo,Qa,Qd]at kn;have JB:=hu.note zE e.it;have KY:ua (Zm b.p en e.it (s+e.fr)):=he.note e.it _ zE;have hN1:N+i+1=N+(i+1:Nat):=zE
    rw[hN1]at JB;obtain⟨oy,Cp⟩|⟨k2,Cp,dB,ef,_⟩:=hO'
    ·subst Cp;subst oy;simp[Wy,h39,h8,h9,jy,aP,aW,Qo,Qa,Qd,Iu,hws];refine kn _ _ fun ex5=>?_;refine⟨aQ,⟨i+1,Vv us e.it,Zm b.p en e.it (s+e.fr),s+e.fr,k,[(id,s)],.own (ls.length+(exl.length+eu.length)) 2,D5,sP,YQ,bx++(Qd e::(bx4++QY++ex5)),exl++(eu++[1]),by simp[hw],zE,zd,zd,by simp[Qf],by simp at D4;simp[D4],zE,zE,JB,KY,.inr ⟨_,rfl,zE,?_,zd⟩,hB4,hg,?_⟩,by simp[hw];omega⟩
     ·have:(ls++(exl++(eu++[1])))=(ls++(exl++eu))++[1]:=zd
      rw[this,zzao zd];simp
     simp[aP,aW,Qo,Qa,Qd]
    subst Cp;have Bb:=(zza.1 ef).1;have bR:(ls++(exl++eu)).set k2 (l.length+1)=ls++(exl++eu).set (k2-ls.length) (l.length+1):=zzdd _ _ dB;simp[Wy,h39,h8,h9,jy,aP,aW,Qo,Qa,Qd,Iu,hws,ef];refine⟨⟨?_,zE⟩,kn _ _ fun ex5=>?_⟩
    ·rintro row (⟨a,b,_,rfl⟩|rfl)<;>rfl
    refine⟨aQ,⟨i+1,Vv us e.it,Zm b.p en e.it (s+e.fr),s+e.fr,k,l++[(id,s)],.own k2 2,D5,sP,YQ,bx++(Qd e::(bx4++QY++ex5)),(exl++eu).set (k2-ls.length) (l.length+1),by simp[hw],zE,zd,zd,by simp[Qf],by simp[D4],zE,zE,JB,KY,.inr ⟨k2,rfl,dB,?_,zd⟩,hB4,hg,?_⟩,by simp[hw];omega⟩
    ·rw[<- bR,zzbf Bb];simp
    simp only[bR];simp[aP,aW,Qo,Qa,Qd]
  obtain⟨q2,rfl⟩|⟨n2,q2⟩:=asT
  all_goals
   simp[h39,h8,h9,jy,aP,aW,Qo,Qa,Qd,Iu,q2,r1,r2,hR];have k83:=fun K'=>Gr pre (post++([.aJ 0 (bG iA us)]::[.aJ 0 (bG iA en)]::(bx++[Qd e]))) (ls++exl) {b with rv:=rv,li:=sP,pm:=pm} e.it (by simp only;omega) cT FL hB.2.1 Y K';simp only[aP,aW,Qo,Qa,Qd]at k83;refine k83 _ fun D5 Dk eu rt3 L YN xQ=>?_;clear k83;have Sj:Bg {b with rv:=D5,li:=sP,pm:=pm}:=⟨YM,YN,hB.2.2⟩;have hLb:∀r∈L,0<=r.2/\r.2<=6000000000:=fun r hr=>uL r (xQ.mem_iff.1 hr)
   have hLl:L.length<=1000000000:=by
    rw[xQ.length_eq];have:=Gt b.p e.it;omega
   have hfp:=xR en xQ (max e.ea free);obtain⟨F,hF⟩:∃F,Ua en (Kk b.p e.it) (max e.ea free)=F:=⟨_,rfl⟩;rw[hF]at hfp
   have hFb:F<=9223372036854775807:=by
    rw[<- hF];refine xO he uL ?_ zE;have:=Sv e (zzad he1);omega
   have hmx:(if e.ea<free then free else e.ea)=max e.ea free:=zE
   simp[h39,h8,h9,jy,aP,aW,Qo,Qa,Qd,Iu,hmx];refine Qk iL (aiQ pre post bx e (ls++(exl++eu)) {b with rv:=D5,li:=sP,pm:=pm} us en L F) (fun f _=>L.length-(numOf (f 90)).toNat) ?_ ?_
   ·exact⟨0,max e.ea free,Dk,zd,zE,zd,by rw[zzd];exact hfp,by simp[aP,aW,Qo,Qa,Qd]⟩
   rintro g m ⟨j,fr,bx4,g90,hj,g17,Dl,rfl⟩;rcases zzaa j L.length with jlt|jge
   ·obtain⟨r,hr⟩:=aV jlt;have YO:=Zv hr;have YP:(j:Int)<(L.length:Int):=zE
    have rf:=bO j zE;rw[Ze hr,Ua]at Dl;have A0:=hLb r (zzad hr);rcases Xy iA r.1 en 0 with⟨v1,v2,_⟩|⟨v,nv,v1,v2,_⟩
    ·rw[v1]at Dl;simp[g90,g17,iL,jlt,YP,YO,Qf,rf,aP,aW,Qo,Qa,Qd,v2];refine⟨aQ,⟨j+1,fr,bx4++[Qf r],zd,zE,by simp[g17],Dl,by simp[aP,aW,Qo,Qa,Qf,Qd]⟩,zE⟩
    rw[v1]at Dl;have hvb:=he r.1 v v1;have hwv:IntKind.i64.wrap (v+r.2)=v+r.2:=by rw[Ql]<;>omega
    have hmv:(if fr<v+r.2 then v+r.2 else fr)=max fr (v+r.2):=zE
    simp[g90,g17,iL,jlt,YP,YO,Qf,rf,aP,aW,Qo,Qa,Qd,v2,hwv,hmv];refine⟨aQ,⟨j+1,max fr (v+r.2),bx4++[Qf r],zd,zE,zd,Dl,by simp[aP,aW,Qo,Qa,Qf,Qd]⟩,zE⟩
   have jin:¬(j:Int)<(L.length:Int):=zE
   rw[zzal jge]at Dl;have Dl:fr=F:=Dl;subst Dl;have k84:=fun K'=>N0 pre (post++([.aJ 0 (bG iA us)]::[.aJ 0 (bG iA en)]::(bx++(Qd e::bx4)))) (ls++(exl++eu)) {b with rv:=D5,li:=sP,pm:=pm} e fr hc fu cT dG hFb hB.2.2 Y K';simp only[aP,aW,Qo,Qa,Qd]at k84;have hO':Dh 2 ls.length (ls++(exl++eu)) rt l:=by rw[<- zzbe];exact hO.app
   rw[hF]at hg;simp[g90,g17,jin,zzbk.2 jge,iL,mN,h39,h8,h9,jy,aP,aW,Qo,Qa,Qd,Iu];refine k84 _ fun YQ QY amh=>?_;clear k84;have hB4:Bg {b with rv:=D5,li:=sP,pm:=YQ}:=⟨YM,YN,amh⟩;cases hs:Vr b.p e fr with
   |none=>
    rw[hs]at hg;have:=rq hg.symm D5 sP YQ ([.aJ 0 (bG iA us)]::[.aJ 0 (bG iA en)]::(bx++(Qd e::(bx4++QY)))) (exl++eu) hB4;simp[Wy,rV];simpa[aP,aW,Qo,Qa,Qd]using this
   |some s=>
    rw[hs]at hg;simp only at hg
    have hg:YL (l++[(id,s)]) (Ur b.p (ids.drop (i+1)) (Vv us e.it) (Zm b.p en e.it (s+e.fr)) (s+e.fr) k)=T:=by
     rw[<- hg];cases Ur b.p (ids.drop (i+1)) (Vv us e.it) (Zm b.p en e.it (s+e.fr)) (s+e.fr) k<;>simp[YL]
    obtain⟨a1,a2,a3,a4,a5,a6,_⟩:=Jy hs;have hws:IntKind.i64.wrap (s+e.fr)=s+e.fr:=by rw[Ql]<;>omega
    have kn:=fun LS K'=>YJ pre post (bx++(Qd e::(bx4++QY))) LS {b with rv:=D5,li:=sP,pm:=YQ} us en e.it (s+e.fr) (fun k v h=>by have:=hu k v h;omega) Y K';simp only[aP,aW,Qo,Qa,Qd]at kn;have JB:=hu.note zE e.it;have KY:ua (Zm b.p en e.it (s+e.fr)):=he.note e.it _ zE;have hN1:N+i+1=N+(i+1:Nat):=zE
    rw[hN1]at JB;obtain⟨oy,Cp⟩|⟨k2,Cp,dB,ef,_⟩:=hO'
    ·subst Cp;subst oy;simp[Wy,h39,h8,h9,jy,aP,aW,Qo,Qa,Qd,Iu,hws];refine kn _ _ fun ex5=>?_;refine⟨aQ,⟨i+1,Vv us e.it,Zm b.p en e.it (s+e.fr),s+e.fr,k,[(id,s)],.own (ls.length+(exl.length+eu.length)) 2,D5,sP,YQ,bx++(Qd e::(bx4++QY++ex5)),exl++(eu++[1]),by simp[hw],zE,zd,zd,by simp[Qf],by simp at D4;simp[D4],zE,zE,JB,KY,.inr ⟨_,rfl,zE,?_,zd⟩,hB4,hg,?_⟩,by simp[hw];omega⟩
     ·have:(ls++(exl++(eu++[1])))=(ls++(exl++eu))++[1]:=zd
      rw[this,zzao zd];simp
     simp[aP,aW,Qo,Qa,Qd]
    subst Cp;have Bb:=(zza.1 ef).1;have bR:(ls++(exl++eu)).set k2 (l.length+1)=ls++(exl++eu).set (k2-ls.length) (l.length+1):=zzdd _ _ dB;simp[Wy,h39,h8,h9,jy,aP,aW,Qo,Qa,Qd,Iu,hws,ef];refine⟨⟨?_,zE⟩,kn _ _ fun ex5=>?_⟩
    ·rintro row (⟨a,b,_,rfl⟩|rfl)<;>rfl
    refine⟨aQ,⟨i+1,Vv us e.it,Zm b.p en e.it (s+e.fr),s+e.fr,k,l++[(id,s)],.own k2 2,D5,sP,YQ,bx++(Qd e::(bx4++QY++ex5)),(exl++eu).set (k2-ls.length) (l.length+1),by simp[hw],zE,zd,zd,by simp[Qf],by simp[D4],zE,zE,JB,KY,.inr ⟨k2,rfl,dB,?_,zd⟩,hB4,hg,?_⟩,by simp[hw];omega⟩
    ·rw[<- bR,zzbf Bb];simp
    simp only[bR];simp[aP,aW,Qo,Qa,Qd]
 have bP:¬(i:Int)<(ids.length:Int):=zE
 rw[zzal bn,Ur]at hg;have hg:some (l++[])=T:=hg;rw[zzat]at hg;have:=VE l hg.symm rv li pm ([.aJ 0 (bG iA us)]::[.aJ 0 (bG iA en)]::bx) exl rt hB hO;simp[h39,h8,h9,jy,bP,zzbk.2 bn,mN,rV];simpa[aP,aW,Qo,Qa]using this
open Go Go.Abs
def aeM(l:Pi)(hl:l.length<=1000000000):Pure Tryz.prog aD 173 [.sl .ro (l.map Xb)] (.sl .ro (l.map Xb)):=by
 cases l with
 |nil=>
  refine sQ (Zk (?_:Pure Tryz.prog aD 173 [.sl .nil []] (.sl .nil [])) (Wk.sl _ _)) ?_
  ·refine Qp B5 (fun _ _ _=>.junk) zd ?_;simp[MS,MT]
  refine Qp B5 (fun _ _ _=>.junk) zd ?_;simp[MS,MT]
 |cons x r=>
  refine Qp B5 (fun _ _ _=>.junk) zd ?_;simp[MS,MT,Xb];simp at hl;omega
def Bh{α:Type}(c:List α)(i:Nat)(h:i<c.length):(c.take i++c.drop (i+1)).length+1=c.length:=by
 simp;omega
def Gu(ok:Pi->Bool)(c:Pi)(i:Nat):Pi:=
 if h:i<c.length then(if ok (c.take i++c.drop (i+1))=true then Gu ok c (i+1)else Gu ok (c.take i++c.drop (i+1)) i)else c
termination_by c.length-i
decreasing_by
 ·omega
 have:=Bh c i h;omega
def oq(b:Bd)(ids:Pi):Bool:=(Ur b.p ids b.us b.en b.at_ (-1)).isSome
def nO(b:Bd)(ids:Pi):Pi:=if oq b ids=true then[]else Gu (oq b) ids 0
def asU(pre post:T5)(ls:Pa)(b:Bd)(N:Nat)(T:Pi)(f:Nat->AV)(m:AM):Prop:=
 ∃(i:Nat)(c:Pi)(rv:List (Int×(Rt×List Sp)))(li:List (Int×Int))(pm:List ((Int×Int)×List Sp))(ex:T5)(exl:Pa),
  f 7=.sl .ro (c.map Xb)/\f 8=I i/\i<=c.length/\c.length<=N/\Gu (oq b) c i=T/\Bg {b with rv:=rv,li:=li,pm:=pm}/\m=aP pre {b with rv:=rv,li:=li,pm:=pm} (post++ex) (ls++exl)
def N8(ids:Pi):UV:=fun _ f l=>if f=114 then .gd false .junk else if f=173 then .sl .ro (ids.map Xb)else
 (match l with|[.sl _ [[.sl _ a],[.sl _ c]]]=>.sl .ro (a++c)|_=>.junk)
def KZ(pre post:T5)(ls:Pa)(b:Bd)(ids:Pi)(rt0:Rt)(h85:∀m,Abs.Pure Tryz.prog aD 173 [bz m 6 (.sl rt0 (ids.map Xb))] (.sl .ro (ids.map Xb)))(N:Int)(hN:0<=N/\N<=100000000)(asS:ids.length<=100000000)
  (hc:b.p.cls.length<=1000000)(fu:b.p.sh.length<=1000000000)(cT:b.p.aM.length<=1000000000)(Io:b.p.ens.length<=1000000000)(FL:(Yy b.p).length<=1000000000)(dG:b.p.ln<=9223372036854775807)(Sv:∀e∈b.p.ens,e.ea<=9223372036854775807)
  (Ig:b.at_<=9223372036854775807)(hus:pP N b.us)(aeK:ua b.en)(ei:Bg b)(Y:YT)(K:So)
  (hK:∀rv li pm ex exl,Bg {b with rv:=rv,li:=li,pm:=pm}->K (.sl (if oq b ids=true then .nil else .ro) ((nO b ids).map Xb)) (aP pre {b with rv:=rv,li:=li,pm:=pm} (post++ex) (ls++exl))):
  aB Tryz.prog aD Y 115 [.ptr (pre.length+9) 0,.sl rt0 (ids.map Xb)] (aP pre b post ls) K:=by
 refine Xn abO (N8 ids) zd ?_;simp[Tq,aP,aW,Qo,Qa,N8];have k42:=fun K'=>Qej pre post ls b ids rt0 N hN asS hc fu cT Io FL dG Sv Ig hus aeK ei Y K';simp only[aP,aW,Qo,Qa]at k42;refine k42 _ (fun h0 rv li pm ex exl hB=>?_) (fun l h1 rv li pm ex exl rt hB hO=>?_)
 ·have bU:oq b ids=false:=by simp[oq,h0]
  simp[N8];refine⟨h85 _,?_⟩;refine Qk vf (asU pre post ls b ids.length (nO b ids)) (fun f _=>(match f 7 with|.sl _ c=>c.length|_=>0)-(numOf (f 8)).toNat) ?_ ?_
  ·exact⟨0,ids,rv,li,pm,ex,exl,zd,zd,zE,zE,by simp[nO,bU],hB,by simp[aP,aW,Qo,Qa]⟩
  rintro f m ⟨i,c,rv,li,pm,ex,exl,h7,h8,hi,qj,hT,hB,rfl⟩;rcases zzaa i c.length with ai|bn
  ·have aa:(i:Int)<(c.length:Int):=zE
   have hw:=bO i zE;simp[h7,h8,ai,aa,vf,aP,aW,Qo,Qa,N8,hw];have eA:List.take i (List.map Xb c)=(c.take i).map Xb:=zd
   have eB:List.take (c.length-(i+1)) (List.drop (i+1) (List.map Xb c))=(c.drop (i+1)).map Xb:=by
    rw[zzas zd];simp
   rw[eA,eB,<- zzch];have k86:=YB [(.ro,c.take i),(.ro,c.drop (i+1))] zd zd (by simp;omega);have FI:=Bh c i ai;rw[Gu,dif_pos ai]at hT;have fB:(List.map (fun x:Rt×Pi=>x.2) [(Rt.ro,c.take i),(Rt.ro,c.drop (i+1))]).flatten=c.take i++c.drop (i+1):=zd
   rw[fB]at k86;obtain⟨o,ho⟩:∃o,c.take i++c.drop (i+1)=o:=⟨_,rfl⟩;rw[ho]at k86 FI hT |-
   refine⟨⟨zE,fun _ _=>rfl⟩,⟨zE,fun _ _=>rfl⟩,k86,?_⟩;have k42:=fun K'=>Qej pre (post++ex) (ls++exl) {b with rv:=rv,li:=li,pm:=pm} o .ro N hN zE hc fu cT Io FL dG Sv Ig hus aeK hB Y K';simp only[aP,aW,Qo,Qa]at k42;refine k42 _ (fun h0 rv2 sP N1 gG ami A2=>?_) (fun l h1 rv2 sP N1 gG ami rt A2 hO=>?_)
   ·have bU:oq b o=false:=by simp only[oq];rw[h0];rfl
    rw[bU]at hT;have hT:Gu (oq b) o i=nO b ids:=hT;simp[h7,h8,vf];refine⟨aQ,⟨i,o,rv2,sP,N1,ex++gG,exl++ami,zd,by simp[h8],zE,zE,hT,A2,by simp[aP,aW,Qo,Qa]⟩,?_⟩
    ·rw[zzfm (zzgs ai),zzdv];exact Nat.sub_lt_sub_left ai (zzez i)
   have bU:oq b o=true:=by simp only[oq];rw[h1];rfl
   rw[bU]at hT;have hT:Gu (oq b) c (i+1)=nO b ids:=hT;simp[h7,h8,vf,hw];refine⟨aQ,⟨i+1,c,rv2,sP,N1,ex++gG,exl++ami,by simp[h7],zd,zE,zE,hT,A2,by simp[aP,aW,Qo,Qa]⟩,zE⟩
  have bP:¬(i:Int)<(c.length:Int):=zE
  rw[Gu,dif_neg zE]at hT;have:=hK rv li pm ex exl hB;rw[<- hT,bU,if_neg zd]at this;simp[h7,h8,bP,zzbk.2 bn,vf,Tr];simpa[aP,aW,Qo,Qa]using this
 have bU:oq b ids=true:=by simp[oq,h1]
 have:=hK rv li pm ex exl hB;rw[bU,if_pos rfl]at this;simp[Tr];simpa[aP,aW,Qo,Qa,nO,bU]using this
open Go Go.Abs
def Ue(p:Pl):Pi:=p.ens.map fun e=>e.id
def Iv(p:Pl):Bd:=⟨p,0,[],[],[],[],[]⟩
def Iw(l:List Sp):AV:=if l=[]then .sl .nil []else .sl .ro (l.map Qf)
def QZ(p:Pl):AV:=if iG p=false then .aS [.sl .nil [],.sl .nil [],I 80]else match Ur p (Ue p) [] [] 0 (-1)with
 |some l=>.aS [Iw l,.sl .nil [],I 0]
 |none=>.aS [.sl .nil [],.sl .ro ((nO (Iv p) (Ue p)).map Xb),I 90]
def mC(p:Pl):UV:=fun _ f _=>if f=999999 then .junk else if f=95 then .bool (iG p)else .gd false .junk
def asV(p:Pl)(f:Nat->AV)(m:AM):Prop:=∃(i:Nat)(rt:Rt)(ls:Pa)(bx:T5),f 17=I i/\i<=p.ens.length/\f 5=.sl rt ((Ue p).take i |>.map Xb)/\Dh 1 0 ls rt ((Ue p).take i)/\m=⟨Qa p::bx,ls,fun _=>.gone,0⟩
def pR:∀(l:List It)(a:List (Int×It))(s:List (Int×Int)),(zW l a s).length<=s.length+l.length
 |[],a,s=>by simp[zW]
 |x::r,a,s=>by
  rw[zW];cases af x.id a with
  |some _=>
   have:=pR r a s;simp only[zzbg];omega
  |none=>
   have h:=pR r (Vh x.id x a) (if 1<=x.sp/\x.sp<=200 then Vh x.sp x.id s else s)
   have h2:(if 1<=x.sp/\x.sp<=200 then Vh x.sp x.id s else s).length<=s.length+1:=by
    split
    ·exact Gv _ _ _
    omega
   simp only[zzbg];omega
def amj(p:Pl):Bg (Iv p):=⟨fun _ _ h=>(by cases h),fun _ _ h=>(by cases h),fun _ _ h=>(by cases h)⟩
def Q0(p:Pl)(hs:PlS p)(hc:p.cls.length<=1000000)(Io:p.ens.length<=10000000)(dG:p.ln<=9223372036854775807)(Sv:∀e∈p.ens,e.ea<=9223372036854775807):Pure Tryz.prog aD 65 [.agg (Qa p)] (QZ p):=by
 have k22:=Wu p hs;obtain⟨l1,l2,l3,l4,l5,l6⟩:=hs
 have FL:(Yy p).length<=1000000000:=by
  have:=pR p.aM [] [];simp only[Yy]at*
  simp at this;omega
 refine Qp aj5 (mC p) zd ?_;cases hv:iG p with
 |false=>
  rw[hv]at k22;have:QZ p=.aS [.sl .nil [],.sl .nil [],I 80]:=by rw[QZ,if_pos hv]
  rw[this];simp[aj4,S5,Qa,mC,hv];simpa[Qa]using k22
 |true=>
  rw[hv]at k22;simp[aj4,Qa,mC,hv];refine⟨by simpa[Qa]using k22,?_⟩;refine Qk Mr (asV p) (fun f _=>p.ens.length-(numOf (f 17)).toNat) ?_ ?_
  ·exact⟨0,.nil,[],[],zd,zE,zd,.inl ⟨zd,rfl⟩,by simp[Qa]⟩
  rintro f m ⟨i,rt,ls,bx,h17,hi,h5,hO,rfl⟩;rcases zzaa i p.ens.length with ai|bn
  ·obtain⟨e,he⟩:=aV ai;have ah:=Qdg he;have aa:(i:Int)<(p.ens.length:Int):=zE
   have hw:=bO i zE;have bA:(Ue p).take (i+1)=(Ue p).take i++[e.id]:=by rw[zzax];simp[Ue,he]
   have lZ:((Ue p).take i).length=i:=by simp[Ue];omega
   obtain⟨S,hS⟩:∃S,(Ue p).take i=S:=⟨_,rfl⟩;rw[hS]at h5 hO bA lZ;obtain⟨rfl,rfl⟩|⟨k,rfl,dB,ef,Bb⟩:=hO
   ·simp[h17,h5,ai,aa,ah,Qd,Qa,mC,Mr,hw];refine⟨aQ,⟨i+1,.own ls.length 1,ls++[1],bx++[Qd e],zd,zE,by rw[bA];simp[Xb],.inr ⟨_,rfl,zE,by rw[bA];simp,by rw[bA];simp⟩,by simp[Qa,Qd]⟩,zE⟩
   have NU:=(zza.1 ef).1;simp[h17,h5,ai,aa,ah,Qd,Qa,mC,Mr,hw,ef];refine⟨⟨?_,zE⟩,aQ,⟨i+1,.own k 1,ls.set k (S.length+1),bx++[Qd e],zd,zE,by rw[bA];simp[Xb],.inr ⟨_,rfl,zE,by rw[bA];simp[NU],by rw[bA];simp⟩,by simp[Qa,Qd]⟩,zE⟩
   ·rintro row (⟨a,_,rfl⟩|rfl)<;>rfl
  have bP:¬(i:Int)<(p.ens.length:Int):=zE
  have lZ:(Ue p).take i=Ue p:=zzas (by simp[Ue];omega);rw[lZ]at h5 hO;have aL:(Ue p).length<=10000000:=by simp[Ue];omega
  have k41:=fun K'=>xN (Qa p::bx) ls p 0 [] .nil zE l2 zd Y0 K';simp only[Qa,zzcr]at k41;simp[h17,h5,bP,zzbk.2 bn,Mr,Qa,mC];refine k41 _ fun ex=>?_;clear k41
  have h85:∀m,Abs.Pure Tryz.prog aD 173 [bz m 6 (.sl rt ((Ue p).map Xb))] (.sl .ro ((Ue p).map Xb)):=fun m=>by
   have kc:=aeM (Ue p) zE;obtain⟨h1,rfl⟩|⟨k,rfl,_⟩:=hO
   ·exact Xw kc ⟨Wk.sl _ _,trivial⟩
   exact kc
  simp[mC];refine Qej (Qa p::bx) ex ls (Iv p) (Ue p) rt 0 zE zE hc l1 l2 l3 FL dG Sv (by simp[Iv]) (fun _ _ h=>(by cases h)) (fun _ _ h=>(by cases h)) (amj p) Y0 _ (fun h0 rv li pm gG exl hB=>?_) (fun l h1 rv li pm gG exl Sb hB F4=>?_)
  ·have h0:Ur p (Ue p) [] [] 0 (-1)=none:=h0;have hr:QZ p=.aS [.sl .nil [],.sl .ro ((nO (Iv p) (Ue p)).map Xb),I 90]:=by rw[QZ,if_neg (by simp[hv]),h0]
   have bU:oq (Iv p) (Ue p)=false:=by show(Ur p (Ue p) [] [] 0 (-1)).isSome=false;rw[h0];rfl
   rw[hr];simp[mC];refine KZ (Qa p::bx) (ex++gG) (ls++exl) {Iv p with rv:=rv,li:=li,pm:=pm} (Ue p) rt h85 0 zE zE hc l1 l2 l3 FL dG Sv (by simp[Iv]) (fun _ _ h=>(by cases h)) (fun _ _ h=>(by cases h)) hB Y0 _ (fun D5 li3 pm3 Dk eu Sj=>?_);have axu:oq {Iv p with rv:=rv,li:=li,pm:=pm} (Ue p)=false:=bU;have fA:nO {Iv p with rv:=rv,li:=li,pm:=pm} (Ue p)=nO (Iv p) (Ue p):=rfl;rw[axu,fA,if_neg zd];simp[S5]
  have h1:Ur p (Ue p) [] [] 0 (-1)=some l:=h1;have hr:QZ p=.aS [Iw l,.sl .nil [],I 0]:=by rw[QZ,if_neg (by simp[hv]),h1]
  rw[hr];obtain⟨rfl,rfl⟩|⟨k2,rfl,_,_,aN⟩:=F4
  ·simp[mC,S5,Iw]
  simp[mC,S5,Iw,aN]
