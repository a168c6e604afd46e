import Derived.Test.YtnopaopphmjnmaaGreatDoorMQMS
set_option linter.all false
set_option maxRecDepth 100000
set_option maxHeartbeats 64000000
namespace Go.Proofs.YtnopaopphmjnmaaGreatDoor
open Go Go.Abs
def Hi{l:List Nat}{n:Nat}(h:l.Nodup)(hb:∀i∈l,i<n):l.length<=n:=by
 have hp:l.Perm ((List.range n).filter fun i=>decide (i∈l)):=by
  rw[zzgo h (zzdl.filter _)];intro i;simp only[zzcg,zzbb,decide_eq_true_eq];exact⟨fun hi=>⟨hb i hi,hi⟩,fun hi=>hi.2⟩
 rw[hp.length_eq];refine zzbg (zzbs _ _) ?_;simp
def Po(id:Nat)(m:AM):Nat:=match Qh m.boxes id with
 |[.mitr _ _ s]=>s.length
 |_=>0
def agh{α:Type}{row:α->AV}{L:List (Int×α)}{i:Nat}{k:List Int}{c:AV}(h:(bH row L)[i]?=some (k,c)):∃o x,L[i]?=some (o,x)/\k=[o]/\c=row x/\(bH row L).getD i ([],.junk)=([o],row x)/\i<L.length:=by
 have hg:(bH row L).getD i ([],.junk)=(k,c):=by rw[zzar,h];rfl
 rw[bH,zzbi]at h;cases hL:L[i]? with
 |none=>rw[hL]at h;cases h
 |some y=>
  rw[hL]at h;cases h;exact⟨y.1,y.2,rfl,rfl,rfl,hg,(zza.1 hL).1⟩
def Mg(p:Pl)(it:Int)(L:List (Int×Int))(o x:Int):yf p it (L++[(o,x)])=if 0<Kl p x it then yf p it L++[(o,Kl p x it)]else yf p it L:=by
 unfold yf;rw[List.filterMap_append];by_cases h:0<Kl p x it
 ·rw[if_pos h];simp[h]
 rw[if_neg h];simp[h]
def Hj{m:AM}{K:AV->AM->Prop}{id mid n kn:Nat}{seen:List Nat}{kvs:List (List Int×AV)}(h1:Qh m.boxes id=[.mitr mid n seen])(h2:Qh m.boxes mid=[.aL kn kvs])(h:kvs.length=n)
  (hs:∀i k c,kvs[i]?=some (k,c)->i ∉ seen->K (.aZ [.bool true,keyAV kn k,c]) {m with boxes:=m.boxes.set id [.mitr mid n (seen++[i])]})(he:(∀i,i<n->i∈seen)->K (.aZ [.bool false]) m):vcNxt m K (.it id):=by
 simp only[vcNxt,Vp,h1,h2];exact⟨h,hs,he⟩
def Pp(p:Pl)(it:Int):Nat->FuncId->List AV->AV:=fun _ f l=>if f=274 then(match l with|[_,.int _ x,_]=>I (Kl p x it)|_=>.junk)else .junk
def atI(pre:List (List AV))(b:Bd)(post:List (List AV))(ls:List Nat)(it:Int)(f:Nat->AV)(m:AM):Prop:=∃(seen:List Nat)(l:List Sp)(rt:Rt)(exl:List Nat),
 seen.Nodup/\(∀i∈seen,i<(Uf b.p).length)/\l=yf b.p it (atL (0,0) (Uf b.p) seen)/\f 8=.sl rt (l.map Qf)/\(l=[]/\rt=.nil/\exl=[]\/l≠[]/\rt=.own ls.length 2/\exl=[l.length])/\
 m=aR pre b (post++[[.mitr (pre.length+3) (Uf b.p).length seen]]) (ls++exl)
def Hl(pre post:List (List AV))(ls:List Nat)(b:Bd)(it:Int)(hc:b.p.cls.length<=1000000000)(cp:b.p.aN.length<=1000000000)(mR:(Uf b.p).length<=1000000000)(JU:af4 b)(Y:YT)(K:AV->AM->Prop)
  (hK:∀(rv:List (Int×(Rt×List Sp)))(ex:List (List AV))(exl:List Nat)(rt:Rt)(l:List Sp),af4 {b with rv:=rv}->l.Perm (Wh b.p it)->K (.sl rt (l.map Qf)) (aR pre {b with rv:=rv} (post++ex) (ls++exl))):
  an Tryz.prog aA Y 200 [.ptr (pre.length+9) 0,I it] (aR pre b post ls) K:=by
 have nil:Wh b.p it=[]->K (.sl .nil []) (aR pre b post ls):=fun h=>by
  have:=hK b.rv [] [] .nil [] JU (by rw[h]);simpa using this
 refine Xd adV (Pp b.p it) zd ?_
 have ayi:∃r,Xl [it] (bH rT (Ag b.p)) 0=r/\((∃n y,Xh it b.p.aN=some y/\r=some (n,rT y))\/(Xh it b.p.aN=none/\r=none)):=by
  rcases Xq rT it (Ag b.p) 0 with⟨h1,h2,_,_⟩|⟨u,n,h1,h2,_⟩
  ·rw[u5]at h1;exact⟨_,rfl,.inr ⟨h1,h2⟩⟩
  rw[u5]at h1;exact⟨_,rfl,.inl ⟨_,u,h1,h2⟩⟩
 obtain⟨r,hr,Sk⟩:=ayi;obtain⟨n,y,hf,rfl⟩|⟨hf,rfl⟩:=Sk
 ·rcases Xq iA y.sp (Uf b.p) 0 with⟨s1,s2,_,_⟩|⟨su,sn,s1,s2,_⟩
  ·simp[AG,Fj,aR,aY,Qq,Qa,hr,rT,Qn,s2];exact nil (by simp[Wh,hf,s1])
  have hrl:Wh b.p it=yf b.p it (Uf b.p):=by simp[Wh,hf,s1,yf]
  rcases Xq rvA y.sp b.rv 0 with⟨m1,m2,_,m4⟩|⟨mu,mn,m1,m2,_⟩
  ·simp[AG,aR,aY,Qq,Qa,hr,rT,Qn,s2,m2];refine Qk vL (atI pre b post ls it) (fun _ m=>(Uf b.p).length-Po (pre.length+(post.length+10)) m) ?_ ?_
   ·exact⟨[],[],.nil,[],List.nodup_nil,zd,rfl,zd,.inl ⟨rfl,rfl,rfl⟩,by simp[aR,aY,Qq,Qa]⟩
   rintro f m ⟨seen,l,rt,exl,hn,hb,hl,h8,aT,rfl⟩;have qA:seen.length<=(Uf b.p).length:=Hi hn hb;simp[-vcNxt,aR,aY,Qq,Qa,vL];refine Hj (mid:=pre.length+3) (n:=(Uf b.p).length) (kn:=0) (seen:=seen) (kvs:=bH iA (Uf b.p)) ?_ ?_ ?_ (fun i k c hi hns=>?_) fun bF=>?_
   ·simp
   ·simp
   ·simp
   ·obtain⟨o,x,hx,rfl,rfl,XH,ai⟩:=agh hi
    have bz:(bH iA (Uf b.p))[i]'(by simpa using ai)=([o],iA x):=by
     have:=zza.1 hi;exact this.2
    have anV:=anS b.p x it hc cp;have qB:(seen++[i]).Nodup:=List.nodup_append.2 ⟨hn,zd,fun a ha c hc=>by simp at hc;subst hc;rintro rfl;exact hns ha⟩
    have cO:∀j∈seen++[i],j<(Uf b.p).length:=fun j hj=>by
     rcases zzam.1 hj with h|h
     ·exact hb j h
     simp at h;subst h;exact ai
    have cw:seen.length+1<=(Uf b.p).length:=by simpa using Hi qB cO
    have hxo:(Uf b.p).getD i (0,0)=(o,x):=by rw[zzar,hx];rfl
    have TV:atL (0,0) (Uf b.p) (seen++[i])=atL (0,0) (Uf b.p) seen++[(o,x)]:=by
     simp only[atL,zzca,zzay,zzcc,hxo]
    have C8:=Mg b.p it (atL (0,0) (Uf b.p) seen) o x;rw[<- TV,<- hl]at C8;by_cases hg:0<Kl b.p x it
    ·rw[if_pos hg]at C8
     have w8:l.length<=(Uf b.p).length:=by
      rw[hl];refine zzbg (zzh _ _) ?_;simp only[atL,zzbj];exact qA
     obtain⟨rfl,rfl,rfl⟩|⟨kW,rfl,rfl⟩:=aT
     ·simp[keyAV,hi,bz,ai,Pp,hg,h8,vL,Po];refine⟨by simpa[Qa]using anV,aP,⟨seen++[i],_,_,[1],qB,cO,rfl,by simp[C8,Qf],.inr ⟨by simp[C8],rfl,by simp[C8]⟩,by simp[aR,aY,Qq,Qa]⟩,zE⟩
     simp[keyAV,hi,bz,ai,Pp,hg,h8,vL,Po];refine⟨by simpa[Qa]using anV,⟨?_,zE⟩,aP,⟨seen++[i],_,_,[l.length+1],qB,cO,rfl,by simp[C8,Qf],.inr ⟨by simp[C8],rfl,by simp[C8]⟩,by simp[aR,aY,Qq,Qa]⟩,zE⟩
     ·rintro row (⟨a,b,_,rfl⟩|rfl)<;>rfl
    rw[if_neg hg]at C8;simp[keyAV,hi,bz,ai,Pp,hg,h8,vL,Po];refine⟨by simpa[Qa]using anV,aP,⟨seen++[i],l,rt,exl,qB,cO,C8.symm,by simp[h8],aT,by simp[aR,aY,Qq,Qa]⟩,zE⟩
   have hpm:l.Perm (Wh b.p it):=by
    rw[hl,hrl];exact(af5 _ _ _ hn bF hb).filterMap _
   have ayj:af4 {b with rv:=Zr y.sp (rt,l) b.rv}:=fun k x h it' y' hf' cU=>by
    rw[Yf]at h;split at h
    ·rename_i e;cases h;rw[af7 hf' hf (by rw[cU,e])];exact hpm
    exact JU k x h it' y' hf' cU
   have:=hK _ [[.mitr (pre.length+3) (Uf b.p).length seen]] exl rt l ayj hpm;have m4':bH rvA b.rv++[([y.sp],.sl rt (l.map Qf))]=bH rvA (Zr y.sp (rt,l) b.rv):=m4 (rt,l);simp[h8,m2,Fj];rw[m4'];simpa[aR,aY,Qq,Qa]using this
  simp[AG,Fj,aR,aY,Qq,Qa,hr,rT,Qn,s2,m2,rvA];have:=hK b.rv [] [] mu.1 mu.2 JU (JU _ _ m1 it y hf rfl);simpa[aR,aY,Qq,Qa]using this
 have s2:Xl [0] (bH iA (Uf b.p)) 0=none:=by
  rcases Xq iA 0 (Uf b.p) 0 with⟨_,s2,_,_⟩|⟨su,sn,s1,_⟩
  ·exact s2
  rw[Uf,yg _ _ _ rfl]at s1;cases s1
 simp[AG,Fj,aR,aY,Qq,Qa,hr,s2];exact nil (by simp[Wh,hf])
open Go Go.Abs
def Ai(pre:List (List AV))(p:Pl)(at_:Int)(pl:List (Int×Int))(im:List (Int×It))(sp:List (Int×Int))(post:List (List AV))(ls:List Nat):AM:=
 ⟨pre++(Qa p::[.aL 0 (bH iA pl)]::[.aL 0 (bH rT im)]::[.aL 0 (bH iA sp)]::[.aL 0 []]::[.aL 0 []]::[.aL 0 []]::[.aL 0 []]::[.aL 2 []]::Qq pre.length ⟨p,at_,[],[],[],[],[]⟩::post),ls,fun _=>.gone,0⟩
def ayk(pre:List (List AV))(p:Pl)(at_:Int)(ls:List Nat)(f:Nat->AV)(m:AM):Prop:=∃(i:Nat)(pl:List (Int×Int))(post:List (List AV)),f 36=I i/\i<=p.ens.length/\G5 (p.ens.drop i) i pl=DM p/\m=Ai pre p at_ pl [] [] post ls
def ayl(pre:List (List AV))(p:Pl)(at_:Int)(ls:List Nat)(f:Nat->AV)(m:AM):Prop:=∃(i:Nat)(im:List (Int×It))(sp:List (Int×Int))(post:List (List AV)),f 67=I i/\i<=p.aN.length/\L8 (p.aN.drop i) im=Ag p/\Af (p.aN.drop i) im sp=Uf p/\m=Ai pre p at_ (DM p) im sp post ls
def aym(pre:List (List AV))(p:Pl)(at_:Int)(past:List Ad)(ls:List Nat)(f:Nat->AV)(m:AM):Prop:=∃(i:Nat)(us en:List (Int×Int))(post:List (List AV)),f 108=I i/\i<=past.length/\qc i us/\Pd (past.drop i) us=Pd past []/\Pe p (past.drop i) en=Pe p past []/\m=aR pre ⟨p,at_,us,en,[],[],[]⟩ post ls
def JV:Nat->FuncId->List AV->AV:=fun _ f _=>if f=999999 then .junk else .gd false .junk
def yj(pre:List (List AV))(ls:List Nat)(p:Pl)(at_:Int)(past:List Ad)(rtp:Rt)(JR:p.ens.length<=1000000000)(cp:p.aN.length<=1000000000)(jh:past.length<=1000000000)(Y:YT)(K:AV->AM->Prop)
  (hK:∀ex,K (.ptr (pre.length+9) 0) (aR pre ⟨p,at_,Pd past [],Pe p past [],[],[],[]⟩ ex ls)):
  an Tryz.prog aA Y 121 [.agg (Qa p),I at_,.sl rtp (past.map Vl)] ⟨pre,ls,fun _=>.gone,0⟩ K:=by
 refine Xd ac8 JV zd ?_;simp[E5,Qa,JV];refine Qk Cq (ayk pre p at_ ls) (fun f _=>p.ens.length-(numOf (f 36)).toNat) ?_ ?_
 ·exact⟨0,[],[],zd,zE,rfl,by simp[Ai,Qq,Qa]⟩
 rintro f m ⟨i,pl,post,h36,hi,gM,rfl⟩;rcases zzaa i p.ens.length with ai|bz
 ·obtain⟨e,he⟩:=aU ai;have ah:=Qdl he;have aa:(i:Int)<(p.ens.length:Int):=zE
  have hw:=bM i zE;rw[Zd he,G5]at gM;rcases Xq iA e.id pl 0 with⟨h1,h2,_,h4⟩|⟨u,n,h1,h2,_⟩
  ·rw[h1]at gM;have JT:bH iA pl++[([e.id],I i)]=bH iA (Zr e.id (i:Int) pl):=h4 _;simp[h36,ai,aa,ah,Qd,Ai,Qq,Qa,h2,Cq,hw];refine⟨aP,⟨i+1,_,post++[Qd e],zd,zE,gM,?_⟩,zE⟩
   ·rw[JT];simp[Ai,Qq,Qa,Qd]
  rw[h1]at gM;simp[h36,ai,aa,ah,Qd,Ai,Qq,Qa,h2,Cq,hw];refine⟨aP,⟨i+1,pl,post++[Qd e],zd,zE,gM,by simp[Ai,Qq,Qa,Qd]⟩,zE⟩
 have bL:¬(i:Int)<(p.ens.length:Int):=zE
 rw[zzan bz,G5]at gM;subst gM;simp[h36,bL,zzbo.2 bz,Cq,Ai,Qq,Qa,JV];refine Qk iX (ayl pre p at_ ls) (fun f _=>p.aN.length-(numOf (f 67)).toNat) ?_ ?_
 ·exact⟨0,[],[],post,zd,zE,rfl,rfl,by simp[Ai,Qq,Qa]⟩
 clear bz bL hi h36;rintro g m ⟨i,im,sp,post,h67,hi,Sv,cU,rfl⟩;rcases zzaa i p.aN.length with ai|bz
 ·obtain⟨x,hx⟩:=aU ai;have ah:Qh (p.aN.map Qn) i=Qn x:=Qt (by simp[hx]);have aa:(i:Int)<(p.aN.length:Int):=zE
  have hw:=bM i zE;rw[Zd hx,L8]at Sv;rw[Zd hx,Af]at cU;simp[h67,ai,aa,ah,Qn,Ai,Qq,Qa,iX,hw,JV];refine Ze ?_;rcases Xq rT x.id im 0 with⟨h1,h2,_,h4⟩|⟨u,n,h1,h2,_⟩
  ·rw[h1]at Sv cU;have JT:bH rT im++[([x.id],.agg [I x.id,I x.ki,I x.fr,I x.sp,I x.ra])]=bH rT (Zr x.id x im):=h4 x;simp only at Sv cU;by_cases s1:1<=x.sp
   ·by_cases s2:x.sp<=200
    ·rw[if_pos ⟨s1,s2⟩]at cU;rcases Xq iA x.sp sp 0 with⟨_,q2,_,q4⟩|⟨u,n,_,q2,_,_,_,q4⟩
     ·have q4':bH iA sp++[([x.sp],I x.id)]=bH iA (Zr x.sp x.id sp):=q4 _;simp[h67,ai,aa,ah,Qn,Ai,Qq,Qa,iX,hw,JV,h2,s1,s2,q2];refine⟨aP,⟨i+1,Zr x.id x im,Zr x.sp x.id sp,post++[Qn x,[I 0,I 0,I 0,I 0,I 0]],zd,zE,Sv,cU,?_⟩,zE⟩
      ·rw[JT,q4'];simp[Ai,Qq,Qa,Qn]
     have q4':(bH iA sp).set n ([x.sp],I x.id)=bH iA (Zr x.sp x.id sp):=q4 _;rw[zzbw]at q2;simp[h67,ai,aa,ah,Qn,Ai,Qq,Qa,iX,hw,JV,h2,s1,s2,q2];refine⟨aP,⟨i+1,Zr x.id x im,Zr x.sp x.id sp,post++[Qn x,[I 0,I 0,I 0,I 0,I 0]],zd,zE,Sv,cU,?_⟩,zE⟩
     ·rw[JT,q4'];simp[Ai,Qq,Qa,Qn]
    rw[if_neg (fun h=>s2 h.2)]at cU;simp[h67,ai,aa,ah,Qn,Ai,Qq,Qa,iX,hw,JV,h2,s1,s2];refine⟨aP,⟨i+1,Zr x.id x im,sp,post++[Qn x,[I 0,I 0,I 0,I 0,I 0]],zd,zE,Sv,cU,?_⟩,zE⟩
    ·rw[JT];simp[Ai,Qq,Qa,Qn]
   rw[if_neg (fun h=>s1 h.1)]at cU;simp[h67,ai,aa,ah,Qn,Ai,Qq,Qa,iX,hw,JV,h2,s1];refine⟨aP,⟨i+1,Zr x.id x im,sp,post++[Qn x,[I 0,I 0,I 0,I 0,I 0]],zd,zE,Sv,cU,?_⟩,zE⟩
   ·rw[JT];simp[Ai,Qq,Qa,Qn]
  rw[h1]at Sv cU;simp[h67,ai,aa,ah,Qn,Ai,Qq,Qa,iX,hw,JV,h2,rT];refine⟨aP,⟨i+1,im,sp,post++[Qn x,Qn u],zd,zE,Sv,cU,by simp[Ai,Qq,Qa,Qn]⟩,zE⟩
 have bL:¬(i:Int)<(p.aN.length:Int):=zE
 rw[zzan bz]at Sv cU;have Sv:im=Ag p:=Sv;have cU:sp=Uf p:=cU;subst Sv;subst cU;simp[h67,bL,zzbo.2 bz,iX,Ai,Qq,Qa,JV];refine Qk gF (aym pre p at_ past ls) (fun f _=>past.length-(numOf (f 108)).toNat) ?_ ?_
 ·exact⟨0,[],[],post,zd,zE,fun k v h=>(by cases h),rfl,rfl,by simp[aR,aY,Qq,Qa,UC]⟩
 clear bz bL hi h67;rintro h m ⟨i,us,en,post,h108,hi,hus,hu,he,rfl⟩;rcases zzaa i past.length with ai|bz
 ·obtain⟨a,ha⟩:=aU ai;have ah:Qh (past.map Vl) i=Vl a:=Qt (by simp[ha]);have aa:(i:Int)<(past.length:Int):=zE
  have hw:=bM i zE;rw[Zd ha,Pd]at hu;rw[Zd ha,Pe]at he;have aam:qc (i+1:Nat) us:=fun k v h=>by have:=hus k v h;omega
  have skip:rR a=false->Pd (past.drop (i+1)) us=Pd past []/\Pe p (past.drop (i+1)) en=Pe p past []:=fun h=>by
   rw[h]at hu he;exact⟨hu,he⟩
  by_cases c1:a.re=0
  ·by_cases c2:0<=a.fr
   ·by_cases c3:a.fr<=100000000
    ·by_cases c4:1<=a.fs
     ·by_cases c5:a.fs<=100000000
      ·have hc:rR a=true:=by simp[rR];omega
       rw[hc]at hu he;simp only[if_true]at hu he;have hwa:IntKind.i64.wrap (a.fr+a.fs)=a.fr+a.fs:=by rw[Qj]<;>omega
       simp[h108,ai,aa,ah,Vl,aR,aY,Qq,Qa,gF,hw,JV,c1,c2,c3,c4,c5,hwa];have kn:=agf pre (post++[Vl a]) ls ⟨p,at_,us,en,[],[],[]⟩ us en a.it (a.fr+a.fs) (fun k v h=>by have:=hus k v h;omega) Y;simp only[aR,aY,Qq,Qa,Vl,c1]at kn;refine kn _ fun ex=>?_;simp[h108,gF,hw];refine⟨aP,⟨i+1,Vu us a.it,Zt p en a.it (a.fr+a.fs),post++[[I a.it,I 0,I a.fr,I a.fs]]++ex,zd,zE,?_,hu,he,by simp[aR,aY,Qq,Qa]⟩,zE⟩
       ·have:=hus.note zE a.it;exact this
      obtain⟨hu,he⟩:=skip (by simp[rR];omega);simp[h108,ai,aa,ah,Vl,aR,aY,Qq,Qa,gF,hw,JV,c1,c2,c3,c4,c5];refine⟨aP,⟨i+1,us,en,post++[[I a.it,I 0,I a.fr,I a.fs]],zd,zE,aam,hu,he,by simp[aR,aY,Qq,Qa]⟩,zE⟩
     obtain⟨hu,he⟩:=skip (by simp[rR];omega);simp[h108,ai,aa,ah,Vl,aR,aY,Qq,Qa,gF,hw,JV,c1,c2,c3,c4];refine⟨aP,⟨i+1,us,en,post++[[I a.it,I 0,I a.fr,I a.fs]],zd,zE,aam,hu,he,by simp[aR,aY,Qq,Qa]⟩,zE⟩
    obtain⟨hu,he⟩:=skip (by simp[rR];omega);simp[h108,ai,aa,ah,Vl,aR,aY,Qq,Qa,gF,hw,JV,c1,c2,c3];refine⟨aP,⟨i+1,us,en,post++[[I a.it,I 0,I a.fr,I a.fs]],zd,zE,aam,hu,he,by simp[aR,aY,Qq,Qa]⟩,zE⟩
   obtain⟨hu,he⟩:=skip (by simp[rR];omega);simp[h108,ai,aa,ah,Vl,aR,aY,Qq,Qa,gF,hw,JV,c1,c2];refine⟨aP,⟨i+1,us,en,post++[[I a.it,I 0,I a.fr,I a.fs]],zd,zE,aam,hu,he,by simp[aR,aY,Qq,Qa]⟩,zE⟩
  obtain⟨hu,he⟩:=skip (by simp[rR,c1]);simp[h108,ai,aa,ah,Vl,aR,aY,Qq,Qa,gF,hw,JV,c1];refine⟨aP,⟨i+1,us,en,post++[[I a.it,I a.re,I a.fr,I a.fs]],zd,zE,aam,hu,he,by simp[aR,aY,Qq,Qa]⟩,zE⟩
 have bL:¬(i:Int)<(past.length:Int):=zE
 rw[zzan bz]at hu he;have hu:us=Pd past []:=hu;have he:en=Pe p past []:=he;subst hu;subst he;simp[h108,bL,zzbo.2 bz,gF,ah6];simpa[aR,aY,Qq,Qa,UC]using hK post
open Go Go.Abs
def BG(b:Bd):Prop:=anT b/\af4 b/\Mc b
def DQ{α:Type}(sz:Nat)(lo:Nat)(ls:List Nat)(rt:Rt)(l:List α):Prop:=(l=[]/\rt=.nil)\/∃k,rt=.own k sz/\lo<=k/\ls[k]?=some l.length/\l≠[]
def DQ.app{α:Type}{sz lo:Nat}{ls exl:List Nat}{rt:Rt}{l:List α}(h:DQ sz lo ls rt l):DQ sz lo (ls++exl) rt l:=by
 obtain h|⟨k,h1,h2,h3,h4⟩:=h
 ·exact .inl h
 exact .inr ⟨k,h1,h2,by rw[zzag (zza.1 h3).1];exact h3,h4⟩
def agi(p:Pl)(a b:Int):0<=Kl p a b/\Kl p a b<=6000000000:=by
 unfold Kl;cases Xh a p.aN with
 |none=>simp
 |some x=>
  cases Xh b p.aN with
  |none=>simp
  |some y=>
   simp only;split
   ·omega
   rename_i h;simp only[not_or]at h;have hv:Vh p.nu p.de=true:=by simpa using h.2.1
   obtain⟨v1,v2,v3,v4,v5⟩:=Ka hv;have hg:=Ph x.sp y.sp p.cls 0 zE;generalize p9 x.sp y.sp p.cls 0=g at hg;rw[xM,if_pos ⟨hv,zE,zE⟩];have hp:=DR hg ⟨(by omega:0<=p.nu),v2⟩;have:=DS (x:=g*p.nu+p.de-1) (y:=p.de) zE zE;omega
def u9{p:Pl}{it:Int}:∀r∈Wh p it,0<=r.2/\r.2<=6000000000:=fun r hr=>by
 unfold Wh at hr;cases hf:Xh it p.aN with
 |none=>rw[hf]at hr;cases hr
 |some y=>
  rw[hf]at hr;simp only at hr;cases ha:af y.sp (Uf p)with
  |none=>rw[ha]at hr;cases hr
  |some _=>
   rw[ha]at hr;simp only[zzfn]at hr;obtain⟨x,_,hx⟩:=hr;split at hx
   ·cases hx;exact agi p _ _
   cases hx
def Ho(p:Pl)(it:Int):(Wh p it).length<=(Uf p).length:=by
 unfold Wh;cases Xh it p.aN with
 |none=>simp
 |some y=>
  simp only;cases af y.sp (Uf p)with
  |none=>simp
  |some _=>exact zzh _ _
def ux(en:List (Int×Int)):Prop:=∀k v,af k en=some v->0<=v/\v<=1000000000
def ux.note{p:Pl}{en:List (Int×Int)}(h:ux en)(it e:Int)(he:0<=e/\e<=1000000000):ux (Zt p en it e):=fun k v hk=>by
 unfold Zt at hk;cases hf:Xh it p.aN with
 |none=>rw[hf]at hk;exact h k v hk
 |some x=>
  rw[hf]at hk;simp only[Yf]at hk;split at hk
  ·cases hk;cases ha:af x.sp en with
   |none=>simp;omega
   |some u=>have:=h _ u ha;simp;omega
  exact h k v hk
def yl{en:List (Int×Int)}(h:ux en):∀{l:List Sp}{f M:Int},(∀r∈l,0<=r.2/\r.2<=6000000000)->f<=M->7000000000<=M->Um en l f<=M
 |[],f,M,_,h1,_=>h1
 |r::l,f,M,hl,h1,h2=>by
  rw[Um];refine yl h (fun x hx=>hl x (by simp[hx])) ?_ h2;have:=hl r zd;cases ha:af r.1 en with
  |none=>exact h1
  |some e=>have:=h _ e ha;simp only;omega
def aan(l:List Sp):Option (List Sp)->Option (List Sp)
 |none=>none
 |some r=>some (l++r)
def anW(pre post:List (List AV))(ls:List Nat)(b:Bd)(ids:List Int)(N:Int)(T:Option (List Sp))(f:Nat->AV)(m:AM):Prop:=
 ∃(i:Nat)(us en:List (Int×Int))(free last:Int)(l:List Sp)(rt:Rt)(rv:List (Int×(Rt×List Sp)))(li:List (Int×Int))(pm:List ((Int×Int)×List Sp))(bx:List (List AV))(exl:List Nat),
  f 39=I i/\i<=ids.length/\f 8=I free/\f 9=I last/\f 10=.sl rt (l.map Qf)/\l.length=i/\(-1<=last/\last<=1000000000)/\free<=9223372036854775807/\qc (N+i) us/\ux en/\DQ 2 ls.length (ls++exl) rt l/\BG {b with rv:=rv,li:=li,pm:=pm}/\
  aan l (Jq b.p (ids.drop i) us en free last)=T/\m=aR pre {b with rv:=rv,li:=li,pm:=pm} (post++([.aL 0 (bH iA us)]::[.aL 0 (bH iA en)]::bx)) (ls++exl)
def akK(pre post bx0:List (List AV))(e:En)(ls:List Nat)(b:Bd)(us en:List (Int×Int))(L:List Sp)(T:Int)(f:Nat->AV)(m:AM):Prop:=
 ∃(j:Nat)(fr:Int)(bx:List (List AV)),f 90=I j/\j<=L.length/\f 17=I fr/\Um en (L.drop j) fr=T/\m=aR pre b (post++([.aL 0 (bH iA us)]::[.aL 0 (bH iA en)]::(bx0++(Qd e::bx)))) ls
def JW:Nat->FuncId->List AV->AV:=fun _ f _=>if f=999999 then .junk else .gd false .junk
def Qel(pre post:List (List AV))(ls:List Nat)(b:Bd)(ids:List Int)(rt0:Rt)(N:Int)(hN:0<=N/\N<=100000000)(atJ:ids.length<=100000000)
  (hc:b.p.cls.length<=1000000)(gQ:b.p.sh.length<=1000000000)(cp:b.p.aN.length<=1000000000)(JR:b.p.ens.length<=1000000000)(mR:(Uf b.p).length<=1000000000)(dy:b.p.ln<=9223372036854775807)(UD:∀e∈b.p.ens,e.ea<=9223372036854775807)
  (TV:b.at_<=9223372036854775807)(hus:qc N b.us)(agj:ux b.en)(sP:BG b)(Y:YT)(K:AV->AM->Prop)
  (rQ:Jq b.p ids b.us b.en b.at_ (-1)=none->∀rv li pm ex exl,BG {b with rv:=rv,li:=li,pm:=pm}->K (.aZ [.sl .nil [],.bool false]) (aR pre {b with rv:=rv,li:=li,pm:=pm} (post++ex) (ls++exl)))
  (hK1:∀l,Jq b.p ids b.us b.en b.at_ (-1)=some l->∀rv li pm ex exl rt,BG {b with rv:=rv,li:=li,pm:=pm}->DQ 2 ls.length (ls++exl) rt l->K (.aZ [.sl rt (l.map Qf),.bool true]) (aR pre {b with rv:=rv,li:=li,pm:=pm} (post++ex) (ls++exl))):
  an Tryz.prog aA Y 122 [.ptr (pre.length+9) 0,.sl rt0 (ids.map Qy)] (aR pre b post ls) K:=by
 obtain⟨T,hT⟩:∃T,Jq b.p ids b.us b.en b.at_ (-1)=T:=⟨_,rfl⟩;rw[hT]at rQ hK1;refine Xd ac9 JW zd ?_;simp[E6,aR,aY,Qq,Qa];refine Qbj [(.mp (pre.length+(post.length+10)),aR pre b (post++[[.aL 0 (bH iA b.us)]]) ls)] ?_;simp[E6,aR,aY,Qq,Qa,JW];refine⟨Pq (kn:=0) (kvs:=bH iA b.us) zd ⟨zd,zd⟩,Pq (kn:=0) (kvs:=bH iA b.en) zd ?_⟩;simp[JW];refine Qk nr (anW pre post ls b ids N T) (fun f _=>ids.length-(numOf (f 39)).toNat) ?_ ?_
 ·refine⟨0,b.us,b.en,b.at_,-1,[],.nil,b.rv,b.li,b.pm,[],[],zd,zE,zd,zd,zd,rfl,zE,TV,by simpa using hus,agj,.inl ⟨rfl,rfl⟩,sP,?_,by simp[aR,aY,Qq,Qa]⟩;rw[zzde,hT];cases T<;>rfl
 rintro f m ⟨i,us,en,free,last,l,rt,rv,li,pm,bx,exl,h39,hi,h8,h9,gq,w8,hla,iS,hu,he,hO,hB,hg,rfl⟩;rcases zzaa i ids.length with ai|bz
 ·obtain⟨id,aK⟩:=aU ai;have ah:Qh (ids.map Qy) i=Qy id:=Qt (by simp[aK]);have aa:(i:Int)<(ids.length:Int):=zE
  have hw:=bM i zE;rw[Zd aK,Jq]at hg;have no:T=none->∀rv li pm ex exl,BG {b with rv:=rv,li:=li,pm:=pm}->K (.aZ [.sl .nil [],.bool false]) (aR pre {b with rv:=rv,li:=li,pm:=pm} (post++ex) (ls++exl)):=rQ;rcases Xq iA id (DM b.p) 0 with⟨p1,p2,_⟩|⟨u,n,p1,p2,_⟩
  ·have p1:Ah id b.p.ens 0=none:=by
    rw[uZ]at p1;cases hx:Ah id b.p.ens 0 with
    |none=>rfl
    |some k=>rw[hx]at p1;cases p1
   rw[p1]at hg;simp[h39,h8,h9,gq,ai,aa,ah,Qy,aR,aY,Qq,Qa,nr,p2,sr];have:=rQ hg.symm rv li pm ([.aL 0 (bH iA us)]::[.aL 0 (bH iA en)]::bx) exl hB;simpa[aR,aY,Qq,Qa]using this
  obtain⟨k,pk,rfl⟩:∃k:Nat,Ah id b.p.ens 0=some k/\(k:Int)=u:=by
   rw[uZ]at p1;cases hx:Ah id b.p.ens 0 with
   |none=>rw[hx]at p1;cases p1
   |some k=>rw[hx]at p1;cases p1;exact⟨k,rfl,rfl⟩
  rw[zzbw]at p2;rw[pk]at hg;simp only at hg;obtain⟨_,e,he1,he2,he3⟩:=rS pk;rw[zzfm]at he1;have sI:=(zza.1 he1).1;have zU:(k:Int)<(b.p.ens.length:Int):=zE
  have ym:=Qdl he1;by_cases c1:(k:Int)<=last
  ·rw[if_pos c1]at hg;simp[h39,h8,h9,gq,ai,aa,ah,Qy,aR,aY,Qq,Qa,nr,p2,sr,c1];have:=rQ hg.symm rv li pm ([.aL 0 (bH iA us)]::[.aL 0 (bH iA en)]::bx) exl hB;simpa[aR,aY,Qq,Qa]using this
  rw[if_neg c1,he1]at hg;simp only at hg;simp[h39,h8,h9,gq,ai,aa,ah,Qy,aR,aY,Qq,Qa,nr,p2,c1,sI,zU,ym,Qd,JW];have k82:=fun K'=>af3 pre (post++([.aL 0 (bH iA us)]::[.aL 0 (bH iA en)]::(bx++[Qd e]))) (ls++exl) {b with rv:=rv,li:=li,pm:=pm} e.it (by simp only;omega) cp hB.1 Y K';simp only[aR,aY,Qq,Qa,Qd]at k82;refine k82 _ fun tg aao=>?_;clear k82;have uk:BG {b with rv:=rv,li:=tg,pm:=pm}:=⟨aao,hB.2.1,hB.2.2⟩;obtain⟨R,hR⟩:∃R,Wy b.p e.it=R:=⟨_,rfl⟩;rw[hR]at hg
  obtain⟨cu,sD,atK⟩:∃cu,(af e.it us).getD 0=cu/\((Xl [e.it] (bH iA us) 0=none/\cu=0)\/∃n,Xl [e.it] (bH iA us) 0=some (n,I cu)):=by
   rcases Xq iA e.it us 0 with⟨q1,q2,_⟩|⟨u,n,q1,q2,_⟩
   ·exact⟨0,by rw[q1];rfl,.inl ⟨q2,rfl⟩⟩
   exact⟨u,by rw[q1];rfl,.inr ⟨_,q2⟩⟩
  rw[sD]at hg;by_cases r2:R≠ -1/\R<=cu
  ·rw[if_pos r2]at hg;have:=rQ hg.symm rv tg pm ([.aL 0 (bH iA us)]::[.aL 0 (bH iA en)]::(bx++[Qd e])) exl uk;obtain⟨r1,r2⟩:=r2;obtain⟨q2,rfl⟩|⟨n2,q2⟩:=atK
   ·simp[aR,aY,Qq,Qa,Qd,JW,q2,r1,r2,hR,sr];simpa[aR,aY,Qq,Qa,Qd]using this
   simp[aR,aY,Qq,Qa,Qd,JW,q2,r1,r2,hR,sr];simpa[aR,aY,Qq,Qa,Qd]using this
  rw[if_neg r2]at hg
  have r3:R= -1\/(R≠ -1/\¬R<=cu):=by
   by_cases h:R= -1
   ·exact .inl h
   exact .inr ⟨h,fun h'=>r2 ⟨h,h'⟩⟩
  clear r2;obtain r1|⟨r1,r2⟩:=r3
  ·have q2:True:=trivial;have r2:True:=trivial;simp[h39,h8,h9,gq,aR,aY,Qq,Qa,Qd,JW,q2,r1,r2,hR];have k83:=fun K'=>Hl pre (post++([.aL 0 (bH iA us)]::[.aL 0 (bH iA en)]::(bx++[Qd e]))) (ls++exl) {b with rv:=rv,li:=tg,pm:=pm} e.it (by simp only;omega) cp mR hB.2.1 Y K';simp only[aR,aY,Qq,Qa,Qd]at k83;refine k83 _ fun EM zx eL rt3 L aap yo=>?_;clear k83;have ZL:BG {b with rv:=EM,li:=tg,pm:=pm}:=⟨aao,aap,hB.2.2⟩;have hLb:∀r∈L,0<=r.2/\r.2<=6000000000:=fun r hr=>u9 r (yo.mem_iff.1 hr)
   have hLl:L.length<=1000000000:=by
    rw[yo.length_eq];have:=Ho b.p e.it;omega
   have hfp:=yd en yo (max e.ea free);obtain⟨F,hF⟩:∃F,Um en (Wh b.p e.it) (max e.ea free)=F:=⟨_,rfl⟩;rw[hF]at hfp
   have hFb:F<=9223372036854775807:=by
    rw[<- hF];refine yl he u9 ?_ zE;have:=UD e (zzac he1);omega
   have T7:(if e.ea<free then free else e.ea)=max e.ea free:=zE
   simp[h39,h8,h9,gq,aR,aY,Qq,Qa,Qd,JW,T7];refine Qk iY (akK pre post bx e (ls++(exl++eL)) {b with rv:=EM,li:=tg,pm:=pm} us en L F) (fun f _=>L.length-(numOf (f 90)).toNat) ?_ ?_
   ·exact⟨0,max e.ea free,zx,zd,zE,zd,by rw[zzde];exact hfp,by simp[aR,aY,Qq,Qa,Qd]⟩
   rintro g m ⟨j,fr,bx4,g90,hj,g17,DT,rfl⟩;rcases zzaa j L.length with jlt|jge
   ·obtain⟨r,hr⟩:=aU jlt;have aaq:=Zf hr;have aar:(j:Int)<(L.length:Int):=zE
    have xP:=bM j zE;rw[Zd hr,Um]at DT;have uQ:=hLb r (zzac hr);rcases Xq iA r.1 en 0 with⟨v1,v2,_⟩|⟨v,nv,v1,v2,_⟩
    ·rw[v1]at DT;simp[g90,g17,iY,jlt,aar,aaq,Qf,xP,aR,aY,Qq,Qa,Qd,v2];refine⟨aP,⟨j+1,fr,bx4++[Qf r],zd,zE,by simp[g17],DT,by simp[aR,aY,Qq,Qa,Qf,Qd]⟩,zE⟩
    rw[v1]at DT;have T1:=he r.1 v v1;have hwv:IntKind.i64.wrap (v+r.2)=v+r.2:=by rw[Qj]<;>omega
    have hmv:(if fr<v+r.2 then v+r.2 else fr)=max fr (v+r.2):=zE
    simp[g90,g17,iY,jlt,aar,aaq,Qf,xP,aR,aY,Qq,Qa,Qd,v2,hwv,hmv];refine⟨aP,⟨j+1,max fr (v+r.2),bx4++[Qf r],zd,zE,zd,DT,by simp[aR,aY,Qq,Qa,Qf,Qd]⟩,zE⟩
   have jin:¬(j:Int)<(L.length:Int):=zE
   rw[zzan jge]at DT;have DT:fr=F:=DT;subst DT;have k84:=fun K'=>Pm pre (post++([.aL 0 (bH iA us)]::[.aL 0 (bH iA en)]::(bx++(Qd e::bx4)))) (ls++(exl++eL)) {b with rv:=EM,li:=tg,pm:=pm} e fr hc gQ cp dy hFb hB.2.2 Y K';simp only[aR,aY,Qq,Qa,Qd]at k84;have hO':DQ 2 ls.length (ls++(exl++eL)) rt l:=by rw[<- zzb];exact hO.app
   rw[hF]at hg;simp[g90,g17,jin,zzbo.2 jge,iY,nr,h39,h8,h9,gq,aR,aY,Qq,Qa,Qd,JW];refine k84 _ fun pm4 JX anX=>?_;clear k84;have hB4:BG {b with rv:=EM,li:=tg,pm:=pm4}:=⟨aao,aap,anX⟩;cases hs:Yi b.p e fr with
   |none=>
    rw[hs]at hg;have:=rQ hg.symm EM tg pm4 ([.aL 0 (bH iA us)]::[.aL 0 (bH iA en)]::(bx++(Qd e::(bx4++JX)))) (exl++eL) hB4;simp[G9,sr];simpa[aR,aY,Qq,Qa,Qd]using this
   |some s=>
    rw[hs]at hg;simp only at hg
    have hg:aan (l++[(id,s)]) (Jq b.p (ids.drop (i+1)) (Vu us e.it) (Zt b.p en e.it (s+e.fr)) (s+e.fr) k)=T:=by
     rw[<- hg];cases Jq b.p (ids.drop (i+1)) (Vu us e.it) (Zt b.p en e.it (s+e.fr)) (s+e.fr) k<;>simp[aan]
    obtain⟨a1,a2,a3,a4,a5,a6,_⟩:=Qbh hs;have hws:IntKind.i64.wrap (s+e.fr)=s+e.fr:=by rw[Qj]<;>omega
    have kn:=fun LS K'=>aal pre post (bx++(Qd e::(bx4++JX))) LS {b with rv:=EM,li:=tg,pm:=pm4} us en e.it (s+e.fr) (fun k v h=>by have:=hu k v h;omega) Y K';simp only[aR,aY,Qq,Qa,Qd]at kn;have K4:=hu.note zE e.it;have he2:ux (Zt b.p en e.it (s+e.fr)):=he.note e.it _ zE;have hN1:N+i+1=N+(i+1:Nat):=zE
    rw[hN1]at K4;obtain⟨kW,ud⟩|⟨k2,ud,dw,dD,_⟩:=hO'
    ·subst ud;subst kW;simp[G9,h39,h8,h9,gq,aR,aY,Qq,Qa,Qd,JW,hws];refine kn _ _ fun ex5=>?_;refine⟨aP,⟨i+1,Vu us e.it,Zt b.p en e.it (s+e.fr),s+e.fr,k,[(id,s)],.own (ls.length+(exl.length+eL.length)) 2,EM,tg,pm4,bx++(Qd e::(bx4++JX++ex5)),exl++(eL++[1]),by simp[hw],zE,zd,zd,by simp[Qf],by simp at w8;simp[w8],zE,zE,K4,he2,.inr ⟨_,rfl,zE,?_,zd⟩,hB4,hg,?_⟩,by simp[hw];omega⟩
     ·have:(ls++(exl++(eL++[1])))=(ls++(exl++eL))++[1]:=zd
      rw[this,zzal zd];simp
     simp[aR,aY,Qq,Qa,Qd]
    subst ud;have Bw:=(zza.1 dD).1;have bY:(ls++(exl++eL)).set k2 (l.length+1)=ls++(exl++eL).set (k2-ls.length) (l.length+1):=zzcu _ _ dw;simp[G9,h39,h8,h9,gq,aR,aY,Qq,Qa,Qd,JW,hws,dD];refine⟨⟨?_,zE⟩,kn _ _ fun ex5=>?_⟩
    ·rintro row (⟨a,b,_,rfl⟩|rfl)<;>rfl
    refine⟨aP,⟨i+1,Vu us e.it,Zt b.p en e.it (s+e.fr),s+e.fr,k,l++[(id,s)],.own k2 2,EM,tg,pm4,bx++(Qd e::(bx4++JX++ex5)),(exl++eL).set (k2-ls.length) (l.length+1),by simp[hw],zE,zd,zd,by simp[Qf],by simp[w8],zE,zE,K4,he2,.inr ⟨k2,rfl,dw,?_,zd⟩,hB4,hg,?_⟩,by simp[hw];omega⟩
    ·rw[<- bY,zzba Bw];simp
    simp only[bY];simp[aR,aY,Qq,Qa,Qd]
  obtain⟨q2,rfl⟩|⟨n2,q2⟩:=atK
  all_goals
   simp[h39,h8,h9,gq,aR,aY,Qq,Qa,Qd,JW,q2,r1,r2,hR];have k83:=fun K'=>Hl pre (post++([.aL 0 (bH iA us)]::[.aL 0 (bH iA en)]::(bx++[Qd e]))) (ls++exl) {b with rv:=rv,li:=tg,pm:=pm} e.it (by simp only;omega) cp mR hB.2.1 Y K';simp only[aR,aY,Qq,Qa,Qd]at k83;refine k83 _ fun EM zx eL rt3 L aap yo=>?_;clear k83;have ZL:BG {b with rv:=EM,li:=tg,pm:=pm}:=⟨aao,aap,hB.2.2⟩;have hLb:∀r∈L,0<=r.2/\r.2<=6000000000:=fun r hr=>u9 r (yo.mem_iff.1 hr)
   have hLl:L.length<=1000000000:=by
    rw[yo.length_eq];have:=Ho b.p e.it;omega
   have hfp:=yd en yo (max e.ea free);obtain⟨F,hF⟩:∃F,Um en (Wh b.p e.it) (max e.ea free)=F:=⟨_,rfl⟩;rw[hF]at hfp
   have hFb:F<=9223372036854775807:=by
    rw[<- hF];refine yl he u9 ?_ zE;have:=UD e (zzac he1);omega
   have T7:(if e.ea<free then free else e.ea)=max e.ea free:=zE
   simp[h39,h8,h9,gq,aR,aY,Qq,Qa,Qd,JW,T7];refine Qk iY (akK pre post bx e (ls++(exl++eL)) {b with rv:=EM,li:=tg,pm:=pm} us en L F) (fun f _=>L.length-(numOf (f 90)).toNat) ?_ ?_
   ·exact⟨0,max e.ea free,zx,zd,zE,zd,by rw[zzde];exact hfp,by simp[aR,aY,Qq,Qa,Qd]⟩
   rintro g m ⟨j,fr,bx4,g90,hj,g17,DT,rfl⟩;rcases zzaa j L.length with jlt|jge
   ·obtain⟨r,hr⟩:=aU jlt;have aaq:=Zf hr;have aar:(j:Int)<(L.length:Int):=zE
    have xP:=bM j zE;rw[Zd hr,Um]at DT;have uQ:=hLb r (zzac hr);rcases Xq iA r.1 en 0 with⟨v1,v2,_⟩|⟨v,nv,v1,v2,_⟩
    ·rw[v1]at DT;simp[g90,g17,iY,jlt,aar,aaq,Qf,xP,aR,aY,Qq,Qa,Qd,v2];refine⟨aP,⟨j+1,fr,bx4++[Qf r],zd,zE,by simp[g17],DT,by simp[aR,aY,Qq,Qa,Qf,Qd]⟩,zE⟩
    rw[v1]at DT;have T1:=he r.1 v v1;have hwv:IntKind.i64.wrap (v+r.2)=v+r.2:=by rw[Qj]<;>omega
    have hmv:(if fr<v+r.2 then v+r.2 else fr)=max fr (v+r.2):=zE
    simp[g90,g17,iY,jlt,aar,aaq,Qf,xP,aR,aY,Qq,Qa,Qd,v2,hwv,hmv];refine⟨aP,⟨j+1,max fr (v+r.2),bx4++[Qf r],zd,zE,zd,DT,by simp[aR,aY,Qq,Qa,Qf,Qd]⟩,zE⟩
   have jin:¬(j:Int)<(L.length:Int):=zE
   rw[zzan jge]at DT;have DT:fr=F:=DT;subst DT;have k84:=fun K'=>Pm pre (post++([.aL 0 (bH iA us)]::[.aL 0 (bH iA en)]::(bx++(Qd e::bx4)))) (ls++(exl++eL)) {b with rv:=EM,li:=tg,pm:=pm} e fr hc gQ cp dy hFb hB.2.2 Y K';simp only[aR,aY,Qq,Qa,Qd]at k84;have hO':DQ 2 ls.length (ls++(exl++eL)) rt l:=by rw[<- zzb];exact hO.app
   rw[hF]at hg;simp[g90,g17,jin,zzbo.2 jge,iY,nr,h39,h8,h9,gq,aR,aY,Qq,Qa,Qd,JW];refine k84 _ fun pm4 JX anX=>?_;clear k84;have hB4:BG {b with rv:=EM,li:=tg,pm:=pm4}:=⟨aao,aap,anX⟩;cases hs:Yi b.p e fr with
   |none=>
    rw[hs]at hg;have:=rQ hg.symm EM tg pm4 ([.aL 0 (bH iA us)]::[.aL 0 (bH iA en)]::(bx++(Qd e::(bx4++JX)))) (exl++eL) hB4;simp[G9,sr];simpa[aR,aY,Qq,Qa,Qd]using this
   |some s=>
    rw[hs]at hg;simp only at hg
    have hg:aan (l++[(id,s)]) (Jq b.p (ids.drop (i+1)) (Vu us e.it) (Zt b.p en e.it (s+e.fr)) (s+e.fr) k)=T:=by
     rw[<- hg];cases Jq b.p (ids.drop (i+1)) (Vu us e.it) (Zt b.p en e.it (s+e.fr)) (s+e.fr) k<;>simp[aan]
    obtain⟨a1,a2,a3,a4,a5,a6,_⟩:=Qbh hs;have hws:IntKind.i64.wrap (s+e.fr)=s+e.fr:=by rw[Qj]<;>omega
    have kn:=fun LS K'=>aal pre post (bx++(Qd e::(bx4++JX))) LS {b with rv:=EM,li:=tg,pm:=pm4} us en e.it (s+e.fr) (fun k v h=>by have:=hu k v h;omega) Y K';simp only[aR,aY,Qq,Qa,Qd]at kn;have K4:=hu.note zE e.it;have he2:ux (Zt b.p en e.it (s+e.fr)):=he.note e.it _ zE;have hN1:N+i+1=N+(i+1:Nat):=zE
    rw[hN1]at K4;obtain⟨kW,ud⟩|⟨k2,ud,dw,dD,_⟩:=hO'
    ·subst ud;subst kW;simp[G9,h39,h8,h9,gq,aR,aY,Qq,Qa,Qd,JW,hws];refine kn _ _ fun ex5=>?_;refine⟨aP,⟨i+1,Vu us e.it,Zt b.p en e.it (s+e.fr),s+e.fr,k,[(id,s)],.own (ls.length+(exl.length+eL.length)) 2,EM,tg,pm4,bx++(Qd e::(bx4++JX++ex5)),exl++(eL++[1]),by simp[hw],zE,zd,zd,by simp[Qf],by simp at w8;simp[w8],zE,zE,K4,he2,.inr ⟨_,rfl,zE,?_,zd⟩,hB4,hg,?_⟩,by simp[hw];omega⟩
     ·have:(ls++(exl++(eL++[1])))=(ls++(exl++eL))++[1]:=zd
      rw[this,zzal zd];simp
     simp[aR,aY,Qq,Qa,Qd]
    subst ud;have Bw:=(zza.1 dD).1;have bY:(ls++(exl++eL)).set k2 (l.length+1)=ls++(exl++eL).set (k2-ls.length) (l.length+1):=zzcu _ _ dw;simp[G9,h39,h8,h9,gq,aR,aY,Qq,Qa,Qd,JW,hws,dD];refine⟨⟨?_,zE⟩,kn _ _ fun ex5=>?_⟩
    ·rintro row (⟨a,b,_,rfl⟩|rfl)<;>rfl
    refine⟨aP,⟨i+1,Vu us e.it,Zt b.p en e.it (s+e.fr),s+e.fr,k,l++[(id,s)],.own k2 2,EM,tg,pm4,bx++(Qd e::(bx4++JX++ex5)),(exl++eL).set (k2-ls.length) (l.length+1),by simp[hw],zE,zd,zd,by simp[Qf],by simp[w8],zE,zE,K4,he2,.inr ⟨k2,rfl,dw,?_,zd⟩,hB4,hg,?_⟩,by simp[hw];omega⟩
    ·rw[<- bY,zzba Bw];simp
    simp only[bY];simp[aR,aY,Qq,Qa,Qd]
 have bL:¬(i:Int)<(ids.length:Int):=zE
 rw[zzan bz,Jq]at hg;have hg:some (l++[])=T:=hg;rw[zzau]at hg;have:=hK1 l hg.symm rv li pm ([.aL 0 (bH iA us)]::[.aL 0 (bH iA en)]::bx) exl rt hB hO;simp[h39,h8,h9,gq,bL,zzbo.2 bz,nr,sr];simpa[aR,aY,Qq,Qa]using this
open Go Go.Abs
def agk(l:List Int)(hl:l.length<=1000000000):Pure Tryz.prog aA 93 [.sl .ro (l.map Qy)] (.sl .ro (l.map Qy)):=by
 cases l with
 |nil=>
  refine Vo (Xa (?_:Pure Tryz.prog aA 93 [.sl .nil []] (.sl .nil [])) (Wk.sl _ _)) ?_
  ·refine Qo qK (fun _ _ _=>.junk) zd ?_;simp[KI,KJ]
  refine Qo qK (fun _ _ _=>.junk) zd ?_;simp[KI,KJ]
 |cons x r=>
  refine Qo qK (fun _ _ _=>.junk) zd ?_;simp[KI,KJ,Qy];simp at hl;omega
def BH{α:Type}(c:List α)(i:Nat)(h:i<c.length):(c.take i++c.drop (i+1)).length+1=c.length:=by
 simp;omega
def Hp(ok:List Int->Bool)(c:List Int)(i:Nat):List Int:=
 if h:i<c.length then(if ok (c.take i++c.drop (i+1))=true then Hp ok c (i+1)else Hp ok (c.take i++c.drop (i+1)) i)else c
termination_by c.length-i
decreasing_by
 ·omega
 have:=BH c i h;omega
def oH(b:Bd)(ids:List Int):Bool:=(Jq b.p ids b.us b.en b.at_ (-1)).isSome
def oc(b:Bd)(ids:List Int):List Int:=if oH b ids=true then[]else Hp (oH b) ids 0
def atM(pre post:List (List AV))(ls:List Nat)(b:Bd)(N:Nat)(T:List Int)(f:Nat->AV)(m:AM):Prop:=
 ∃(i:Nat)(c:List Int)(rv:List (Int×(Rt×List Sp)))(li:List (Int×Int))(pm:List ((Int×Int)×List Sp))(ex:List (List AV))(exl:List Nat),
  f 7=.sl .ro (c.map Qy)/\f 8=I i/\i<=c.length/\c.length<=N/\Hp (oH b) c i=T/\BG {b with rv:=rv,li:=li,pm:=pm}/\m=aR pre {b with rv:=rv,li:=li,pm:=pm} (post++ex) (ls++exl)
def Pr(ids:List Int):Nat->FuncId->List AV->AV:=fun _ f l=>if f=122 then .gd false .junk else if f=93 then .sl .ro (ids.map Qy)else
 (match l with|[.sl _ [[.sl _ a],[.sl _ c]]]=>.sl .ro (a++c)|_=>.junk)
def Mh(pre post:List (List AV))(ls:List Nat)(b:Bd)(ids:List Int)(rt0:Rt)(h85:∀m,Abs.Pure Tryz.prog aA 93 [bJ m 6 (.sl rt0 (ids.map Qy))] (.sl .ro (ids.map Qy)))(N:Int)(hN:0<=N/\N<=100000000)(atJ:ids.length<=100000000)
  (hc:b.p.cls.length<=1000000)(gQ:b.p.sh.length<=1000000000)(cp:b.p.aN.length<=1000000000)(JR:b.p.ens.length<=1000000000)(mR:(Uf b.p).length<=1000000000)(dy:b.p.ln<=9223372036854775807)(UD:∀e∈b.p.ens,e.ea<=9223372036854775807)
  (TV:b.at_<=9223372036854775807)(hus:qc N b.us)(agj:ux b.en)(sP:BG b)(Y:YT)(K:AV->AM->Prop)
  (hK:∀rv li pm ex exl,BG {b with rv:=rv,li:=li,pm:=pm}->K (.sl (if oH b ids=true then .nil else .ro) ((oc b ids).map Qy)) (aR pre {b with rv:=rv,li:=li,pm:=pm} (post++ex) (ls++exl))):
  an Tryz.prog aA Y 123 [.ptr (pre.length+9) 0,.sl rt0 (ids.map Qy)] (aR pre b post ls) K:=by
 refine Xd ada (Pr ids) zd ?_;simp[U6,aR,aY,Qq,Qa,Pr];have k42:=fun K'=>Qel pre post ls b ids rt0 N hN atJ hc gQ cp JR mR dy UD TV hus agj sP Y K';simp only[aR,aY,Qq,Qa]at k42;refine k42 _ (fun h0 rv li pm ex exl hB=>?_) (fun l h1 rv li pm ex exl rt hB hO=>?_)
 ·have bZ:oH b ids=false:=by simp[oH,h0]
  simp[Pr];refine⟨h85 _,?_⟩;refine Qk vA (atM pre post ls b ids.length (oc b ids)) (fun f _=>(match f 7 with|.sl _ c=>c.length|_=>0)-(numOf (f 8)).toNat) ?_ ?_
  ·exact⟨0,ids,rv,li,pm,ex,exl,zd,zd,zE,zE,by simp[oc,bZ],hB,by simp[aR,aY,Qq,Qa]⟩
  rintro f m ⟨i,c,rv,li,pm,ex,exl,h7,h8,hi,oF,hT,hB,rfl⟩;rcases zzaa i c.length with ai|bz
  ·have aa:(i:Int)<(c.length:Int):=zE
   have hw:=bM i zE;simp[h7,h8,ai,aa,vA,aR,aY,Qq,Qa,Pr,hw];have eA:List.take i (List.map Qy c)=(c.take i).map Qy:=zd
   have eB:List.take (c.length-(i+1)) (List.drop (i+1) (List.map Qy c))=(c.drop (i+1)).map Qy:=by
    rw[zzap zd];simp
   rw[eA,eB,<- zzca];have k86:=aaf [(.ro,c.take i),(.ro,c.drop (i+1))] zd zd (by simp;omega);have O1:=BH c i ai;rw[Hp,dif_pos ai]at hT;have eG:(List.map (fun x:Rt×List Int=>x.2) [(Rt.ro,c.take i),(Rt.ro,c.drop (i+1))]).flatten=c.take i++c.drop (i+1):=zd
   rw[eG]at k86;obtain⟨o,ho⟩:∃o,c.take i++c.drop (i+1)=o:=⟨_,rfl⟩;rw[ho]at k86 O1 hT |-
   refine⟨⟨zE,fun _ _=>rfl⟩,⟨zE,fun _ _=>rfl⟩,k86,?_⟩;have k42:=fun K'=>Qel pre (post++ex) (ls++exl) {b with rv:=rv,li:=li,pm:=pm} o .ro N hN zE hc gQ cp JR mR dy UD TV hus agj hB Y K';simp only[aR,aY,Qq,Qa]at k42;refine k42 _ (fun h0 rv2 tg Pn eW anY uk=>?_) (fun l h1 rv2 tg Pn eW anY rt uk hO=>?_)
   ·have bZ:oH b o=false:=by simp only[oH];rw[h0];rfl
    rw[bZ]at hT;have hT:Hp (oH b) o i=oc b ids:=hT;simp[h7,h8,vA];refine⟨aP,⟨i,o,rv2,tg,Pn,ex++eW,exl++anY,zd,by simp[h8],zE,zE,hT,uk,by simp[aR,aY,Qq,Qa]⟩,?_⟩
    ·rw[zzfw (Nat.le_of_lt ai),zzdw];exact Nat.sub_lt_sub_left ai (zzft i)
   have bZ:oH b o=true:=by simp only[oH];rw[h1];rfl
   rw[bZ]at hT;have hT:Hp (oH b) c (i+1)=oc b ids:=hT;simp[h7,h8,vA,hw];refine⟨aP,⟨i+1,c,rv2,tg,Pn,ex++eW,exl++anY,by simp[h7],zd,zE,zE,hT,uk,by simp[aR,aY,Qq,Qa]⟩,zE⟩
  have bL:¬(i:Int)<(c.length:Int):=zE
  rw[Hp,dif_neg zE]at hT;have:=hK rv li pm ex exl hB;rw[<- hT,bZ,if_neg zd]at this;simp[h7,h8,bL,zzbo.2 bz,vA,U7];simpa[aR,aY,Qq,Qa]using this
 have bZ:oH b ids=true:=by simp[oH,h1]
 have:=hK rv li pm ex exl hB;rw[bZ,if_pos rfl]at this;simp[U7];simpa[aR,aY,Qq,Qa,oc,bZ]using this
open Go Go.Abs
def Uj(p:Pl):List Int:=p.ens.map fun e=>e.id
def JY(p:Pl):Bd:=⟨p,0,[],[],[],[],[]⟩
def JZ(l:List Sp):AV:=if l=[]then .sl .nil []else .sl .ro (l.map Qf)
def Sw(p:Pl):AV:=if oa p=false then .aZ [.sl .nil [],.sl .nil [],I 80]else match Jq p (Uj p) [] [] 0 (-1)with
 |some l=>.aZ [JZ l,.sl .nil [],I 0]
 |none=>.aZ [.sl .nil [],.sl .ro ((oc (JY p) (Uj p)).map Qy),I 90]
def mY(p:Pl):Nat->FuncId->List AV->AV:=fun _ f _=>if f=999999 then .junk else if f=120 then .bool (oa p)else .gd false .junk
def atN(p:Pl)(f:Nat->AV)(m:AM):Prop:=∃(i:Nat)(rt:Rt)(ls:List Nat)(bx:List (List AV)),f 17=I i/\i<=p.ens.length/\f 5=.sl rt ((Uj p).take i |>.map Qy)/\DQ 1 0 ls rt ((Uj p).take i)/\m=⟨Qa p::bx,ls,fun _=>.gone,0⟩
def qd:∀(l:List It)(a:List (Int×It))(s:List (Int×Int)),(Af l a s).length<=s.length+l.length
 |[],a,s=>by simp[Af]
 |x::r,a,s=>by
  rw[Af];cases af x.id a with
  |some _=>
   have:=qd r a s;simp only[zzbe];omega
  |none=>
   have h:=qd r (Zr x.id x a) (if 1<=x.sp/\x.sp<=200 then Zr x.sp x.id s else s)
   have h2:(if 1<=x.sp/\x.sp<=200 then Zr x.sp x.id s else s).length<=s.length+1:=by
    split
    ·exact G4 _ _ _
    omega
   simp only[zzbe];omega
def anZ(p:Pl):BG (JY p):=⟨fun _ _ h=>(by cases h),fun _ _ h=>(by cases h),fun _ _ h=>(by cases h)⟩
def Sx(p:Pl)(hs:PlS p)(hc:p.cls.length<=1000000)(JR:p.ens.length<=10000000)(dy:p.ln<=9223372036854775807)(UD:∀e∈p.ens,e.ea<=9223372036854775807):Pure Tryz.prog aA 60 [.agg (Qa p)] (Sw p):=by
 have k22:=Wz p hs;obtain⟨l1,l2,l3,l4,l5,l6⟩:=hs
 have mR:(Uf p).length<=1000000000:=by
  have:=qd p.aN [] [];simp only[Uf]at*
  simp at this;omega
 refine Qo al2 (mY p) zd ?_;cases hv:oa p with
 |false=>
  rw[hv]at k22;have:Sw p=.aZ [.sl .nil [],.sl .nil [],I 80]:=by rw[Sw,if_pos hv]
  rw[this];simp[al1,UT,Qa,mY,hv];simpa[Qa]using k22
 |true=>
  rw[hv]at k22;simp[al1,Qa,mY,hv];refine⟨by simpa[Qa]using k22,?_⟩;refine Qk Nz (atN p) (fun f _=>p.ens.length-(numOf (f 17)).toNat) ?_ ?_
  ·exact⟨0,.nil,[],[],zd,zE,zd,.inl ⟨zd,rfl⟩,by simp[Qa]⟩
  rintro f m ⟨i,rt,ls,bx,h17,hi,h5,hO,rfl⟩;rcases zzaa i p.ens.length with ai|bz
  ·obtain⟨e,he⟩:=aU ai;have ah:=Qdl he;have aa:(i:Int)<(p.ens.length:Int):=zE
   have hw:=bM i zE;have bC:(Uj p).take (i+1)=(Uj p).take i++[e.id]:=by rw[zzas];simp[Uj,he]
   have iR:((Uj p).take i).length=i:=by simp[Uj];omega
   obtain⟨S,hS⟩:∃S,(Uj p).take i=S:=⟨_,rfl⟩;rw[hS]at h5 hO bC iR;obtain⟨rfl,rfl⟩|⟨k,rfl,dw,dD,Bw⟩:=hO
   ·simp[h17,h5,ai,aa,ah,Qd,Qa,mY,Nz,hw];refine⟨aP,⟨i+1,.own ls.length 1,ls++[1],bx++[Qd e],zd,zE,by rw[bC];simp[Qy],.inr ⟨_,rfl,zE,by rw[bC];simp,by rw[bC];simp⟩,by simp[Qa,Qd]⟩,zE⟩
   have O4:=(zza.1 dD).1;simp[h17,h5,ai,aa,ah,Qd,Qa,mY,Nz,hw,dD];refine⟨⟨?_,zE⟩,aP,⟨i+1,.own k 1,ls.set k (S.length+1),bx++[Qd e],zd,zE,by rw[bC];simp[Qy],.inr ⟨_,rfl,zE,by rw[bC];simp[O4],by rw[bC];simp⟩,by simp[Qa,Qd]⟩,zE⟩
   ·rintro row (⟨a,_,rfl⟩|rfl)<;>rfl
  have bL:¬(i:Int)<(p.ens.length:Int):=zE
  have iR:(Uj p).take i=Uj p:=zzap (by simp[Uj];omega);rw[iR]at h5 hO;have aK:(Uj p).length<=10000000:=by simp[Uj];omega
  have k41:=fun K'=>yj (Qa p::bx) ls p 0 [] .nil zE l2 zd Y0 K';simp only[Qa,zzcc]at k41;simp[h17,h5,bL,zzbo.2 bz,Nz,Qa,mY];refine k41 _ fun ex=>?_;clear k41
  have h85:∀m,Abs.Pure Tryz.prog aA 93 [bJ m 6 (.sl rt ((Uj p).map Qy))] (.sl .ro ((Uj p).map Qy)):=fun m=>by
   have kc:=agk (Uj p) zE;obtain⟨h1,rfl⟩|⟨k,rfl,_⟩:=hO
   ·exact Zo kc ⟨Wk.sl _ _,trivial⟩
   exact kc
  simp[mY];refine Qel (Qa p::bx) ex ls (JY p) (Uj p) rt 0 zE zE hc l1 l2 l3 mR dy UD (by simp[JY]) (fun _ _ h=>(by cases h)) (fun _ _ h=>(by cases h)) (anZ p) Y0 _ (fun h0 rv li pm eW exl hB=>?_) (fun l h1 rv li pm eW exl KX hB LV=>?_)
  ·have h0:Jq p (Uj p) [] [] 0 (-1)=none:=h0;have hr:Sw p=.aZ [.sl .nil [],.sl .ro ((oc (JY p) (Uj p)).map Qy),I 90]:=by rw[Sw,if_neg (by simp[hv]),h0]
   have bZ:oH (JY p) (Uj p)=false:=by show(Jq p (Uj p) [] [] 0 (-1)).isSome=false;rw[h0];rfl
   rw[hr];simp[mY];refine Mh (Qa p::bx) (ex++eW) (ls++exl) {JY p with rv:=rv,li:=li,pm:=pm} (Uj p) rt h85 0 zE zE hc l1 l2 l3 mR dy UD (by simp[JY]) (fun _ _ h=>(by cases h)) (fun _ _ h=>(by cases h)) hB Y0 _ (fun EM li3 pm3 zx eL ZL=>?_);have ayn:oH {JY p with rv:=rv,li:=li,pm:=pm} (Uj p)=false:=bZ;have qZ:oc {JY p with rv:=rv,li:=li,pm:=pm} (Uj p)=oc (JY p) (Uj p):=rfl;rw[ayn,qZ,if_neg zd];simp[UT]
  have h1:Jq p (Uj p) [] [] 0 (-1)=some l:=h1;have hr:Sw p=.aZ [JZ l,.sl .nil [],I 0]:=by rw[Sw,if_neg (by simp[hv]),h1]
  rw[hr];obtain⟨rfl,rfl⟩|⟨k2,rfl,_,_,aM⟩:=LV
  ·simp[mY,UT,JZ]
  simp[mY,UT,JZ,aM]
