import Derived.Test.YtnopaopphmjnmaaGreatDoorMEMcG
import Derived.Test.YtnopaopphmjnmaaGreatDoorMEScL
set_option linter.all false
set_option maxRecDepth 100000
set_option maxHeartbeats 64000000
namespace Go.Proofs.YtnopaopphmjnmaaGreatDoor
noncomputable section
open Go Go.Abs
def yC(n a b:Int)(ha:0<=a/\a<=1000000000)(hb:0<=b/\b<=1000000000):Pure Tryz.prog az 229 [I n,I a,I b] (.bool (decide (n=a+b))):=by
 have hw:IntKind.i64.wrap (a+b)=a+b:=by rw[Qk]<;>omega
 have h1:¬a<0:=by omega
 have h2:¬b<0:=by omega
 have h3:¬a+b<0:=by omega
 refine Qn adI (fun _ _ _=>.junk) (by simp) ?_;by_cases h:n=a+b<;>simp[ain,aio,hw,h1,h2,h3,h]
def Si(e:bE):Ad:=⟨e.it,0,e.st,e.fr⟩
def rO(n:Int):List Ad->List Ad
 |[]=>[]
 |[a]=>[{a with fs:=a.fs+n}]
 |a::b::r=>a::rO n (b::r)
def Hs(n:Int)(a:Ad):∀l:List Ad,rO n (l++[a])=l++[{a with fs:=a.fs+n}]
 |[]=>rfl
 |[x]=>rfl
 |x::y::r=>by have:=Hs n a (y::r);simp only[zzae]at this |-;rw[rO,this]
def yD(x e:bE):Prop:=x.id=e.id/\e.st=x.st+x.fr/\e.i=x.i+x.fr
instance (x e:bE):Decidable (yD x e):=by unfold yD;infer_instance
def Ud(x:Option bE)(e:bE)(out:List Ad):List Ad:=
 if e.id=0 then out else match x with
 |none=>out++[Si e]
 |some x=>if yD x e then rO e.fr out else out++[Si e]
def uo:Option bE->List bE->List Ad->List Ad
 |_,[],out=>out
 |x,e::r,out=>uo (some e) r (Ud x e out)
def Sj(l:List bE)(f:Int):List Ad:=uo none (Ym f l) []
def Bv(e:bE):∀(l:List bE)(x:Option bE)(out:List Ad),uo x (l++[e]) out=Ud (match l.getLast? with|some y=>some y|none=>x) e (uo x l out)
 |[],_,_=>rfl
 |[a],_,_=>rfl
 |a::b::r,x,out=>by
  have:=Bv e (b::r) (some a) (Ud x a out);simp only[zzae]at this |-
  rw[uo,this,List.getLast?_cons_cons];congr 1
def af9{n:Int}:∀{l:List Ad},l≠[]->rO n l≠[]
 |[],h=>absurd rfl h
 |[a],_=>by simp[rO]
 |a::b::r,_=>by simp[rO]
def rP{B:List bE}{i:Nat}{e:bE}(h:B[i]?=some e):uo none (B.take (i+1)) []=Ud (if i=0 then none else B[i-1]?) e (uo none (B.take i) []):=by
 have ai:=(zza.1 h).1;rw[zzas,h];show uo none (B.take i++[e]) []=_;rw[Bv];congr 1;cases i with
 |zero=>rfl
 |succ i=>
  have hx:B[i]?=some B[i]:=zzad (by omega);rw[zzas,hx,zzgc,List.getLast?_concat,if_neg (by omega),zzgd,hx]
def O2{B:List bE}:∀{i:Nat}{e:bE},B[i]?=some e->e.id≠0->uo none (B.take (i+1)) []≠[]
 |0,e,h,h0=>by rw[rP h,if_pos rfl];simp[Ud,h0]
 |i+1,e,h,h0=>by
  rw[rP h,if_neg (by omega),zzgd];have ai:=(zza.1 h).1;obtain⟨x,hx⟩:∃x,B[i]?=some x:=⟨_,zzad (by omega)⟩;rw[hx];unfold Ud;rw[if_neg h0];simp only;split
  ·rename_i hj;exact af9 (O2 hx (by rw[hj.1];exact h0))
  simp
def ou(f:Int)(hf:f<=1000000):∀(l:List bE),(∀e∈l,Ul e)->∀e∈Ym f l,Ul e
 |[],_,e,h=>by cases h
 |a::r,hs,e,h=>by
  have ih:=ou f hf r fun e he=>hs e (by simp[he]);rw[Ym]at h;split at h
  ·exact ih e h
  rename_i cm;rcases zzaw.1 h with rfl|h
  ·obtain⟨⟨a1,a2⟩,⟨a3,a4⟩,a5,a6⟩:=hs a (by simp);refine⟨⟨a1,a2⟩,?_,a5,a6⟩;simp only[L9];split<;>omega
  exact ih e h
def FsB(n:Int)(out:List Ad):Prop:=∀a∈out,0<=a.fs/\a.fs<=n
def FsB.inc{n k:Int}(hk:0<=k/\k<=1000000):∀{l:List Ad},FsB n l->FsB (n+1000000) (rO k l)
 |[],_,a,h=>by cases h
 |[x],hl,a,h=>by
  have:=hl x (by simp);simp only[rO,zzbg]at h;subst h;simp only;omega
 |x::y::r,hl,a,h=>by
  rw[rO]at h;rcases zzaw.1 h with rfl|h
  ·have:=hl a (by simp);omega
  exact FsB.inc hk (l:=y::r) (fun b hb=>hl b (by simp[hb])) a h
def FsB.step{n:Int}{x:Option bE}{e:bE}{out:List Ad}(h:FsB n out)(hn:0<=n)(he:Ul e):FsB (n+1000000) (Ud x e out):=by
 obtain⟨_,h3,_⟩:=he;have hw:FsB (n+1000000) out:=fun a ha=>by have:=h a ha;omega
 have hp:FsB (n+1000000) (out++[Si e]):=fun a ha=>by
  rcases zzao.1 ha with ha|ha
  ·exact hw a ha
  simp only[zzbg]at ha;subst ha;simp only[Si];omega
 unfold Ud;split
 ·exact hw
 cases x with
 |none=>exact hp
 |some x=>
  simp only;split
  ·exact h.inc h3
  exact hp
def Ht(B:List bE)(x:Option bE)(out:List Ad):(uo x B out).length<=out.length+B.length:=by
 induction B generalizing x out with
 |nil=>simp[uo]
 |cons e r ih=>
  rw[uo];have h1:=ih (some e) (Ud x e out)
  have h2:(Ud x e out).length<=out.length+1:=by
   have hi:∀(k:Int)(l:List Ad),(rO k l).length=l.length:=by
    intro k l;induction l with
    |nil=>rfl
    |cons a r ih=>cases r with
     |nil=>rfl
     |cons b r=>rw[rO,zzba,ih];rfl
   unfold Ud;split
   ·omega
   cases x with
   |none=>simp
   |some x=>
    simp only;split
    · rw[hi];omega
    simp
  simp only[zzba];omega
def tg(l:List Ad):List AV:=(l.map Vj).flatten
def uX:∀l,(tg l).length=l.length*4
 |[]=>rfl
 |a::r=>by have:=uX r;simp only[tg,zzay,zzcj,zzah]at this |-;rw[this];simp[Vj];omega
def aga(a b:List Ad):tg (a++b)=tg a++tg b:=by simp[tg]
def anj(l:List Ad):Zg (tg l)=true:=fu (fun _=>rfl) l
def Sk{bx:List (List AV)}{k:Nat}{c:List AV}(h:k<bx.length)(ex:List (List AV)):Qh (bx.set k c++ex) k=c:=
 Qs (by rw[zzag (by simpa using h)];simp[h])
def lN(bx:List (List AV))(k:Nat)(c p q r:List AV):Qh (bx.set k c++[p,q,r]) (bx.length+2)=r:=
 Qs (by rw[zzan (by simp)];simp)
def Sl(l:List Ad):aV 4 l.length (tg l)=l.map Vj:=by
 have:=Ju (sz:=4) (rows:=l.map Vj) (Qbb (f:=Vj) (fun _=>rfl) l);rw[zzbf]at this;exact this
def O3(bx:List (List AV))(o:List Ad)(v:AV):Prop:=(o=[]/\v=.sl .nil [])\/(o≠[]/\∃k,v=.bs k 0 o.length 4/\k<bx.length/\Qh bx k=tg o)
def as9(B:List bE)(ls:List Nat)(g:Nat->AV)(m:AM):Prop:=
 ∃(i:Nat)(bx:List (List AV)),g 15=I i/\i<=B.length/\m=⟨bx,ls,fun _=>.gone,0⟩/\O3 bx (uo none (B.take i) []) (g 5)/\FsB (i*1000000) (uo none (B.take i) [])
def nc:Nat->FuncId->List AV->AV:=fun d f l=>if f=155 then .gd false .junk else if f=229 then(match l with|[.int _ n,.int _ a,.int _ b]=>.bool (decide (n=a+b))|_=>.junk)else if f=999999 then(if d=73 then .junk else .aJ 0 [])else .junk
def O3.ext{bx:List (List AV)}{o:List Ad}{v:AV}(h:O3 bx o v)(ex:List (List AV)):O3 (bx++ex) o v:=by
 obtain h|⟨h0,k,h1,h2,h3⟩:=h
 ·exact .inl h
 exact .inr ⟨h0,k,h1,by simp;omega,by rw[Ql h2,h3]⟩
def Mg(l:List bE)(f:Int)(hl:l.length<=1000000)(hs:∀e∈l,Ul e)(hf:0<=f/\f<=1000000):Pure Tryz.prog az 159 [.sl .ro (l.map Qf),I f] (.sl .ro ((Sj l f).map Vj)):=by
 have hsB:=ou f hf.2 l hs;have hlB:(Ym f l).length<=1000000:=by have:=Qdw f l;omega
 have:Pure Tryz.prog az 159 [.sl .ro (l.map Qf),I f] (.sl (if Sj l f=[]then .nil else .ro) ((Sj l f).map Vj)):=by
  refine Qn acS nc (by simp) ?_;simp[UE,ahP,nc];refine yA _ _ l f hl hs hf _ fun ex v ls hO=>?_
  obtain⟨rt,rfl⟩:∃rt,v=.sl rt ((Ym f l).map Qf):=by
   obtain⟨e,rfl,_⟩|⟨e,rfl,_⟩:=hO
   ·exact⟨.nil,by rw[e];rfl⟩
   exact⟨_,rfl⟩
  clear hO;unfold Sj;generalize Ym f l=B at*
  simp;refine Qj dX (as9 B ls) (fun g _=>B.length-(numOf (g 15)).toNat) ?_ ?_
  ·exact⟨0,ex,by simp,by omega,by simp,.inl ⟨by simp[uo],by simp⟩,fun a h=>by simp[uo]at h⟩
  rintro g m ⟨i,bx,iN,hi,rfl,hO,hF⟩;rcases zzaa i B.length with ai|bu
  ·obtain⟨a,ha⟩:=aR ai;have ah:Qh (B.map Qf) i=Qf a:=Qs (by simp[ha]);have hw:=bK i (by omega);have aa:(i:Int)<(B.length:Int):=by omega
   have mg:=hsB a (zzac ha);have bB:=rP ha;have Sm:=hF.step (x:=if i=0 then none else B[i-1]?) (e:=a) (by omega) mg;rw[<- bB]at Sm;obtain⟨⟨a1,a2⟩,⟨a3,a4⟩,⟨a5,a6⟩,a7⟩:=mg;by_cases h0:a.id=0
   ·simp[iN,ah,ai,Qf,h0,dX,hw];refine⟨aO,⟨i+1,_,by simp,by omega,rfl,?_,?_⟩,by omega⟩
    ·simp[Ud,h0]at bB;rw[bB];simpa using hO.ext _
    have:((i+1:Nat):Int)*1000000=(i:Int)*1000000+1000000:=by omega
    rw[this];exact Sm
   cases i with
   |zero=>
    have e1:uo none (B.take 1) []=[Si a]:=by rw[bB];simp[Ud,h0,uo]
    have hO0:g 5=.sl .nil []:=by
     obtain⟨_,h⟩|⟨h,_⟩:=hO
     ·exact h
     exact absurd (by simp[uo]) h
    have eX:IntKind.i64.wrap 1=1:=by rw[Qk]<;>omega
    simp at iN;simp[iN,ah,ai,Qf,h0,dX,eX,hO0,nc];refine⟨aO,⟨1,_,by simp,by omega,rfl,.inr ⟨by rw[e1];simp,bx.length+1,by simp[e1],by simp,?_⟩,?_⟩,by omega⟩
    ·simp[e1,tg,Vj,Si]
    simpa using Sm
   |succ i=>
    have axq:i<B.length:=by omega
    obtain⟨x,hx⟩:=aR axq;have yE:Qh (B.map Qf) i=Qf x:=Qs (by simp[hx]);obtain⟨⟨x1,x2⟩,⟨x3,x4⟩,⟨x5,x6⟩,x7⟩:=hsB x (zzac hx);have k1:=yC a.st x.st x.fr (by omega) (by omega);have k2:=yC a.i x.i x.fr (by omega) (by omega);have Lb:IntKind.i64.wrap (i:Int)=i:=by rw[Qk]<;>omega
    have yF:(i:Int)<(B.length:Int):=by omega
    have eZ:(0:Int)<(i:Int)+1:=by omega
    rw[if_neg (by omega),zzgd,hx]at bB;have aK:=O2 hx;have qx:((i+1+1:Nat):Int)*1000000=((i+1:Nat):Int)*1000000+1000000:=by omega
    have Oq:=Ht (B.take (i+1)) none [];have ank:¬yD x a->uo none (B.take (i+1+1)) []=uo none (B.take (i+1)) []++[Si a]:=fun h=>by rw[bB];simp[Ud,h0,h]
    have Mh:yD x a->uo none (B.take (i+1+1)) []=rO a.fr (uo none (B.take (i+1)) []):=fun h=>by rw[bB];simp[Ud,h0,h]
    rw[<- qx]at Sm;clear bB;generalize uo none (B.take (i+1)) []=out at*
    generalize dz:uo none (B.take (i+1+1)) []=out' at*
    simp at iN ai aa hw Oq;have ast:out.length<=1000000:=by omega
    by_cases hj:yD x a
    ·have e1:=Mh hj;obtain⟨j1,j2,j3⟩:=hj;have aK:=aK (by rw[j1];exact h0)
     obtain⟨O,z,rfl⟩:∃O z,out=O++[z]:=by
      rcases zzdl out with e|⟨O,z,e⟩
      ·exact absurd e aK
      exact⟨O,z,by rw[e,zzdm]⟩
     have hOl:(tg O).length=O.length*4:=uX O;have hz:=hF z (by simp);have hwz:IntKind.i64.wrap (z.fs+a.fr)=z.fs+a.fr:=by rw[Qk]<;>omega
     have hd3:∀X:List AV,(tg O++X).drop (O.length*4+3)=X.drop 3:=fun X=>Bs _ _ _ _ hOl;have hs3:∀X Y:List AV,setA (tg O++X) (O.length*4+3) Y=tg O++setA X 3 Y:=fun X Y=>Br _ _ _ _ _ hOl;obtain⟨e,_⟩|⟨_,k,h5,hk,hr⟩:=hO
     ·exact absurd e aK
     have hR:∀ex,Qh (bx++ex) k=tg O++[I z.it,I z.re,I z.fr,I z.fs]:=fun ex=>by rw[Ql hk,hr,aga];rfl
     rw[Hs]at e1;rw[zzah,zze]at h5;have hwo:IntKind.i64.wrap (O.length:Int)=O.length:=by simp at ast;rw[Qk]<;>omega
     have qv:k<bx.length+1:=by omega
     have aaf:k<bx.length+(1+1):=by omega
     have axr:k<bx.length+2:=by omega
     simp[iN,ah,aa,Qf,h0,dX,hw,yE,yF,eZ,Lb,nc,j1,j2,j3,h5,hR,hwo,hd3,hs3,hOl,hwz,hk,aaf];refine⟨by omega,by rw[j2]at k1;simpa using k1,by rw[j3]at k2;simpa using k2,by omega,aO,⟨i+1+1,_,by simp,by omega,rfl,.inr ⟨by rw[dz,e1];simp,k,by rw[dz,e1];simp,by simp;omega,?_⟩,by rw[dz];exact Sm⟩,by omega⟩
     ·rw[dz,e1,Sk hk];simp[tg,Vj]
    have e1:=ank hj
    have mG:¬x.id=a.id\/(x.id=a.id/\¬a.st=x.st+x.fr)\/(x.id=a.id/\a.st=x.st+x.fr/\¬a.i=x.i+x.fr):=by
     unfold yD at hj;by_cases j1:x.id=a.id
     ·by_cases j2:a.st=x.st+x.fr
      ·exact .inr (.inr ⟨j1,j2,fun j3=>hj ⟨j1,j2,j3⟩⟩)
      exact .inr (.inl ⟨j1,j2⟩)
     exact .inl j1
    obtain⟨rfl,h5⟩|⟨Sb,k,h5,hk,hr⟩:=hO
    ·obtain j1|⟨j1,j2⟩|⟨j1,j2,j3⟩:=mG
     ·simp[iN,ah,aa,Qf,h0,dX,hw,yE,yF,eZ,Lb,nc,j1,h5];refine⟨by omega,aO,⟨i+1+1,_,by simp,by omega,rfl,.inr ⟨by rw[dz,e1];simp,bx.length+2,by rw[dz,e1];simp,by simp,?_⟩,by rw[dz];exact Sm⟩,by omega⟩
      ·rw[dz,e1];simp[tg,Vj,Si]
     ·simp[iN,ah,aa,Qf,h0,dX,hw,yE,yF,eZ,Lb,nc,j1,j2,h5];refine⟨by omega,by simpa[j2]using k1,aO,⟨i+1+1,_,by simp,by omega,rfl,.inr ⟨by rw[dz,e1];simp,bx.length+2,by rw[dz,e1];simp,by simp,?_⟩,by rw[dz];exact Sm⟩,by omega⟩
      ·rw[dz,e1];simp[tg,Vj,Si]
     simp[iN,ah,aa,Qf,h0,dX,hw,yE,yF,eZ,Lb,nc,j1,j2,j3,h5];refine⟨by omega,by rw[j2]at k1;simpa using k1,by simpa[j3]using k2,aO,⟨i+1+1,_,by simp,by omega,rfl,.inr ⟨by rw[dz,e1];simp,bx.length+2,by rw[dz,e1];simp,by simp,?_⟩,by rw[dz];exact Sm⟩,by omega⟩
     ·rw[dz,e1];simp[tg,Vj,Si,j2]
    have hR:∀ex,Qh (bx++ex) k=tg out:=fun ex=>by rw[Ql hk,hr]
    have qv:k<bx.length+1:=by omega
    have aaf:k<bx.length+(1+1):=by omega
    have axr:k<bx.length+2:=by omega
    have Oa:=uX out;have aag:¬tg out=[]:=by intro h;rw[h]at Oa;exact Sb (zzav (by simp at Oa;omega))
    have LK:List.take (out.length*4) (tg out)=tg out:=zzap (by omega);obtain j1|⟨j1,j2⟩|⟨j1,j2,j3⟩:=mG
    ·simp[iN,ah,aa,Qf,h0,dX,hw,yE,yF,eZ,Lb,nc,j1,h5,hR,hk,aaf,Oa,aag,LK];refine⟨by omega,by omega,aO,⟨i+1+1,_,by simp,by omega,rfl,.inr ⟨by rw[dz,e1];simp,bx.length+2,by rw[dz,e1];simp,by simp,?_⟩,by rw[dz];exact Sm⟩,by omega⟩
     ·rw[dz,e1,lN];simp[tg,Vj,Si]
    ·simp[iN,ah,aa,Qf,h0,dX,hw,yE,yF,eZ,Lb,nc,j1,j2,h5,hR,hk,aaf,Oa,aag,LK];refine⟨by omega,by simpa[j2]using k1,by omega,aO,⟨i+1+1,_,by simp,by omega,rfl,.inr ⟨by rw[dz,e1];simp,bx.length+2,by rw[dz,e1];simp,by simp,?_⟩,by rw[dz];exact Sm⟩,by omega⟩
     ·rw[dz,e1,lN];simp[tg,Vj,Si]
    simp[iN,ah,aa,Qf,h0,dX,hw,yE,yF,eZ,Lb,nc,j1,j2,j3,h5,hR,hk,aaf,Oa,aag,LK];refine⟨by omega,by rw[j2]at k1;simpa using k1,by simpa[j3]using k2,by omega,aO,⟨i+1+1,_,by simp,by omega,rfl,.inr ⟨by rw[dz,e1];simp,bx.length+2,by rw[dz,e1];simp,by simp,?_⟩,by rw[dz];exact Sm⟩,by omega⟩
    ·rw[dz,e1,lN];simp[tg,Vj,Si,j2]
  obtain rfl:i=B.length:=by omega
  rw[zzbs]at hO;obtain⟨e,h5⟩|⟨e,k,h5,hk,hr⟩:=hO
  ·simp[iN,dX,h5,e]
  simp[iN,dX,h5,e];rw[hr,Zm _ _ (anj _),uX,if_pos (zzab _),Sl]
 exact Xa this (Wk.sl _ _)
open Go Go.Abs
def Hu:SC:=(⟨_,by cbv⟩:tW [1,1,1,1,1,1,1,1] JA).1
def Hv:SC:=(⟨_,fun _=>by cbv⟩:uE [1,1] (tV [1,1,1,1,1,1] JA)).1 Hu
def O4:SC:=(⟨_,fun _=>by cbv⟩:uE [1,1] (tV [1,1,1,1] JA)).1 Hv
def ata:SC:=(⟨_,fun _=>by cbv⟩:uE [1,1,1,1] JA).1 O4
theorem agb:JA=ata:=rfl
def Wt(l:List Int):List Int:=l.mergeSort fun x y=>decide (x<=y)
def rQ(l:List Int):(Wt l).length=l.length:=zzes l
def O5(l:List Int):(l.map Qy).flatten=aj l:=by
 induction l with
 |nil=>rfl
 |cons a r ih=>simp only[zzay,zzcj,ih];rfl
def uY{α:Type}(l:List α):Rt:=if l=[]then .nil else .ro
def aj8:∀{l:List Int},l≠[]->dd l≠[]
 |[],h=>absurd rfl h
 |[x],_=>by simp[dd]
 |x::y::r,_=>by
  rw[FK];split
  ·exact aj8 (by simp)
  simp
def ir(n:Nat)(m:AM)(V:AV)(rows:List (List AV)):Prop:=Qv V=true/\∀m':AM,m.boxes.length<=m'.boxes.length->(∀j,n<=j->j<m.boxes.length->Qh m'.boxes j=Qh m.boxes j)->∀d,bF m' (d+2) V=.sl (uY rows) rows
def ir.mono{n n':Nat}{m:AM}{V:AV}{rows:List (List AV)}(h:ir n m V rows)(hn:n'<=n):ir n' m V rows:=⟨h.1,fun m' h1 h2 d=>h.2 m' h1 (fun j q1 q2=>h2 j (by omega) q2) d⟩
def aah(Y:YT)(m:AM)(rt:Rt)(K:AV->AM->Prop)(hK:K (.sl rt []) m):an Tryz.prog az Y 161 [.sl rt []] m K:=by
 obtain⟨mb,ml,ms,mn⟩:=m;refine Xe BY (fun _ _ _=>.junk) (by simp) ?_;simp[vm,Ah];exact hK
def bh.pre{id:Nat}{mb X B':List (List AV)}(h:bh (·=id) (mb++X) B')(aN:mb.length<=id):∃ex,B'=mb++ex:=by
 refine⟨B'.drop mb.length,?_⟩;apply zzck;intro j;have hl:=h.1;simp only[zzah]at hl;rcases zzaa j mb.length with hj|hj
 ·rw[zzag hj];have:=h.2 j (by simp;omega) (by omega);rw[Ug (by omega),this,Ug hj,Ql hj]
 rw[zzan hj,zzbk];congr 1;omega
def ir.ints{B:List (List AV)}{L:List Nat}{st:Nat->LS}{n k id:Nat}{l:List Int}{c:List AV}(hk:k<=id)(aN:id<B.length)(hB:Qh B id=aj l++c)(hc:Zg c=true)(aK:l≠[]):ir k ⟨B,L,st,n⟩ (.bs id 0 l.length 1) (l.map Qy):=by
 have aS:uY (l.map Qy)=.ro:=by unfold uY;rw[if_neg (by simpa using aK)]
 rw[ir,aS];refine⟨rfl,fun m' h1 h2 d=>?_⟩;have hr:=h2 id hk aN;simp only at hr h1
 have bV:Zg (aj l++c)=true:=by
  have:=XQ l;unfold Zg at this hc |-
  rw[zzfd,this,hc];rfl
 rw[XI,Vp];rw[hr,hB,Zm _ _ bV,if_pos (by rw[zzah,Uk];omega),zzdb,wU];rfl
def Hw(Y:YT)(orc:Nat->FuncId->List AV->AV)(ho5:orc 95 999999 []=.aJ 0 [])(ho7:orc 97 999999 []=.aJ 0 [])(hs:∀d l,orc d 160 l=.gd false .junk)(hp:∀d l,orc d 161 l=.gd false .junk)
  (E:List (Nat×AV))(mb:List (List AV))(ml:List Nat)(ms:Nat->LS)(mn:Nat)(g:Pg)(f:Int)(mid k3:Nat)(V8:AV)(rD:Rt)(D:List Int)(Q:Exit->AS->Prop)
  (h3:Abs.look E 3=.ptr k3 0)(Ba:k3<mb.length)(Tv:Qh mb k3=Qu g f mid)(h8:Abs.look E 8=V8)(K4:Abs.look E 16=.sl rD (D.map Qy))(ew:g.dr.length<=1000000)(AW:D.length<=1000000)
  (hQ:∀E' ex vd,Abs.look E' 6=V8->Abs.look E' 7=vd->ir mb.length ⟨mb++ex,ml,ms,mn⟩ vd ((dd (Wt (g.dr++D))).map Qy)->Q .ret ⟨Ze 103 E',⟨mb++ex,ml,ms,mn⟩⟩):
  vc Tryz.prog az orc Y Hu ⟨Ze 103 E,⟨mb,ml,ms,mn⟩⟩ Q:=by
 simp only[Qu,Qo,Qc,zzae,zzaj]at Tv
 have fin:∀(X:List (List AV))(id:Nat)(K:AV->AV->AM->Prop),mb.length<=id->id<(mb++X).length->Qh (mb++X) id=aj (g.dr++D)->g.dr++D≠[]->
   (∀ex vd,ir mb.length ⟨mb++ex,ml,ms,mn⟩ vd ((dd (Wt (g.dr++D))).map Qy)->K (.aW []) vd ⟨mb++ex,ml,ms,mn⟩)->
   an Tryz.prog az Y 160 [.bs id 0 (g.dr++D).length 1] ⟨mb++X,ml,ms,mn⟩ (fun r0 m'=>an Tryz.prog az Y 161 [.bs id 0 (g.dr++D).length 1] m' (K r0)):=by
  intro X id K bZ ai ah aK hK;refine sH Y (g.dr++D) (by simp;omega) _ id [] (by rw[zzat];exact Ke ai ah) (by rw[zzat];intro h;have:=congrArg List.length h;rw[Uk]at this;exact aK (zzav this)) _ ?_;have aH:(g.dr++D).length=(Wt (g.dr++D)).length:=(rQ _).symm;rw[aH];have eC:Wt (g.dr++D)≠[]:=fun h=>aK (by have:=congrArg List.length h;rw[rQ]at this;exact zzav this);refine sE Y (Wt (g.dr++D)) (by rw[<- aH];simp;omega) _ _ _ _ id (by simpa using ai) eC ?_ _ ?_
  ·rw[zzat];exact Qs (by rw[zzaz ai];first|rfl|(rw[zzat];rfl))
  intro B' z fN tT _
  have bU:(mb++X).set id (aj (List.mergeSort (g.dr++D) fun x y=>decide (x<=y))++[])=mb++X.set (id-mb.length) (aj (List.mergeSort (g.dr++D) fun x y=>decide (x<=y))++[]):=by
   rw[zzct _ _ bZ]
  rw[bU]at fN;obtain⟨ex,rfl⟩:=bh.pre fN bZ;refine hK ex _ ?_;have axt:id<(mb++ex).length:=by have:=fN.1;simp at this ai |-;omega
  rw[nL]at tT;exact ir.ints bZ axt tT (XQ z) (aj8 eC)
 have hR3:∀ex,Qh (mb++ex) k3=_:=fun ex=>(Ql Ba).trans Tv;have hm5:mutO orc (some 95)=true:=by unfold mutO;simp[ho5]
 have hm7:mutO orc (some 97)=true:=by unfold mutO;simp[ho7]
 simp only[zzah]at fin;by_cases ei:g.dr=[]
 ·by_cases hD:D=[]
  ·simp[Hu,h3,h8,K4,Tv,ei,hD,hs,hp,ho5,ho7];refine pz _ _ _ _ ?_;refine aah _ _ _ _ ?_;have:=fun E' vd h1 h2 h3=>hQ E' [] vd h1 h2 h3;simp only[zzat]at this;refine this _ _ (by simp) (by simp;rfl) ?_;rw[ei,hD];refine⟨rfl,fun m' h1 h2 d=>?_⟩;simp[Wt,dd,uY]
  have aK:g.dr++D≠[]:=by simp[hD]
  have eV:¬aj D=[]:=fun h=>hD (by have:=congrArg List.length h;rw[Uk]at this;exact zzav this);rw[ei]at fin hQ aK;simp only[zzch,zzbu,zzaj]at fin hQ;have pG:∀a∈D,(Qy a).length=1:=fun _ _=>rfl;simp[Hu,h3,h8,K4,Tv,ei,hD,hs,hp,ho5,ho7,O5,Uk];refine⟨⟨by omega,pG⟩,fin [aj D] mb.length _ (zzab _) (by simp) (by simp) hD ?_⟩;intro ex vd hv;exact hQ _ _ _ (by simp) (by simp) hv
 have aK:g.dr++D≠[]:=by simp[ei]
 have eV:¬aj g.dr=[]:=fun h=>ei (by have:=congrArg List.length h;rw[Uk]at this;exact zzav this);have pG:∀a∈D,(Qy a).length=1:=fun _ _=>rfl;have axu:∀a∈g.dr,(Qy a).length=1:=fun _ _=>rfl;have bB:List.take g.dr.length (aj g.dr)=aj g.dr:=zzap (by rw[Uk];exact zzab _);simp[Hu,h3,h8,K4,Tv,ei,hs,hp,ho5,O5,Uk,eV,bB];refine⟨⟨by omega,axu⟩,⟨by omega,pG⟩,fin [[],aj g.dr++aj D] (mb.length+1) _ (by omega) (by simp) (by simp[nL]) aK ?_⟩;intro ex vd hv;exact hQ _ _ _ (by simp) (by simp) hv
open Go Go.Abs
def th(rt fk:Rt):Prop:=∀m d x,bF m (d+1) (.sl rt x)=.sl fk x
def th.ro:th .ro .ro:=fun _ _ _=>rfl
def th.nil:th .nil .nil:=fun _ _ _=>rfl
def th.own(k s:Nat):th (.own k s) .ro:=fun _ _ _=>rfl
def Mi{α:Type}(l:List α):th (uY l) (uY l):=by
 unfold uY;split
 ·exact th.nil
 exact th.ro
def EvW(ml:List Nat)(rt:Rt)(n:Nat):Prop:=(rt=.nil/\n=0)\/∃k,rt=.own k 7/\ml[k]?=some n
def aai(Y:YT)(orc:Nat->FuncId->List AV->AV)(ho5:orc 95 999999 []=.aJ 0 [])(ho7:orc 97 999999 []=.aJ 0 [])(ho1:orc 91 999999 []=.junk)(hs:∀d l,orc d 160 l=.gd false .junk)(hp:∀d l,orc d 161 l=.gd false .junk)
  (E:List (Nat×AV))(mb:List (List AV))(ml:List Nat)(ms:Nat->LS)(mn:Nat)(g:Pg)(f:Int)(mid k3 k5:Nat)(q:Pl)(d:Int)(rte ce rti ci rL rD:Rt)(ev bl:List bE)(en:Int)(ids D:List Int)(L:List Sp)(past:List Ad)(Q:Exit->AS->Prop)
  (atb:∀d l,orc d 159 l=.sl .ro (past.map Vj))(atc:∀d l,orc d 158 l=.aW [.sl rL (L.map Qe),.sl rD (D.map Qy)])(h62:∀d l,orc d 62 l=.sl .ro (bl.map Qf))
  (agc:Pure Tryz.prog az 159 [.sl ce (ev.map Zv),I en] (.sl .ro (past.map Vj)))
  (aaj:Pure Tryz.prog az 158 [.agg (Qc q),.sl ci (ids.map Qy),I en,.sl .ro (past.map Vj)] (.aW [.sl rL (L.map Qe),.sl rD (D.map Qy)]))
  (k62:Pure Tryz.prog az 62 [.agg (Qc q),.sl rL (L.map Qe),I en] (.sl .ro (bl.map Qf)))
  (hce:th rte ce)(hci:th rti ci)(hcL:th rL rL)
  (h3:Abs.look E 3=.ptr k3 0)(Ba:k3<mb.length)(Tv:Qh mb k3=Qu g f mid)(h5:Abs.look E 5=.ptr k5 0)(hk5:k5<mb.length)(hr5:Qh mb k5=Qc q++[I d])
  (h8:Abs.look E 8=.sl rte (ev.map Zv))(axv:EvW ml rte ev.length)(h9:Abs.look E 9=I en)(qy:Abs.look E 12=.sl rti (ids.map Qy))
  (ew:g.dr.length<=1000000)(AW:D.length<=1000000)(hl3:ev.length<=1000000)(hl4:bl.length<=10000000)
  (hQ:∀E' ex ls ke vd,Abs.look E' 6=.sl (.own ke 7) (ev.map Zv++bl.map Qf)->Abs.look E' 7=vd->ir mb.length ⟨mb++ex,ls,ms,mn⟩ vd ((dd (Wt (g.dr++D))).map Qy)->Q .ret ⟨Ze 103 E',⟨mb++ex,ls,ms,mn⟩⟩):
  vc Tryz.prog az orc Y Hv ⟨Ze 103 E,⟨mb,ml,ms,mn⟩⟩ Q:=by
 have atd:=fun m d x=>hce m d x;have ate:=fun m d x=>hci m d x;have atf:=fun m d x=>hcL m d x;simp only[Qc,zzae,zzaj]at hr5;simp only[Qc]at aaj k62;have hR5:∀ex,Qh (mb++ex) k5=_:=fun ex=>(Ql hk5).trans hr5;have hw7:∀a∈ev,(Zv a).length=7:=fun _ _=>rfl;have axw:∀a∈bl,(Qf a).length=7:=fun _ _=>rfl;obtain⟨rfl,hn⟩|⟨k,rfl,hk⟩:=axv
 ·have he:ev=[]:=zzav hn;subst he;simp[Hv,h8,h9,qy,h5,hr5,atd,ate,atf,atb,atc,h62,ho1];refine⟨agc,aaj,k62,⟨axw,by omega⟩,Hw Y orc ho5 ho7 hs hp _ mb _ ms mn g f mid k3 (.sl (.own ml.length 7) (bl.map Qf)) rD D Q (by simp[h3]) Ba Tv (by simp) (by simp) ew AW ?_⟩;intro E' ex vd q1 q2 q3;exact hQ E' ex _ ml.length vd (by rw[q1];rfl) q2 q3
 simp[Hv,h8,h9,qy,h5,hr5,atd,ate,atf,atb,atc,h62,hk];refine⟨agc,aaj,k62,⟨?_,by omega⟩,Hw Y orc ho5 ho7 hs hp _ mb _ ms mn g f mid k3 (.sl (.own k 7) (ev.map Zv++bl.map Qf)) rD D Q (by simp[h3]) Ba Tv (by simp) (by simp) ew AW ?_⟩
 ·rintro row (⟨a,_,rfl⟩|⟨a,_,rfl⟩)<;>rfl
 intro E' ex vd q1 q2 q3;exact hQ E' ex _ k vd q1 q2 q3
open Go Go.Abs
def ko(g:Pg)(b:List (Int×Bool))(e:En):Bool:=!zi b e.id&&!decide (e.id∈g.dr)
def Kg(g:Pg)(b:List (Int×Bool))(l:List En):List Int:=(l.filter (ko g b)).map (·.id)
def Sn(g:Pg)(b:List (Int×Bool))(l:List En)(e:En):Kg g b (l++[e])=Kg g b l++(if ko g b e then[e.id]else[]):=by
 unfold Kg;rw[zzcr,zzby];congr 1;cases h:ko g b e<;>simp[h]
def ku(g:Pg)(b:List (Int×Bool))(l:List En):(Kg g b l).length<=l.length:=by
 unfold Kg;rw[zzbf];exact zzbr _ _
def IdR(ml ls:List Nat)(rt:Rt)(n:Nat):Prop:=(rt=.nil/\n=0/\ls=ml)\/(rt=.own ml.length 1/\n≠0/\ls=ml++[n])
def atg(g:Pg)(b:List (Int×Bool))(q:Pl)(mb:List (List AV))(ml:List Nat)(ms:Nat->LS)(mn:Nat)(s:Nat->AV)(m:AM):Prop:=
 ∃(i:Nat)(bx:List (List AV))(rt:Rt)(ls:List Nat),s 49=I i/\i<=q.ens.length/\m=⟨mb++bx,ls,ms,mn⟩/\s 12=.sl rt ((Kg g b (q.ens.take i)).map Qy)/\IdR ml ls rt (Kg g b (q.ens.take i)).length
def aak(Y:YT)(orc:Nat->FuncId->List AV->AV)(ath:orc 72 999999 []=.junk)(agd:orc 71 999999 []=.junk)
  (E:List (Nat×AV))(mb:List (List AV))(ml:List Nat)(ms:Nat->LS)(mn:Nat)(g:Pg)(f:Int)(mid k3 k5:Nat)(b:List (Int×Bool))(q:Pl)(d:Int)(Q:Exit->AS->Prop)
  (Mj:∀d id,orc d 157 [.sl .ro (g.dr.map Qy),I id]=.bool (decide (id∈g.dr)))
  (h3:Abs.look E 3=.ptr k3 0)(Ba:k3<mb.length)(Tv:Qh mb k3=Qu g f mid)(h5:Abs.look E 5=.ptr k5 0)(hk5:k5<mb.length)(hr5:Qh mb k5=Qc q++[I d])(hb:gz mb mid b)
  (ew:g.dr.length<=1000000)(AW:q.ens.length<=1000000)
  (hQ:∀E' ex rt ls,(∀k,k≠12->k<14->Abs.look E' k=Abs.look E k)->Abs.look E' 12=.sl rt ((Kg g b q.ens).map Qy)->IdR ml ls rt (Kg g b q.ens).length->vc Tryz.prog az orc Y Hv ⟨Ze 103 E',⟨mb++ex,ls,ms,mn⟩⟩ Q):
  vc Tryz.prog az orc Y O4 ⟨Ze 103 E,⟨mb,ml,ms,mn⟩⟩ Q:=by
 simp only[Qu,Qo,Qc,zzae,zzaj]at Tv hr5;have hR3:∀ex,Qh (mb++ex) k3=_:=fun ex=>(Ql Ba).trans Tv;have hR5:∀ex,Qh (mb++ex) k5=_:=fun ex=>(Ql hk5).trans hr5;have hRm:∀ex,Qh (mb++ex) mid=[.aJ 0 (bH .bool b)]:=hb.ext;have hk:∀id,Pure Tryz.prog az 157 [.sl .ro (g.dr.map Qy),I id] (.bool (decide (id∈g.dr))):=fun id=>j7 g.dr id (by omega);simp[O4,h5,hr5];refine Qj oF (atg g b q mb ml ms mn) (fun s _=>q.ens.length-(numOf (s 49)).toNat) ?_ ?_
 ·exact⟨0,[],.nil,ml,by simp,by omega,by simp,by simp[Kg],.inl ⟨rfl,by simp[Kg],rfl⟩⟩
 rintro s m ⟨i,bx,rt,ls,h49,hi,rfl,qy,aS⟩;rcases zzaa i q.ens.length with ai|bu
 ·obtain⟨x,hx⟩:=aR ai;have ah:Qh (q.ens.map Qd) i=Qd x:=Qs (by simp[hx]);have aa:(i:Int)<(q.ens.length:Int):=by omega
  have hw:=bK i (by omega);have bB:q.ens.take (i+1)=q.ens.take i++[x]:=by rw[zzas,hx];rfl
  have mQ:Kg g b (q.ens.take (i+1))=Kg g b (q.ens.take i)++(if ko g b x then[x.id]else[]):=by rw[bB,Sn]
  have gr:=ku g b (q.ens.take i);rw[zzaq]at gr;have skip:ko g b x=false->Kg g b (q.ens.take (i+1))=Kg g b (q.ens.take i):=fun h=>by rw[mQ,h];simp
  have more:ko g b x=true->Kg g b (q.ens.take (i+1))=Kg g b (q.ens.take i)++[x.id]:=fun h=>by rw[mQ,h];simp
  generalize Kg g b (q.ens.take i)=O at*
  generalize dz:Kg g b (q.ens.take (i+1))=O' at*
  have pG:∀a∈O,(Qy a).length=1:=fun _ _=>rfl;rcases Xq AV.bool x.id b 0 with⟨b1,b2,_⟩|⟨u,u',b1,b2,_⟩
  ·by_cases ei:x.id∈g.dr
   ·have e1:=skip (by simp[ko,ei]);simp[h49,aa,ah,Qd,oF,hw,h3,hR3,hRm,b2,ei,Mj,qy];refine⟨by simpa[ei]using hk x.id,aO,⟨i+1,_,rt,ls,by simp,by omega,rfl,by rw[dz,e1];simp,by rw[dz,e1];exact aS⟩,by omega⟩
   have e1:=more (by simp[ko,ei,zi,b1]);obtain⟨rfl,hn,rfl⟩|⟨rfl,hn,rfl⟩:=aS
   ·have hO:O=[]:=zzav hn;subst hO;simp[h49,aa,ah,Qd,oF,hw,h3,hR3,hRm,b2,ei,Mj,qy,ath,agd];refine⟨by simpa[ei]using hk x.id,aO,⟨i+1,_,_,_,by simp,by omega,rfl,by rw[dz,e1];simp[Qy];rfl,by rw[dz,e1];exact .inr ⟨rfl,by simp,by simp⟩⟩,by omega⟩
   simp[h49,aa,ah,Qd,oF,hw,h3,hR3,hRm,b2,ei,Mj,qy,agd];refine⟨by simpa[ei]using hk x.id,⟨?_,by omega⟩,aO,⟨i+1,_,_,_,by simp,by omega,rfl,by rw[dz,e1];simp[Qy];rfl,by rw[dz,e1];exact .inr ⟨rfl,by simp,by simp⟩⟩,by omega⟩
   ·rintro row (⟨a,_,rfl⟩|rfl)<;>rfl
  cases u with
  |true=>
   have e1:=skip (by simp[ko,zi,b1]);simp[h49,aa,ah,Qd,oF,hw,h3,hR3,hRm,b2,Mj,qy];refine⟨aO,⟨i+1,_,rt,ls,by simp,by omega,rfl,by rw[dz,e1];simp,by rw[dz,e1];exact aS⟩,by omega⟩
  |false=>
   by_cases ei:x.id∈g.dr
   ·have e1:=skip (by simp[ko,ei]);simp[h49,aa,ah,Qd,oF,hw,h3,hR3,hRm,b2,ei,Mj,qy];refine⟨by simpa[ei]using hk x.id,aO,⟨i+1,_,rt,ls,by simp,by omega,rfl,by rw[dz,e1];simp,by rw[dz,e1];exact aS⟩,by omega⟩
   have e1:=more (by simp[ko,ei,zi,b1]);obtain⟨rfl,hn,rfl⟩|⟨rfl,hn,rfl⟩:=aS
   ·have hO:O=[]:=zzav hn;subst hO;simp[h49,aa,ah,Qd,oF,hw,h3,hR3,hRm,b2,ei,Mj,qy,ath,agd];refine⟨by simpa[ei]using hk x.id,aO,⟨i+1,_,_,_,by simp,by omega,rfl,by rw[dz,e1];simp[Qy];rfl,by rw[dz,e1];exact .inr ⟨rfl,by simp,by simp⟩⟩,by omega⟩
   simp[h49,aa,ah,Qd,oF,hw,h3,hR3,hRm,b2,ei,Mj,qy,agd];refine⟨by simpa[ei]using hk x.id,⟨?_,by omega⟩,aO,⟨i+1,_,_,_,by simp,by omega,rfl,by rw[dz,e1];simp[Qy];rfl,by rw[dz,e1];exact .inr ⟨rfl,by simp,by simp⟩⟩,by omega⟩
   ·rintro row (⟨a,_,rfl⟩|rfl)<;>rfl
 have hbf:q.ens.take i=q.ens:=zzap bu;rw[hbf]at qy aS;have bJ:¬(i:Int)<(q.ens.length:Int):=by omega
 simp[h49,bJ,oF];refine hQ _ _ rt ls (fun k h1 h2=>?_) (by simp[qy]) aS;have:k=0\/k=1\/k=2\/k=3\/k=4\/k=5\/k=6\/k=7\/k=8\/k=9\/k=10\/k=11\/k=13:=by omega
 rcases this with rfl|rfl|rfl|rfl|rfl|rfl|rfl|rfl|rfl|rfl|rfl|rfl|rfl<;>simp
end
end Go.Proofs.YtnopaopphmjnmaaGreatDoor
