import Derived.Test.YtnopaopphmjnmaaGreatDoorMBScK
import Derived.Test.YtnopaopphmjnmaaGreatDoorMBMcG
set_option linter.all false
set_option maxRecDepth 100000
set_option maxHeartbeats 64000000
namespace Go.Proofs.YtnopaopphmjnmaaGreatDoor
noncomputable section
open Go Go.Abs
def xX(n a b:Int)(ha:0<=a/\a<=1000000000)(hb:0<=b/\b<=1000000000):Pure Tryz.prog az 229 [I n,I a,I b] (.bool (decide (n=a+b))):=by
 have hw:IntKind.i64.wrap (a+b)=a+b:=by rw[Qi]<;>omega
 have h1:¬a<0:=by omega
 have h2:¬b<0:=by omega
 have h3:¬a+b<0:=by omega
 refine Qn adi (fun _ _ _=>.junk) (by simp) ?_;by_cases h:n=a+b<;>simp[ahX,ahY,hw,h1,h2,h3,h]
def RL(e:bE):Ad:=⟨e.it,0,e.st,e.fr⟩
def rq(n:Int):List Ad->List Ad
 |[]=>[]
 |[a]=>[{a with fs:=a.fs+n}]
 |a::b::r=>a::rq n (b::r)
def G3(n:Int)(a:Ad):∀l:List Ad,rq n (l++[a])=l++[{a with fs:=a.fs+n}]
 |[]=>rfl
 |[x]=>rfl
 |x::y::r=>by have:=G3 n a (y::r);simp only[zzae]at this |-;rw[rq,this]
def xY(x e:bE):Prop:=x.id=e.id/\e.st=x.st+x.fr/\e.i=x.i+x.fr
instance (x e:bE):Decidable (xY x e):=by unfold xY;infer_instance
def Yw(x:Option bE)(e:bE)(out:List Ad):List Ad:=
 if e.id=0 then out else match x with
 |none=>out++[RL e]
 |some x=>if xY x e then rq e.fr out else out++[RL e]
def tK:Option bE->List bE->List Ad->List Ad
 |_,[],out=>out
 |x,e::r,out=>tK (some e) r (Yw x e out)
def RM(l:List bE)(f:Int):List Ad:=tK none (Ye f l) []
def Bb(e:bE):∀(l:List bE)(x:Option bE)(out:List Ad),tK x (l++[e]) out=Yw (match l.getLast? with|some y=>some y|none=>x) e (tK x l out)
 |[],_,_=>rfl
 |[a],_,_=>rfl
 |a::b::r,x,out=>by
  have:=Bb e (b::r) (some a) (Yw x a out);simp only[zzae]at this |-
  rw[tK,this,List.getLast?_cons_cons];congr 1
def afN{n:Int}:∀{l:List Ad},l≠[]->rq n l≠[]
 |[],h=>absurd rfl h
 |[a],_=>by simp[rq]
 |a::b::r,_=>by simp[rq]
def ru{B:List bE}{i:Nat}{e:bE}(h:B[i]?=some e):tK none (B.take (i+1)) []=Yw (if i=0 then none else B[i-1]?) e (tK none (B.take i) []):=by
 have ai:=(zza.1 h).1;rw[zzar,h];show tK none (B.take i++[e]) []=_;rw[Bb];congr 1;cases i with
 |zero=>rfl
 |succ i=>
  have hx:B[i]?=some B[i]:=zzad (by omega);rw[zzar,hx,zzfe,List.getLast?_concat,if_neg (by omega),zzgb,hx]
def Ov{B:List bE}:∀{i:Nat}{e:bE},B[i]?=some e->e.id≠0->tK none (B.take (i+1)) []≠[]
 |0,e,h,h0=>by rw[ru h,if_pos rfl];simp[Yw,h0]
 |i+1,e,h,h0=>by
  rw[ru h,if_neg (by omega),zzgb];have ai:=(zza.1 h).1;obtain⟨x,hx⟩:∃x,B[i]?=some x:=⟨_,zzad (by omega)⟩;rw[hx];unfold Yw;rw[if_neg h0];simp only;split
  ·rename_i hj;exact afN (Ov hx (by rw[hj.1];exact h0))
  simp
def nS(f:Int)(hf:f<=1000000):∀(l:List bE),(∀e∈l,Ue e)->∀e∈Ye f l,Ue e
 |[],_,e,h=>by cases h
 |a::r,hs,e,h=>by
  have ih:=nS f hf r fun e he=>hs e (by simp[he]);rw[Ye]at h;split at h
  ·exact ih e h
  rename_i bU;rcases zzau.1 h with rfl|h
  ·obtain⟨⟨a1,a2⟩,⟨a3,a4⟩,a5,a6⟩:=hs a (by simp);refine⟨⟨a1,a2⟩,?_,a5,a6⟩;simp only[LF];split<;>omega
  exact ih e h
def FsB(n:Int)(out:List Ad):Prop:=∀a∈out,0<=a.fs/\a.fs<=n
def FsB.inc{n k:Int}(hk:0<=k/\k<=1000000):∀{l:List Ad},FsB n l->FsB (n+1000000) (rq k l)
 |[],_,a,h=>by cases h
 |[x],hl,a,h=>by
  have:=hl x (by simp);simp only[rq,zzbk]at h;subst h;simp only;omega
 |x::y::r,hl,a,h=>by
  rw[rq]at h;rcases zzau.1 h with rfl|h
  ·have:=hl a (by simp);omega
  exact FsB.inc hk (l:=y::r) (fun b hb=>hl b (by simp[hb])) a h
def FsB.step{n:Int}{x:Option bE}{e:bE}{out:List Ad}(h:FsB n out)(hn:0<=n)(he:Ue e):FsB (n+1000000) (Yw x e out):=by
 obtain⟨_,h3,_⟩:=he;have hw:FsB (n+1000000) out:=fun a ha=>by have:=h a ha;omega
 have hp:FsB (n+1000000) (out++[RL e]):=fun a ha=>by
  rcases zzal.1 ha with ha|ha
  ·exact hw a ha
  simp only[zzbk]at ha;subst ha;simp only[RL];omega
 unfold Yw;split
 ·exact hw
 cases x with
 |none=>exact hp
 |some x=>
  simp only;split
  ·exact h.inc h3
  exact hp
def G4(B:List bE)(x:Option bE)(out:List Ad):(tK x B out).length<=out.length+B.length:=by
 induction B generalizing x out with
 |nil=>simp[tK]
 |cons e r ih=>
  rw[tK];have h1:=ih (some e) (Yw x e out)
  have h2:(Yw x e out).length<=out.length+1:=by
   have hi:∀(k:Int)(l:List Ad),(rq k l).length=l.length:=by
    intro k l;induction l with
    |nil=>rfl
    |cons a r ih=>cases r with
     |nil=>rfl
     |cons b r=>rw[rq,zzba,ih];rfl
   unfold Yw;split
   ·omega
   cases x with
   |none=>simp
   |some x=>
    simp only;split
    · rw[hi];omega
    simp
  simp only[zzba];omega
def sI(l:List Ad):List AV:=(l.map Vi).flatten
def uq:∀l,(sI l).length=l.length*4
 |[]=>rfl
 |a::r=>by have:=uq r;simp only[sI,zzaw,zzch,zzag]at this |-;rw[this];simp[Vi];omega
def afO(a b:List Ad):sI (a++b)=sI a++sI b:=by simp[sI]
def amS(l:List Ad):Zg (sI l)=true:=eV (fun _=>rfl) l
def RN{bx:List (List AV)}{k:Nat}{c:List AV}(h:k<bx.length)(ex:List (List AV)):Qh (bx.set k c++ex) k=c:=
 Qs (by rw[zzah (by simpa using h)];simp[h])
def k8(bx:List (List AV))(k:Nat)(c p q r:List AV):Qh (bx.set k c++[p,q,r]) (bx.length+2)=r:=
 Qs (by rw[zzap (by simp)];simp)
def RO(l:List Ad):aU 4 l.length (sI l)=l.map Vi:=by
 have:=Jl (sz:=4) (rows:=l.map Vi) (Qap (f:=Vi) (fun _=>rfl) l);rw[zzbe]at this;exact this
def Ow(bx:List (List AV))(o:List Ad)(v:AV):Prop:=(o=[]/\v=.sl .nil [])\/(o≠[]/\∃k,v=.bs k 0 o.length 4/\k<bx.length/\Qh bx k=sI o)
def asv(B:List bE)(ls:List Nat)(g:Nat->AV)(m:AM):Prop:=
 ∃(i:Nat)(bx:List (List AV)),g 15=I i/\i<=B.length/\m=⟨bx,ls,fun _=>.gone,0⟩/\Ow bx (tK none (B.take i) []) (g 5)/\FsB (i*1000000) (tK none (B.take i) [])
def mF:Nat->FuncId->List AV->AV:=fun d f l=>if f=155 then .gd false .junk else if f=229 then(match l with|[.int _ n,.int _ a,.int _ b]=>.bool (decide (n=a+b))|_=>.junk)else if f=999999 then(if d=73 then .junk else .aK 0 [])else .junk
def Ow.ext{bx:List (List AV)}{o:List Ad}{v:AV}(h:Ow bx o v)(ex:List (List AV)):Ow (bx++ex) o v:=by
 obtain h|⟨h0,k,h1,h2,h3⟩:=h
 ·exact .inl h
 exact .inr ⟨h0,k,h1,by simp;omega,by rw[Ql h2,h3]⟩
def LJ(l:List bE)(f:Int)(hl:l.length<=1000000)(hs:∀e∈l,Ue e)(hf:0<=f/\f<=1000000):Pure Tryz.prog az 159 [.sl .ro (l.map Qf),I f] (.sl .ro ((RM l f).map Vi)):=by
 have hsB:=nS f hf.2 l hs;have hlB:(Ye f l).length<=1000000:=by have:=Qdc f l;omega
 have:Pure Tryz.prog az 159 [.sl .ro (l.map Qf),I f] (.sl (if RM l f=[]then .nil else .ro) ((RM l f).map Vi)):=by
  refine Qn acs mF (by simp) ?_;simp[TQ,ahq,mF];refine xV _ _ l f hl hs hf _ fun ex v ls hO=>?_
  obtain⟨rt,rfl⟩:∃rt,v=.sl rt ((Ye f l).map Qf):=by
   obtain⟨e,rfl,_⟩|⟨e,rfl,_⟩:=hO
   ·exact⟨.nil,by rw[e];rfl⟩
   exact⟨_,rfl⟩
  clear hO;unfold RM;generalize Ye f l=B at*
  simp;refine Qj dP (asv B ls) (fun g _=>B.length-(numOf (g 15)).toNat) ?_ ?_
  ·exact⟨0,ex,by simp,by omega,by simp,.inl ⟨by simp[tK],by simp⟩,fun a h=>by simp[tK]at h⟩
  rintro g m ⟨i,bx,si,hi,rfl,hO,hF⟩;rcases zzaa i B.length with ai|bB
  ·obtain⟨a,ha⟩:=aR ai;have aa:Qh (B.map Qf) i=Qf a:=Qs (by simp[ha]);have hw:=bJ i (by omega);have ah:(i:Int)<(B.length:Int):=by omega
   have qb:=hsB a (zzac ha);have bz:=ru ha;have RP:=hF.step (x:=if i=0 then none else B[i-1]?) (e:=a) (by omega) qb;rw[<- bz]at RP;obtain⟨⟨a1,a2⟩,⟨a3,a4⟩,⟨a5,a6⟩,a7⟩:=qb;by_cases h0:a.id=0
   ·simp[si,aa,ai,Qf,h0,dP,hw];refine⟨aN,⟨i+1,_,by simp,by omega,rfl,?_,?_⟩,by omega⟩
    ·simp[Yw,h0]at bz;rw[bz];simpa using hO.ext _
    have:((i+1:Nat):Int)*1000000=(i:Int)*1000000+1000000:=by omega
    rw[this];exact RP
   cases i with
   |zero=>
    have e1:tK none (B.take 1) []=[RL a]:=by rw[bz];simp[Yw,h0,tK]
    have hO0:g 5=.sl .nil []:=by
     obtain⟨_,h⟩|⟨h,_⟩:=hO
     ·exact h
     exact absurd (by simp[tK]) h
    have eU:IntKind.i64.wrap 1=1:=by rw[Qi]<;>omega
    simp at si;simp[si,aa,ai,Qf,h0,dP,eU,hO0,mF];refine⟨aN,⟨1,_,by simp,by omega,rfl,.inr ⟨by rw[e1];simp,bx.length+1,by simp[e1],by simp,?_⟩,?_⟩,by omega⟩
    ·simp[e1,sI,Vi,RL]
    simpa using RP
   |succ i=>
    have awI:i<B.length:=by omega
    obtain⟨x,hx⟩:=aR awI;have xZ:Qh (B.map Qf) i=Qf x:=Qs (by simp[hx]);obtain⟨⟨x1,x2⟩,⟨x3,x4⟩,⟨x5,x6⟩,x7⟩:=hsB x (zzac hx);have k1:=xX a.st x.st x.fr (by omega) (by omega);have k2:=xX a.i x.i x.fr (by omega) (by omega);have CI:IntKind.i64.wrap (i:Int)=i:=by rw[Qi]<;>omega
    have x9:(i:Int)<(B.length:Int):=by omega
    have eO:(0:Int)<(i:Int)+1:=by omega
    rw[if_neg (by omega),zzgb,hx]at bz;have aJ:=Ov hx;have p9:((i+1+1:Nat):Int)*1000000=((i+1:Nat):Int)*1000000+1000000:=by omega
    have Fv:=G4 (B.take (i+1)) none [];have amT:¬xY x a->tK none (B.take (i+1+1)) []=tK none (B.take (i+1)) []++[RL a]:=fun h=>by rw[bz];simp[Yw,h0,h]
    have ya:xY x a->tK none (B.take (i+1+1)) []=rq a.fr (tK none (B.take (i+1)) []):=fun h=>by rw[bz];simp[Yw,h0,h]
    rw[<- p9]at RP;clear bz;generalize tK none (B.take (i+1)) []=out at*
    generalize cB:tK none (B.take (i+1+1)) []=out' at*
    simp at si ai ah hw Fv;have arM:out.length<=1000000:=by omega
    by_cases hj:xY x a
    ·have e1:=ya hj;obtain⟨j1,j2,j3⟩:=hj;have aJ:=aJ (by rw[j1];exact h0)
     obtain⟨O,z,rfl⟩:∃O z,out=O++[z]:=by
      rcases zzhg out with e|⟨O,z,e⟩
      ·exact absurd e aJ
      exact⟨O,z,by rw[e,zzhh]⟩
     have hOl:(sI O).length=O.length*4:=uq O;have hz:=hF z (by simp);have hwz:IntKind.i64.wrap (z.fs+a.fr)=z.fs+a.fr:=by rw[Qi]<;>omega
     have hd3:∀X:List AV,(sI O++X).drop (O.length*4+3)=X.drop 3:=fun X=>A8 _ _ _ _ hOl;have hs3:∀X Y:List AV,setA (sI O++X) (O.length*4+3) Y=sI O++setA X 3 Y:=fun X Y=>A7 _ _ _ _ _ hOl;obtain⟨e,_⟩|⟨_,k,h5,hk,hr⟩:=hO
     ·exact absurd e aJ
     have hR:∀ex,Qh (bx++ex) k=sI O++[I z.it,I z.re,I z.fr,I z.fs]:=fun ex=>by rw[Ql hk,hr,afO];rfl
     rw[G3]at e1;rw[zzag,zzdv]at h5;have hwo:IntKind.i64.wrap (O.length:Int)=O.length:=by simp at arM;rw[Qi]<;>omega
     have DQ:k<bx.length+1:=by omega
     have ZW:k<bx.length+(1+1):=by omega
     have awJ:k<bx.length+2:=by omega
     simp[si,aa,ah,Qf,h0,dP,hw,xZ,x9,eO,CI,mF,j1,j2,j3,h5,hR,hwo,hd3,hs3,hOl,hwz,hk,ZW];refine⟨by omega,by rw[j2]at k1;simpa using k1,by rw[j3]at k2;simpa using k2,by omega,aN,⟨i+1+1,_,by simp,by omega,rfl,.inr ⟨by rw[cB,e1];simp,k,by rw[cB,e1];simp,by simp;omega,?_⟩,by rw[cB];exact RP⟩,by omega⟩
     ·rw[cB,e1,RN hk];simp[sI,Vi]
    have e1:=amT hj
    have yK:¬x.id=a.id\/(x.id=a.id/\¬a.st=x.st+x.fr)\/(x.id=a.id/\a.st=x.st+x.fr/\¬a.i=x.i+x.fr):=by
     unfold xY at hj;by_cases j1:x.id=a.id
     ·by_cases j2:a.st=x.st+x.fr
      ·exact .inr (.inr ⟨j1,j2,fun j3=>hj ⟨j1,j2,j3⟩⟩)
      exact .inr (.inl ⟨j1,j2⟩)
     exact .inl j1
    obtain⟨rfl,h5⟩|⟨RF,k,h5,hk,hr⟩:=hO
    ·obtain j1|⟨j1,j2⟩|⟨j1,j2,j3⟩:=yK
     ·simp[si,aa,ah,Qf,h0,dP,hw,xZ,x9,eO,CI,mF,j1,h5];refine⟨by omega,aN,⟨i+1+1,_,by simp,by omega,rfl,.inr ⟨by rw[cB,e1];simp,bx.length+2,by rw[cB,e1];simp,by simp,?_⟩,by rw[cB];exact RP⟩,by omega⟩
      ·rw[cB,e1];simp[sI,Vi,RL]
     ·simp[si,aa,ah,Qf,h0,dP,hw,xZ,x9,eO,CI,mF,j1,j2,h5];refine⟨by omega,by simpa[j2]using k1,aN,⟨i+1+1,_,by simp,by omega,rfl,.inr ⟨by rw[cB,e1];simp,bx.length+2,by rw[cB,e1];simp,by simp,?_⟩,by rw[cB];exact RP⟩,by omega⟩
      ·rw[cB,e1];simp[sI,Vi,RL]
     simp[si,aa,ah,Qf,h0,dP,hw,xZ,x9,eO,CI,mF,j1,j2,j3,h5];refine⟨by omega,by rw[j2]at k1;simpa using k1,by simpa[j3]using k2,aN,⟨i+1+1,_,by simp,by omega,rfl,.inr ⟨by rw[cB,e1];simp,bx.length+2,by rw[cB,e1];simp,by simp,?_⟩,by rw[cB];exact RP⟩,by omega⟩
     ·rw[cB,e1];simp[sI,Vi,RL,j2]
    have hR:∀ex,Qh (bx++ex) k=sI out:=fun ex=>by rw[Ql hk,hr]
    have DQ:k<bx.length+1:=by omega
    have ZW:k<bx.length+(1+1):=by omega
    have awJ:k<bx.length+2:=by omega
    have NH:=uq out;have ZX:¬sI out=[]:=by intro h;rw[h]at NH;exact RF (zzav (by simp at NH;omega))
    have Lj:List.take (out.length*4) (sI out)=sI out:=zzam (by omega);obtain j1|⟨j1,j2⟩|⟨j1,j2,j3⟩:=yK
    ·simp[si,aa,ah,Qf,h0,dP,hw,xZ,x9,eO,CI,mF,j1,h5,hR,hk,ZW,NH,ZX,Lj];refine⟨by omega,by omega,aN,⟨i+1+1,_,by simp,by omega,rfl,.inr ⟨by rw[cB,e1];simp,bx.length+2,by rw[cB,e1];simp,by simp,?_⟩,by rw[cB];exact RP⟩,by omega⟩
     ·rw[cB,e1,k8];simp[sI,Vi,RL]
    ·simp[si,aa,ah,Qf,h0,dP,hw,xZ,x9,eO,CI,mF,j1,j2,h5,hR,hk,ZW,NH,ZX,Lj];refine⟨by omega,by simpa[j2]using k1,by omega,aN,⟨i+1+1,_,by simp,by omega,rfl,.inr ⟨by rw[cB,e1];simp,bx.length+2,by rw[cB,e1];simp,by simp,?_⟩,by rw[cB];exact RP⟩,by omega⟩
     ·rw[cB,e1,k8];simp[sI,Vi,RL]
    simp[si,aa,ah,Qf,h0,dP,hw,xZ,x9,eO,CI,mF,j1,j2,j3,h5,hR,hk,ZW,NH,ZX,Lj];refine⟨by omega,by rw[j2]at k1;simpa using k1,by simpa[j3]using k2,by omega,aN,⟨i+1+1,_,by simp,by omega,rfl,.inr ⟨by rw[cB,e1];simp,bx.length+2,by rw[cB,e1];simp,by simp,?_⟩,by rw[cB];exact RP⟩,by omega⟩
    ·rw[cB,e1,k8];simp[sI,Vi,RL,j2]
  obtain rfl:i=B.length:=by omega
  rw[zzbm]at hO;obtain⟨e,h5⟩|⟨e,k,h5,hk,hr⟩:=hO
  ·simp[si,dP,h5,e]
  simp[si,dP,h5,e];rw[hr,Zl _ _ (amS _),uq,if_pos (zzab _),RO]
 exact Qy this (Wk.sl _ _)
open Go Go.Abs
def stF(ok:List Int->Bool)(rd:Int->Nat)(ids:List Int)(r:Nat):Nat->Nat->List Bool->List Bool
 |0,_,K=>K
 |n+1,i,K=>stF ok rd ids r n (i+1) (Jr ok rd ids r K i)
def RQ(ok:List Int->Bool)(rd:Int->Nat)(ids:List Int)(r:Nat)(K:List Bool):Uy ok rd ids r K=stF ok rd ids r ids.length 0 K:=by
 have:∀(n i:Nat)(K:List Bool),(List.range' i n).foldl (Jr ok rd ids r) K=stF ok rd ids r n i K:=by
  intro n;induction n with
  |zero=>intro i K;rfl
  |succ n ih=>intro i K;rw[zzgo,zzcw,ih];rfl
 unfold Uy;rw[zzfq];exact this _ _ _
def ZY{ok:List Int->Bool}{rd:Int->Nat}{ids:List Int}{r:Nat}{K:List Bool}{i:Nat}{id:Int}(h:ids[i]?=some id):Jr ok rd ids r K i=if rd id=r then K.set i (ok (Xb true ids (K.set i true)))else K:=by
 unfold Jr;rw[h]
def chF(ok:List Int->Bool)(rd:Int->Nat)(ids:List Int):Nat->Nat->List Bool->List Bool
 |0,_,K=>K
 |n+1,r,K=>chF ok rd ids n (r+1) (Uy ok rd ids r K)
def yb(p:Pl)(ids:List Int):List (List AV):=[Qc p,[.sl .ro (ids.map Xa)]]
def cS(E:List (List AV))(n:Nat)(K:List Bool)(ex:List (List AV)):List (List AV):=E++(K.map AV.bool::[.bs (E.length+12) 0 n 1]::ex)
def zy(p:Pl)(ids:List Int)(b:Bd)(E:List (List AV))(K:List Bool)(ex:List (List AV))(ls:List Nat):AM:=aP (yb p ids) b (cS E ids.length K ex) ls
def lQ(b:Bd)(rv:List (Int×(Rt×List Sp)))(li:List (Int×Int))(pm:List ((Int×Int)×List Sp)):Bd:={b with rv:=rv,li:=li,pm:=pm}
def asw(p:Pl)(ids:List Int)(b:Bd)(E:List (List AV))(T:List Bool)(f:Nat->AV)(m:AM):Prop:=
 ∃(r:Nat)(K:List Bool)(rv:List (Int×(Rt×List Sp)))(li:List (Int×Int))(pm:List ((Int×Int)×List Sp))(ex:List (List AV))(ls:List Nat),f 36=I r/\r<=3/\K.length=ids.length/\chF (nZ b) (RR p) ids (3-r) r K=T/\AZ (lQ b rv li pm)/\m=zy p ids (lQ b rv li pm) E K ex ls
def asx(p:Pl)(ids:List Int)(b:Bd)(E:List (List AV))(r:Nat)(T:List Bool)(f:Nat->AV)(m:AM):Prop:=
 ∃(i:Nat)(K:List Bool)(rv:List (Int×(Rt×List Sp)))(li:List (Int×Int))(pm:List ((Int×Int)×List Sp))(ex:List (List AV))(ls:List Nat),f 41=I i/\i<=ids.length/\K.length=ids.length/\stF (nZ b) (RR p) ids r (ids.length-i) i K=T/\AZ (lQ b rv li pm)/\m=zy p ids (lQ b rv li pm) E K ex ls
def awK(p:Pl)(ids:List Int)(b:Bd)(E:List (List AV))(K:List Bool)(ex:List (List AV))(ls:List Nat)(S:List Int)(v:AV)(m:AM):Prop:=
 ∃(a:AV)(rv:List (Int×(Rt×List Sp)))(li:List (Int×Int))(pm:List ((Int×Int)×List Sp))(dL:List (List AV))(exl:List Nat),v=.aV [a,.bool (nZ b S)]/\AZ (lQ b rv li pm)/\m=zy p ids (lQ b rv li pm) E K (ex++dL) (ls++exl)
def Ox:Nat->FuncId->List AV->AV:=fun d f _=>if f=999999 then(if d=34 then .aK 0 []else .junk)else .gd false .junk
def ZZ{p:Pl}{ids:List Int}(hi:ids.length<=1000)(b:Bd)(E:List (List AV))(K:List Bool)(hk:K.length=ids.length)(ex:List (List AV))(ls:List Nat)(w:Bool)(Y:YT)(Q:AV->AM->Prop)
  (hQ:Q (.sl (ry ls.length (Xb w ids K)) ((Xb w ids K).map Xa)) (zy p ids b E K ex (ls++nT (Xb w ids K)))):
  an Tryz.prog az Y 227 [.bool w,.ptr 1 0,.ptr (E.length+13) 0] (zy p ids b E K ex ls) Q:=by
 refine RS ids K w hi hk (zy p ids b E K ex ls) 1 (E.length+13) (E.length+12) ?_ ?_ ?_ ?_ ?_ ?_ Y Q hQ;all_goals simp[zy,aP,bq,yb,cS]
 all_goals omega
def qI(a:AV):∀n:Nat,bG n [a]=List.replicate n a
 |0=>rfl
 |n+1=>by rw[bG,qI a n];rfl
def Z0{p:Pl}(h:PlK p){at_:Int}(ha:amU at_){past:List Ad}(hp:past.length<=1000)(pre post:List (List AV))(ls:List Nat)(rv:List (Int×(Rt×List Sp)))(li:List (Int×Int))(pm:List ((Int×Int)×List Sp))(hB:AZ (lQ (iB p at_ past) rv li pm))
  (S:List Int)(hS:S.length<=1000)(rt0:Rt)(Y:YT)(K:AV->AM->Prop)
  (
   hK:∀a rv li pm ex exl,AZ (lQ (iB p at_ past) rv li pm)->((Ym p at_ past S=none/\a=.sl .nil [])\/∃l rt,Ym p at_ past S=some l/\CX 2 ls.length (ls++exl) rt l/\a=.sl rt (l.map Qe))->
   K (.aV [a,.bool (nZ (iB p at_ past) S)]) (aP pre (lQ (iB p at_ past) rv li pm) (post++ex) (ls++exl))):
  an Tryz.prog az Y 122 [.ptr (pre.length+9) 0,.sl rt0 (S.map Xa)] (aP pre (lQ (iB p at_ past) rv li pm) post ls) K:=by
 have mq:=h.spn;obtain⟨l1,l2,l3,l4,l5,l6,l7,l8,l9,l10⟩:=h;have hU:=Z1 past;have hE:=Z2 p past;refine Qdr pre post ls (lQ (iB p at_ past) rv li pm) S rt0 past.length (by omega) (by omega) (show p.cls.length<=1000000 by omega) (show p.sh.length<=1000000000 by omega) (show p.aM.length<=1000000000 by omega) (show p.ens.length<=1000000000 by omega) (show(Yy p).length<=1000000000 by omega) l7.2 (fun e he=>(l8 e he).2) ha.2 hU hE hB Y K (fun h0 rv li pm dL exl hB=>?_) (fun l h1 rv li pm dL exl JH hB KR=>?_)
 ·have h0:Ym p at_ past S=none:=h0;have:=hK (.sl .nil []) rv li pm dL exl hB (.inl ⟨h0,rfl⟩);rw[ur,h0]at this;exact this
 have h1:Ym p at_ past S=some l:=h1;have:=hK (.sl JH (l.map Qe)) rv li pm dL exl hB (.inr ⟨l,JH,h1,KR,rfl⟩);rw[ur,h1]at this;exact this
def pO(w:Bool)(ids:List Int)(K:List Bool):(Xb w ids K).length<=ids.length:=(jS w ids K).length_le
def Z3{p:Pl}(h:PlK p){at_:Int}(ha:amU at_){past:List Ad}(hp:past.length<=1000){ids:List Int}(hi:ids.length<=1000):
  Pure Tryz.prog az 158 [.agg (Qc p),.sl .ro (ids.map Xa),I at_,.sl .ro (past.map Vi)] (RT p at_ past ids):=by
 have EV:=h;obtain⟨l1,l2,l3,l4,l5,l6,l7,l8,l9,l10⟩:=h;refine Qn acr Ox (by simp) ?_;simp[MS,Qc,Ox];have k41:=fun K'=>xh (yb p ids) [] p at_ past .ro (by omega) (by omega) (by omega) Y0 K';simp only[yb,Qc]at k41;refine k41 _ fun ex=>?_;clear k41;simp[aP,bq,Qp,Qc];refine Z0 EV ha hp (yb p ids) ex [] [] [] [] (amV p at_ past) ids hi .ro Y0 _ (fun a rv li pm dL exl hB hr=>?_);obtain⟨h0,rfl⟩|⟨l,rt,h1,hO,rfl⟩:=hr
 ·have bT:nZ (iB p at_ past) ids=false:=by rw[ur,h0];rfl
  rw[bT];obtain⟨E,hE⟩:∃E,ex++dL=E:=⟨_,rfl⟩;rw[hE];simp[aP,bq,Qp,yb,Qc,lQ,iB];refine⟨by omega,?_⟩;refine Qj I2 (asw p ids (iB p at_ past) E (Kn p at_ past ids)) (fun f _=>(3-numOf (f 36)).toNat) ?_ ?_
  ·exact⟨0,List.replicate ids.length false,rv,li,pm,[],exl,by simp,by omega,by simp,rfl,hB,by simp[zy,aP,bq,Qp,yb,cS,Qc,lQ,iB,qI]⟩
  clear hB;rintro f m ⟨r,K,rv,li,pm,sC,ls,h36,S8,hK,hT,hB,rfl⟩;rcases zzaa r 3 with rlt|rge
  ·have awL:(r:Int)<3:=by omega
   have qc:=bJ r (by omega);obtain⟨n,hn⟩:∃n,3-r=n+1:=⟨2-r,by omega⟩;rw[hn,chF]at hT;obtain⟨T,hTr⟩:∃T,Uy (nZ (iB p at_ past)) (RR p) ids r K=T:=⟨_,rfl⟩;rw[hTr]at hT;rw[RQ]at hTr;simp[h36,awL,I2,zy,aP,bq,yb,cS,lQ,iB];refine Qj I3 (asx p ids (iB p at_ past) E r T) (fun f _=>ids.length-(numOf (f 41)).toNat) ?_ ?_
   ·exact⟨0,K,rv,li,pm,sC,ls,by simp,by omega,hK,by simpa using hTr,hB,by simp[zy,aP,bq,yb,cS,lQ,iB]⟩
   clear hTr hK hB;rintro g m ⟨i,K,rv,li,pm,sC,ls,g41,fR,hK,hTi,hB,rfl⟩;rcases zzaa i ids.length with ai|bB
   ·obtain⟨id,hx⟩:=aR ai;have aa:Qh (ids.map Xa) i=Xa id:=Qs (by simp[hx]);have ah:(i:Int)<(ids.length:Int):=by omega
    have hw:=bJ i (by omega);obtain⟨n2,rO⟩:∃n2,ids.length-i=n2+1:=⟨ids.length-i-1,by omega⟩;have hn3:ids.length-(i+1)=n2:=by omega
    rw[rO,stF,ZY hx]at hTi;simp[g41,ah,aa,Xa,I3,zy,aP,bq,yb,cS,lQ,iB,Ox];refine afP (yb p ids) (cS E ids.length K sC) ls (lQ (iB p at_ past) rv li pm) id Y0 _ (fun exr=>?_);have hpb:(lQ (iB p at_ past) rv li pm).p=p:=rfl;rw[hpb];by_cases gC:RR p id=r
    ·rw[if_pos gC]at hTi;have amW:((RR p id:Nat):Int)=(r:Int):=by omega
     have hms:(K.map AV.bool).set i (.bool true)=(K.set i true).map AV.bool:=by rw[zzfd]
     simp[amW,aP,bq,yb,cS,lQ,iB];refine⟨ai,by omega,?_⟩;rw[hms];obtain⟨S,hS⟩:∃S,Xb true ids (K.set i true)=S:=⟨_,rfl⟩;have hSl:S.length<=1000:=by have:=pO true ids (K.set i true);rw[hS]at this;omega
     have hK2:(K.set i true).length=ids.length:=by simpa using hK
     rw[hS]at hTi;obtain⟨ok,afQ⟩:∃ok,nZ (iB p at_ past) S=ok:=⟨_,rfl⟩;rw[afQ]at hTi
     refine W4 rfl [(.sl (ry ls.length S) (S.map Xa),zy p ids (lQ (iB p at_ past) rv li pm) E (K.set i true) (sC++exr) (ls++nT S))] (awK p ids (iB p at_ past) E (K.set i true) (sC++exr) (ls++nT S) S)
      ⟨(.aV [.sl .nil [],.bool (nZ (iB p at_ past) S)],zy p ids (lQ (iB p at_ past) rv li pm) E (K.set i true) ((sC++exr)++[]) ((ls++nT S)++[])),.sl .nil [],rv,li,pm,[],[],rfl,hB,rfl⟩ (fun v m' hv=>?_)
     obtain⟨a,rv2,sB,Of,xu,amX,rfl,th,rfl⟩:=hv;rw[afQ];simp[zy,aP,bq,yb,cS,lQ,iB,hw];rw[hms];have axK:(K.map AV.bool).set i (.bool ok)=(K.set i ok).map AV.bool:=by rw[zzfd]
     refine⟨?_,?_,ai,by omega,aN,⟨i+1,K.set i ok,rv2,sB,Of,(sC++exr)++xu,ls++nT S++amX,by simp,by omega,by simpa using hK,by rw[hn3];exact hTi,th,by simp[zy,aP,bq,yb,cS,lQ]⟩,by simp[g41];omega⟩
     ·refine ZZ (p:=p) hi (lQ (iB p at_ past) rv li pm) E (K.set i true) hK2 (sC++exr) ls true Y0 _ ?_;rw[hS];exact⟨rfl,rfl⟩
     refine Z0 EV ha hp (yb p ids) (cS E ids.length (K.set i true) (sC++exr)) (ls++nT S) rv li pm hB S hSl _ Y0 _ (fun a rv li pm ex exl hB _=>⟨a,rv,li,pm,ex,exl,rfl,hB,by simp[zy,cS];rfl⟩)
    rw[if_neg gC]at hTi;have amW:¬((RR p id:Nat):Int)=(r:Int):=by omega
    simp[amW,aP,bq,yb,cS,lQ,iB,hw];refine⟨aN,⟨i+1,K,rv,li,pm,sC++exr,ls,by simp,by omega,hK,by rw[hn3];exact hTi,hB,by simp[zy,aP,bq,yb,cS,lQ]⟩,by omega⟩
   have bI:¬(i:Int)<(ids.length:Int):=by omega
   have hz:ids.length-i=0:=by omega
   rw[hz,stF]at hTi;subst hTi;simp[g41,bI,I3,h36,zy,aP,bq,yb,cS,lQ,iB,qc];refine⟨aN,⟨r+1,K,rv,li,pm,sC,ls,by simp,by omega,hK,by rw[show 3-(r+1)=n by omega];exact hT,hB,by simp[zy,aP,bq,yb,cS,lQ]⟩,by omega⟩
  have rin:¬(r:Int)<3:=by omega
  obtain rfl:r=3:=by omega
  have hT:K=Kn p at_ past ids:=hT;subst hT;obtain⟨ka,kb,kc⟩:=LK p at_ past ids;obtain⟨L,hL⟩:=zzco.1 kb;simp[h36,I2,zy,aP,bq,yb,cS,lQ,iB,Ox];refine ZZ (p:=p) hi (lQ (iB p at_ past) rv li pm) E (Kn p at_ past ids) ka sC ls true Y0 _ ?_;obtain⟨S,hS⟩:∃S,Xb true ids (Kn p at_ past ids)=S:=⟨_,rfl⟩;have hSl:S.length<=1000:=by have:=pO true ids (Kn p at_ past ids);rw[hS]at this;omega
  have hr:RT p at_ past ids=.aV [Iy L,G5 (Xb false ids (Kn p at_ past ids))]:=by rw[RT,hL];rfl
  rw[hr];rw[hS]at hL |-
  simp[zy,aP,bq,yb,cS,lQ,iB];refine Z0 EV ha hp (yb p ids) (cS E ids.length (Kn p at_ past ids) sC) (ls++nT S) rv li pm hB S hSl _ Y0 _ (fun a rv li pm xu amX hB hv=>?_);obtain⟨h0,_⟩|⟨l,rt,h1,hO,rfl⟩:=hv
  ·rw[hL]at h0;cases h0
  rw[hL]at h1;cases h1;simp[aP,bq,yb,cS,lQ,iB];refine ZZ (p:=p) hi (lQ (iB p at_ past) rv li pm) E (Kn p at_ past ids) ka (sC++xu) (ls++(nT S++amX)) false Y0 _ ?_;obtain⟨D,hD⟩:∃D,Xb false ids (Kn p at_ past ids)=D:=⟨_,rfl⟩;rw[hD];by_cases hDe:D=[]
  ·subst hDe;obtain⟨rfl,rfl⟩|⟨k2,rfl,_,_,aJ⟩:=hO
   ·simp[uI,Iy,G5,ry]
   simp[uI,Iy,G5,ry,aJ]
  obtain⟨rfl,rfl⟩|⟨k2,rfl,_,_,aJ⟩:=hO
  ·simp[uI,Iy,G5,ry,hDe]
  simp[uI,Iy,G5,ry,hDe,aJ]
 have bT:nZ (iB p at_ past) ids=true:=by rw[ur,h1];rfl
 obtain⟨cV,di⟩:=RU p at_ past ids (by rw[h1];rfl);have hr:RT p at_ past ids=.aV [Iy l,.sl .nil []]:=by rw[RT,cV,di,h1];rfl
 rw[bT,hr];obtain⟨rfl,rfl⟩|⟨k2,rfl,_,_,aJ⟩:=hO
 ·simp[uI,Iy]
 simp[uI,Iy,aJ]
open Go Go.Abs
def G6:SC:=(⟨_,by cbv⟩:vO [1,1,1,1,1,1,1,1] IK).1
def G7:SC:=(⟨_,fun _=>by cbv⟩:vP [1,1] (tf [1,1,1,1,1,1] IK)).1 G6
def Oy:SC:=(⟨_,fun _=>by cbv⟩:vP [1,1] (tf [1,1,1,1] IK)).1 G7
def asy:SC:=(⟨_,fun _=>by cbv⟩:vP [1,1,1,1] IK).1 Oy
theorem afR:IK=asy:=rfl
def Wj(l:List Int):List Int:=l.mergeSort fun x y=>decide (x<=y)
def rz(l:List Int):(Wj l).length=l.length:=zzem l
def Oz(l:List Int):(l.map Xa).flatten=aj l:=by
 induction l with
 |nil=>rfl
 |cons a r ih=>simp only[zzaw,zzch,ih];rfl
def uu{α:Type}(l:List α):Rt:=if l=[]then .nil else .ro
def ajJ:∀{l:List Int},l≠[]->dd l≠[]
 |[],h=>absurd rfl h
 |[x],_=>by simp[dd]
 |x::y::r,_=>by
  rw[Fp];split
  ·exact ajJ (by simp)
  simp
def gU(n:Nat)(m:AM)(V:AV)(rows:List (List AV)):Prop:=Qv V=true/\∀m':AM,m.boxes.length<=m'.boxes.length->(∀j,n<=j->j<m.boxes.length->Qh m'.boxes j=Qh m.boxes j)->∀d,bF m' (d+2) V=.sl (uu rows) rows
def gU.mono{n n':Nat}{m:AM}{V:AV}{rows:List (List AV)}(h:gU n m V rows)(hn:n'<=n):gU n' m V rows:=⟨h.1,fun m' h1 h2 d=>h.2 m' h1 (fun j q1 q2=>h2 j (by omega) q2) d⟩
def Z4(Y:YT)(m:AM)(rt:Rt)(K:AV->AM->Prop)(hK:K (.sl rt []) m):an Tryz.prog az Y 161 [.sl rt []] m K:=by
 obtain⟨mb,ml,ms,mn⟩:=m;refine Xd BC (fun _ _ _=>.junk) (by simp) ?_;simp[uJ,zN];exact hK
def aZ.pre{id:Nat}{mb X B':List (List AV)}(h:aZ (·=id) (mb++X) B')(aO:mb.length<=id):∃ex,B'=mb++ex:=by
 refine⟨B'.drop mb.length,?_⟩;apply zzci;intro j;have hl:=h.1;simp only[zzag]at hl;rcases zzaa j mb.length with hj|hj
 ·rw[zzah hj];have:=h.2 j (by simp;omega) (by omega);rw[Yz (by omega),this,Yz hj,Ql hj]
 rw[zzap hj,zzbj];congr 1;omega
def gU.ints{B:List (List AV)}{L:List Nat}{st:Nat->LS}{n k id:Nat}{l:List Int}{c:List AV}(hk:k<=id)(aO:id<B.length)(hB:Qh B id=aj l++c)(hc:Zg c=true)(aJ:l≠[]):gU k ⟨B,L,st,n⟩ (.bs id 0 l.length 1) (l.map Xa):=by
 have aT:uu (l.map Xa)=.ro:=by unfold uu;rw[if_neg (by simpa using aJ)]
 rw[gU,aT];refine⟨rfl,fun m' h1 h2 d=>?_⟩;have hr:=h2 id hk aO;simp only at hr h1
 have bT:Zg (aj l++c)=true:=by
  have:=W5 l;unfold Zg at this hc |-
  rw[zzez,this,hc];rfl
 rw[WV,Vn];rw[hr,hB,Zl _ _ bT,if_pos (by rw[zzag,Ud];omega),zzde,vX];rfl
def G8(Y:YT)(orc:Nat->FuncId->List AV->AV)(ho5:orc 95 999999 []=.aK 0 [])(ho7:orc 97 999999 []=.aK 0 [])(hs:∀d l,orc d 160 l=.gd false .junk)(hp:∀d l,orc d 161 l=.gd false .junk)
  (E:List (Nat×AV))(mb:List (List AV))(ml:List Nat)(ms:Nat->LS)(mn:Nat)(g:Pg)(f:Int)(mid k3:Nat)(V8:AV)(rD:Rt)(D:List Int)(Q:Exit->AS->Prop)
  (h3:Abs.look E 3=.ptr k3 0)(AP:k3<mb.length)(S8:Qh mb k3=Qu g f mid)(h8:Abs.look E 8=V8)(CB:Abs.look E 16=.sl rD (D.map Xa))(dZ:g.dr.length<=1000000)(Az:D.length<=1000000)
  (hQ:∀E' ex vd,Abs.look E' 6=V8->Abs.look E' 7=vd->gU mb.length ⟨mb++ex,ml,ms,mn⟩ vd ((dd (Wj (g.dr++D))).map Xa)->Q .ret ⟨Zi 103 E',⟨mb++ex,ml,ms,mn⟩⟩):
  vc Tryz.prog az orc Y G6 ⟨Zi 103 E,⟨mb,ml,ms,mn⟩⟩ Q:=by
 simp only[Qu,Qo,Qc,zzae,zzai]at S8
 have fin:∀(X:List (List AV))(id:Nat)(K:AV->AV->AM->Prop),mb.length<=id->id<(mb++X).length->Qh (mb++X) id=aj (g.dr++D)->g.dr++D≠[]->
   (∀ex vd,gU mb.length ⟨mb++ex,ml,ms,mn⟩ vd ((dd (Wj (g.dr++D))).map Xa)->K (.aV []) vd ⟨mb++ex,ml,ms,mn⟩)->
   an Tryz.prog az Y 160 [.bs id 0 (g.dr++D).length 1] ⟨mb++X,ml,ms,mn⟩ (fun r0 m'=>an Tryz.prog az Y 161 [.bs id 0 (g.dr++D).length 1] m' (K r0)):=by
  intro X id K cc ai aa aJ hK;refine se Y (g.dr++D) (by simp;omega) _ id [] (by rw[zzat];exact Ju ai aa) (by rw[zzat];intro h;have:=congrArg List.length h;rw[Ud]at this;exact aJ (zzav this)) _ ?_;have aH:(g.dr++D).length=(Wj (g.dr++D)).length:=(rz _).symm;rw[aH];have ei:Wj (g.dr++D)≠[]:=fun h=>aJ (by have:=congrArg List.length h;rw[rz]at this;exact zzav this);refine r9 Y (Wj (g.dr++D)) (by rw[<- aH];simp;omega) _ _ _ _ id (by simpa using ai) ei ?_ _ ?_
  ·rw[zzat];exact Qs (by rw[zzaz ai];first|rfl|(rw[zzat];rfl))
  intro B' z fq td _
  have bZ:(mb++X).set id (aj (List.mergeSort (g.dr++D) fun x y=>decide (x<=y))++[])=mb++X.set (id-mb.length) (aj (List.mergeSort (g.dr++D) fun x y=>decide (x<=y))++[]):=by
   rw[zzcq _ _ cc]
  rw[bZ]at fq;obtain⟨ex,rfl⟩:=aZ.pre fq cc;refine hK ex _ ?_;have awM:id<(mb++ex).length:=by have:=fq.1;simp at this ai |-;omega
  rw[nk]at td;exact gU.ints cc awM td (W5 z) (ajJ ei)
 have hR3:∀ex,Qh (mb++ex) k3=_:=fun ex=>(Ql AP).trans S8;have hm5:mutO orc (some 95)=true:=by unfold mutO;simp[ho5]
 have hm7:mutO orc (some 97)=true:=by unfold mutO;simp[ho7]
 simp only[zzag]at fin;by_cases dX:g.dr=[]
 ·by_cases hD:D=[]
  ·simp[G6,h3,h8,CB,S8,dX,hD,hs,hp,ho5,ho7];refine oP _ _ _ _ ?_;refine Z4 _ _ _ _ ?_;have:=fun E' vd h1 h2 h3=>hQ E' [] vd h1 h2 h3;simp only[zzat]at this;refine this _ _ (by simp) (by simp;rfl) ?_;rw[dX,hD];refine⟨rfl,fun m' h1 h2 d=>?_⟩;simp[Wj,dd,uu]
  have aJ:g.dr++D≠[]:=by simp[hD]
  have eL:¬aj D=[]:=fun h=>hD (by have:=congrArg List.length h;rw[Ud]at this;exact zzav this);rw[dX]at fin hQ aJ;simp only[zzcf,zzbt,zzai]at fin hQ;have qc:∀a∈D,(Xa a).length=1:=fun _ _=>rfl;simp[G6,h3,h8,CB,S8,dX,hD,hs,hp,ho5,ho7,Oz,Ud];refine⟨⟨by omega,qc⟩,fin [aj D] mb.length _ (zzab _) (by simp) (by simp) hD ?_⟩;intro ex vd hv;exact hQ _ _ _ (by simp) (by simp) hv
 have aJ:g.dr++D≠[]:=by simp[dX]
 have eL:¬aj g.dr=[]:=fun h=>dX (by have:=congrArg List.length h;rw[Ud]at this;exact zzav this);have qc:∀a∈D,(Xa a).length=1:=fun _ _=>rfl;have awN:∀a∈g.dr,(Xa a).length=1:=fun _ _=>rfl;have bz:List.take g.dr.length (aj g.dr)=aj g.dr:=zzam (by rw[Ud];exact zzab _);simp[G6,h3,h8,CB,S8,dX,hs,hp,ho5,Oz,Ud,eL,bz];refine⟨⟨by omega,awN⟩,⟨by omega,qc⟩,fin [[],aj g.dr++aj D] (mb.length+1) _ (by omega) (by simp) (by simp[nk]) aJ ?_⟩;intro ex vd hv;exact hQ _ _ _ (by simp) (by simp) hv
open Go Go.Abs
def sJ(rt eT:Rt):Prop:=∀m d x,bF m (d+1) (.sl rt x)=.sl eT x
def sJ.ro:sJ .ro .ro:=fun _ _ _=>rfl
def sJ.nil:sJ .nil .nil:=fun _ _ _=>rfl
def sJ.own(k s:Nat):sJ (.own k s) .ro:=fun _ _ _=>rfl
def LM{α:Type}(l:List α):sJ (uu l) (uu l):=by
 unfold uu;split
 ·exact sJ.nil
 exact sJ.ro
def EvW(ml:List Nat)(rt:Rt)(n:Nat):Prop:=(rt=.nil/\n=0)\/∃k,rt=.own k 7/\ml[k]?=some n
def Z5(Y:YT)(orc:Nat->FuncId->List AV->AV)(ho5:orc 95 999999 []=.aK 0 [])(ho7:orc 97 999999 []=.aK 0 [])(ho1:orc 91 999999 []=.junk)(hs:∀d l,orc d 160 l=.gd false .junk)(hp:∀d l,orc d 161 l=.gd false .junk)
  (E:List (Nat×AV))(mb:List (List AV))(ml:List Nat)(ms:Nat->LS)(mn:Nat)(g:Pg)(f:Int)(mid k3 k5:Nat)(q:Pl)(d:Int)(rte ce rti ci rL rD:Rt)(ev bl:List bE)(en:Int)(ids D:List Int)(L:List Sp)(past:List Ad)(Q:Exit->AS->Prop)
  (asz:∀d l,orc d 159 l=.sl .ro (past.map Vi))(asA:∀d l,orc d 158 l=.aV [.sl rL (L.map Qe),.sl rD (D.map Xa)])(h62:∀d l,orc d 62 l=.sl .ro (bl.map Qf))
  (afS:Pure Tryz.prog az 159 [.sl ce (ev.map Zt),I en] (.sl .ro (past.map Vi)))
  (Z6:Pure Tryz.prog az 158 [.agg (Qc q),.sl ci (ids.map Xa),I en,.sl .ro (past.map Vi)] (.aV [.sl rL (L.map Qe),.sl rD (D.map Xa)]))
  (Z7:Pure Tryz.prog az 62 [.agg (Qc q),.sl rL (L.map Qe),I en] (.sl .ro (bl.map Qf)))
  (hce:sJ rte ce)(hci:sJ rti ci)(hcL:sJ rL rL)
  (h3:Abs.look E 3=.ptr k3 0)(AP:k3<mb.length)(S8:Qh mb k3=Qu g f mid)(h5:Abs.look E 5=.ptr k5 0)(hk5:k5<mb.length)(hr5:Qh mb k5=Qc q++[I d])
  (h8:Abs.look E 8=.sl rte (ev.map Zt))(awO:EvW ml rte ev.length)(h9:Abs.look E 9=I en)(qO:Abs.look E 12=.sl rti (ids.map Xa))
  (dZ:g.dr.length<=1000000)(Az:D.length<=1000000)(hl3:ev.length<=1000000)(hl4:bl.length<=10000000)
  (hQ:∀E' ex ls ke vd,Abs.look E' 6=.sl (.own ke 7) (ev.map Zt++bl.map Qf)->Abs.look E' 7=vd->gU mb.length ⟨mb++ex,ls,ms,mn⟩ vd ((dd (Wj (g.dr++D))).map Xa)->Q .ret ⟨Zi 103 E',⟨mb++ex,ls,ms,mn⟩⟩):
  vc Tryz.prog az orc Y G7 ⟨Zi 103 E,⟨mb,ml,ms,mn⟩⟩ Q:=by
 have asC:=fun m d x=>hce m d x;have asD:=fun m d x=>hci m d x;have asE:=fun m d x=>hcL m d x;simp only[Qc,zzae,zzai]at hr5;simp only[Qc]at Z6 Z7;have hR5:∀ex,Qh (mb++ex) k5=_:=fun ex=>(Ql hk5).trans hr5;have hw7:∀a∈ev,(Zt a).length=7:=fun _ _=>rfl;have awP:∀a∈bl,(Qf a).length=7:=fun _ _=>rfl;obtain⟨rfl,hn⟩|⟨k,rfl,hk⟩:=awO
 ·have he:ev=[]:=zzav hn;subst he;simp[G7,h8,h9,qO,h5,hr5,asC,asD,asE,asz,asA,h62,ho1];refine⟨afS,Z6,Z7,⟨awP,by omega⟩,G8 Y orc ho5 ho7 hs hp _ mb _ ms mn g f mid k3 (.sl (.own ml.length 7) (bl.map Qf)) rD D Q (by simp[h3]) AP S8 (by simp) (by simp) dZ Az ?_⟩;intro E' ex vd q1 q2 q3;exact hQ E' ex _ ml.length vd (by rw[q1];rfl) q2 q3
 simp[G7,h8,h9,qO,h5,hr5,asC,asD,asE,asz,asA,h62,hk];refine⟨afS,Z6,Z7,⟨?_,by omega⟩,G8 Y orc ho5 ho7 hs hp _ mb _ ms mn g f mid k3 (.sl (.own k 7) (ev.map Zt++bl.map Qf)) rD D Q (by simp[h3]) AP S8 (by simp) (by simp) dZ Az ?_⟩
 ·rintro row (⟨a,_,rfl⟩|⟨a,_,rfl⟩)<;>rfl
 intro E' ex vd q1 q2 q3;exact hQ E' ex _ k vd q1 q2 q3
open Go Go.Abs
def jT(g:Pg)(b:List (Int×Bool))(e:En):Bool:=!yP b e.id&&!decide (e.id∈g.dr)
def Jw(g:Pg)(b:List (Int×Bool))(l:List En):List Int:=(l.filter (jT g b)).map (·.id)
def RW(g:Pg)(b:List (Int×Bool))(l:List En)(e:En):Jw g b (l++[e])=Jw g b l++(if jT g b e then[e.id]else[]):=by
 unfold Jw;rw[zzcp,zzc];congr 1;cases h:jT g b e<;>simp[h]
def jU(g:Pg)(b:List (Int×Bool))(l:List En):(Jw g b l).length<=l.length:=by
 unfold Jw;rw[zzbe];exact zzbn _ _
def IdR(ml ls:List Nat)(rt:Rt)(n:Nat):Prop:=(rt=.nil/\n=0/\ls=ml)\/(rt=.own ml.length 1/\n≠0/\ls=ml++[n])
def asF(g:Pg)(b:List (Int×Bool))(q:Pl)(mb:List (List AV))(ml:List Nat)(ms:Nat->LS)(mn:Nat)(s:Nat->AV)(m:AM):Prop:=
 ∃(i:Nat)(bx:List (List AV))(rt:Rt)(ls:List Nat),s 49=I i/\i<=q.ens.length/\m=⟨mb++bx,ls,ms,mn⟩/\s 12=.sl rt ((Jw g b (q.ens.take i)).map Xa)/\IdR ml ls rt (Jw g b (q.ens.take i)).length
def Z8(Y:YT)(orc:Nat->FuncId->List AV->AV)(asG:orc 72 999999 []=.junk)(afT:orc 71 999999 []=.junk)
  (E:List (Nat×AV))(mb:List (List AV))(ml:List Nat)(ms:Nat->LS)(mn:Nat)(g:Pg)(f:Int)(mid k3 k5:Nat)(b:List (Int×Bool))(q:Pl)(d:Int)(Q:Exit->AS->Prop)
  (LN:∀d id,orc d 157 [.sl .ro (g.dr.map Xa),I id]=.bool (decide (id∈g.dr)))
  (h3:Abs.look E 3=.ptr k3 0)(AP:k3<mb.length)(S8:Qh mb k3=Qu g f mid)(h5:Abs.look E 5=.ptr k5 0)(hk5:k5<mb.length)(hr5:Qh mb k5=Qc q++[I d])(hb:fS mb mid b)
  (dZ:g.dr.length<=1000000)(Az:q.ens.length<=1000000)
  (hQ:∀E' ex rt ls,(∀k,k≠12->k<14->Abs.look E' k=Abs.look E k)->Abs.look E' 12=.sl rt ((Jw g b q.ens).map Xa)->IdR ml ls rt (Jw g b q.ens).length->vc Tryz.prog az orc Y G7 ⟨Zi 103 E',⟨mb++ex,ls,ms,mn⟩⟩ Q):
  vc Tryz.prog az orc Y Oy ⟨Zi 103 E,⟨mb,ml,ms,mn⟩⟩ Q:=by
 simp only[Qu,Qo,Qc,zzae,zzai]at S8 hr5;have hR3:∀ex,Qh (mb++ex) k3=_:=fun ex=>(Ql AP).trans S8;have hR5:∀ex,Qh (mb++ex) k5=_:=fun ex=>(Ql hk5).trans hr5;have hRm:∀ex,Qh (mb++ex) mid=[.aK 0 (bH .bool b)]:=hb.ext;have hk:∀id,Pure Tryz.prog az 157 [.sl .ro (g.dr.map Xa),I id] (.bool (decide (id∈g.dr))):=fun id=>jO g.dr id (by omega);simp[Oy,h5,hr5];refine Qj oc (asF g b q mb ml ms mn) (fun s _=>q.ens.length-(numOf (s 49)).toNat) ?_ ?_
 ·exact⟨0,[],.nil,ml,by simp,by omega,by simp,by simp[Jw],.inl ⟨rfl,by simp[Jw],rfl⟩⟩
 rintro s m ⟨i,bx,rt,ls,h49,hi,rfl,qO,aT⟩;rcases zzaa i q.ens.length with ai|bB
 ·obtain⟨x,hx⟩:=aR ai;have aa:Qh (q.ens.map Qd) i=Qd x:=Qs (by simp[hx]);have ah:(i:Int)<(q.ens.length:Int):=by omega
  have hw:=bJ i (by omega);have bz:q.ens.take (i+1)=q.ens.take i++[x]:=by rw[zzar,hx];rfl
  have mq:Jw g b (q.ens.take (i+1))=Jw g b (q.ens.take i)++(if jT g b x then[x.id]else[]):=by rw[bz,RW]
  have fR:=jU g b (q.ens.take i);rw[zzaq]at fR;have skip:jT g b x=false->Jw g b (q.ens.take (i+1))=Jw g b (q.ens.take i):=fun h=>by rw[mq,h];simp
  have more:jT g b x=true->Jw g b (q.ens.take (i+1))=Jw g b (q.ens.take i)++[x.id]:=fun h=>by rw[mq,h];simp
  generalize Jw g b (q.ens.take i)=O at*
  generalize cB:Jw g b (q.ens.take (i+1))=O' at*
  have qc:∀a∈O,(Xa a).length=1:=fun _ _=>rfl;rcases Xq AV.bool x.id b 0 with⟨b1,b2,_⟩|⟨u,u',b1,b2,_⟩
  ·by_cases dX:x.id∈g.dr
   ·have e1:=skip (by simp[jT,dX]);simp[h49,ah,aa,Qd,oc,hw,h3,hR3,hRm,b2,dX,LN,qO];refine⟨by simpa[dX]using hk x.id,aN,⟨i+1,_,rt,ls,by simp,by omega,rfl,by rw[cB,e1];simp,by rw[cB,e1];exact aT⟩,by omega⟩
   have e1:=more (by simp[jT,dX,yP,b1]);obtain⟨rfl,hn,rfl⟩|⟨rfl,hn,rfl⟩:=aT
   ·have hO:O=[]:=zzav hn;subst hO;simp[h49,ah,aa,Qd,oc,hw,h3,hR3,hRm,b2,dX,LN,qO,asG,afT];refine⟨by simpa[dX]using hk x.id,aN,⟨i+1,_,_,_,by simp,by omega,rfl,by rw[cB,e1];simp[Xa];rfl,by rw[cB,e1];exact .inr ⟨rfl,by simp,by simp⟩⟩,by omega⟩
   simp[h49,ah,aa,Qd,oc,hw,h3,hR3,hRm,b2,dX,LN,qO,afT];refine⟨by simpa[dX]using hk x.id,⟨?_,by omega⟩,aN,⟨i+1,_,_,_,by simp,by omega,rfl,by rw[cB,e1];simp[Xa];rfl,by rw[cB,e1];exact .inr ⟨rfl,by simp,by simp⟩⟩,by omega⟩
   ·rintro row (⟨a,_,rfl⟩|rfl)<;>rfl
  cases u with
  |true=>
   have e1:=skip (by simp[jT,yP,b1]);simp[h49,ah,aa,Qd,oc,hw,h3,hR3,hRm,b2,LN,qO];refine⟨aN,⟨i+1,_,rt,ls,by simp,by omega,rfl,by rw[cB,e1];simp,by rw[cB,e1];exact aT⟩,by omega⟩
  |false=>
   by_cases dX:x.id∈g.dr
   ·have e1:=skip (by simp[jT,dX]);simp[h49,ah,aa,Qd,oc,hw,h3,hR3,hRm,b2,dX,LN,qO];refine⟨by simpa[dX]using hk x.id,aN,⟨i+1,_,rt,ls,by simp,by omega,rfl,by rw[cB,e1];simp,by rw[cB,e1];exact aT⟩,by omega⟩
   have e1:=more (by simp[jT,dX,yP,b1]);obtain⟨rfl,hn,rfl⟩|⟨rfl,hn,rfl⟩:=aT
   ·have hO:O=[]:=zzav hn;subst hO;simp[h49,ah,aa,Qd,oc,hw,h3,hR3,hRm,b2,dX,LN,qO,asG,afT];refine⟨by simpa[dX]using hk x.id,aN,⟨i+1,_,_,_,by simp,by omega,rfl,by rw[cB,e1];simp[Xa];rfl,by rw[cB,e1];exact .inr ⟨rfl,by simp,by simp⟩⟩,by omega⟩
   simp[h49,ah,aa,Qd,oc,hw,h3,hR3,hRm,b2,dX,LN,qO,afT];refine⟨by simpa[dX]using hk x.id,⟨?_,by omega⟩,aN,⟨i+1,_,_,_,by simp,by omega,rfl,by rw[cB,e1];simp[Xa];rfl,by rw[cB,e1];exact .inr ⟨rfl,by simp,by simp⟩⟩,by omega⟩
   ·rintro row (⟨a,_,rfl⟩|rfl)<;>rfl
 have hbf:q.ens.take i=q.ens:=zzam bB;rw[hbf]at qO aT;have bI:¬(i:Int)<(q.ens.length:Int):=by omega
 simp[h49,bI,oc];refine hQ _ _ rt ls (fun k h1 h2=>?_) (by simp[qO]) aT;have:k=0\/k=1\/k=2\/k=3\/k=4\/k=5\/k=6\/k=7\/k=8\/k=9\/k=10\/k=11\/k=13:=by omega
 rcases this with rfl|rfl|rfl|rfl|rfl|rfl|rfl|rfl|rfl|rfl|rfl|rfl|rfl<;>simp
end
end Go.Proofs.YtnopaopphmjnmaaGreatDoor
