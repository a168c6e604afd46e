import Derived.Test.YtnopaopphmjnmaaGreatDoorMLMcG
import Derived.Test.YtnopaopphmjnmaaGreatDoorMLScL
set_option linter.all false
set_option maxRecDepth 100000
set_option maxHeartbeats 64000000
namespace Go.Proofs.YtnopaopphmjnmaaGreatDoor
noncomputable section
open Go Go.Abs
def yA(n a b:Int)(ha:0<=a/\a<=1000000000)(hb:0<=b/\b<=1000000000):Pure Tryz.prog az 229 [I n,I a,I b] (.bool (decide (n=a+b))):=by
 have hw:IntKind.i64.wrap (a+b)=a+b:=by rw[Qk]<;>omega
 have h1:¬a<0:=by omega
 have h2:¬b<0:=by omega
 have h3:¬a+b<0:=by omega
 refine Qn adG (fun _ _ _=>.junk) (by simp) ?_;by_cases h:n=a+b<;>simp[aip,aiq,hw,h1,h2,h3,h]
def Se(e:bD):Ad:=⟨e.it,0,e.st,e.fr⟩
def rM(n:Int):List Ad->List Ad
 |[]=>[]
 |[a]=>[{a with fs:=a.fs+n}]
 |a::b::r=>a::rM n (b::r)
def Hg(n:Int)(a:Ad):∀l:List Ad,rM n (l++[a])=l++[{a with fs:=a.fs+n}]
 |[]=>rfl
 |[x]=>rfl
 |x::y::r=>by have:=Hg n a (y::r);simp only[zzae]at this |-;rw[rM,this]
def yB(x e:bD):Prop:=x.id=e.id/\e.st=x.st+x.fr/\e.i=x.i+x.fr
instance (x e:bD):Decidable (yB x e):=by unfold yB;infer_instance
def Yz(x:Option bD)(e:bD)(out:List Ad):List Ad:=
 if e.id=0 then out else match x with
 |none=>out++[Se e]
 |some x=>if yB x e then rM e.fr out else out++[Se e]
def ud:Option bD->List bD->List Ad->List Ad
 |_,[],out=>out
 |x,e::r,out=>ud (some e) r (Yz x e out)
def Sf(l:List bD)(f:Int):List Ad:=ud none (Yb f l) []
def Bx(e:bD):∀(l:List bD)(x:Option bD)(out:List Ad),ud x (l++[e]) out=Yz (match l.getLast? with|some y=>some y|none=>x) e (ud x l out)
 |[],_,_=>rfl
 |[a],_,_=>rfl
 |a::b::r,x,out=>by
  have:=Bx e (b::r) (some a) (Yz x a out);simp only[zzae]at this |-
  rw[ud,this,List.getLast?_cons_cons];congr 1
def aga{n:Int}:∀{l:List Ad},l≠[]->rM n l≠[]
 |[],h=>absurd rfl h
 |[a],_=>by simp[rM]
 |a::b::r,_=>by simp[rM]
def rN{B:List bD}{i:Nat}{e:bD}(h:B[i]?=some e):ud none (B.take (i+1)) []=Yz (if i=0 then none else B[i-1]?) e (ud none (B.take i) []):=by
 have ai:=(zza.1 h).1;rw[zzas,h];show ud none (B.take i++[e]) []=_;rw[Bx];congr 1;cases i with
 |zero=>rfl
 |succ i=>
  have hx:B[i]?=some B[i]:=zzac (by omega);rw[zzas,hx,zzgh,List.getLast?_concat,if_neg (by omega),zzgi,hx]
def ON{B:List bD}:∀{i:Nat}{e:bD},B[i]?=some e->e.id≠0->ud none (B.take (i+1)) []≠[]
 |0,e,h,h0=>by rw[rN h,if_pos rfl];simp[Yz,h0]
 |i+1,e,h,h0=>by
  rw[rN h,if_neg (by omega),zzgi];have ai:=(zza.1 h).1;obtain⟨x,hx⟩:∃x,B[i]?=some x:=⟨_,zzac (by omega)⟩;rw[hx];unfold Yz;rw[if_neg h0];simp only;split
  ·rename_i hj;exact aga (ON hx (by rw[hj.1];exact h0))
  simp
def om(f:Int)(hf:f<=1000000):∀(l:List bD),(∀e∈l,Uh e)->∀e∈Yb f l,Uh e
 |[],_,e,h=>by cases h
 |a::r,hs,e,h=>by
  have ih:=om f hf r fun e he=>hs e (by simp[he]);rw[Yb]at h;split at h
  ·exact ih e h
  rename_i cc;rcases zzat.1 h with rfl|h
  ·obtain⟨⟨a1,a2⟩,⟨a3,a4⟩,a5,a6⟩:=hs a (by simp);refine⟨⟨a1,a2⟩,?_,a5,a6⟩;simp only[G8];split<;>omega
  exact ih e h
def FsB(n:Int)(out:List Ad):Prop:=∀a∈out,0<=a.fs/\a.fs<=n
def FsB.inc{n k:Int}(hk:0<=k/\k<=1000000):∀{l:List Ad},FsB n l->FsB (n+1000000) (rM k l)
 |[],_,a,h=>by cases h
 |[x],hl,a,h=>by
  have:=hl x (by simp);simp only[rM,zzbd]at h;subst h;simp only;omega
 |x::y::r,hl,a,h=>by
  rw[rM]at h;rcases zzat.1 h with rfl|h
  ·have:=hl a (by simp);omega
  exact FsB.inc hk (l:=y::r) (fun b hb=>hl b (by simp[hb])) a h
def FsB.step{n:Int}{x:Option bD}{e:bD}{out:List Ad}(h:FsB n out)(hn:0<=n)(he:Uh e):FsB (n+1000000) (Yz x e out):=by
 obtain⟨_,h3,_⟩:=he;have hw:FsB (n+1000000) out:=fun a ha=>by have:=h a ha;omega
 have hp:FsB (n+1000000) (out++[Se e]):=fun a ha=>by
  rcases zzao.1 ha with ha|ha
  ·exact hw a ha
  simp only[zzbd]at ha;subst ha;simp only[Se];omega
 unfold Yz;split
 ·exact hw
 cases x with
 |none=>exact hp
 |some x=>
  simp only;split
  ·exact h.inc h3
  exact hp
def Hh(B:List bD)(x:Option bD)(out:List Ad):(ud x B out).length<=out.length+B.length:=by
 induction B generalizing x out with
 |nil=>simp[ud]
 |cons e r ih=>
  rw[ud];have h1:=ih (some e) (Yz x e out)
  have h2:(Yz x e out).length<=out.length+1:=by
   have hi:∀(k:Int)(l:List Ad),(rM k l).length=l.length:=by
    intro k l;induction l with
    |nil=>rfl
    |cons a r ih=>cases r with
     |nil=>rfl
     |cons b r=>rw[rM,zzbb,ih];rfl
   unfold Yz;split
   ·omega
   cases x with
   |none=>simp
   |some x=>
    simp only;split
    · rw[hi];omega
    simp
  simp only[zzbb];omega
def sZ(l:List Ad):List AV:=(l.map Vi).flatten
def uR:∀l,(sZ l).length=l.length*4
 |[]=>rfl
 |a::r=>by have:=uR r;simp only[sZ,zzaz,zzcl,zzah]at this |-;rw[this];simp[Vi];omega
def agb(a b:List Ad):sZ (a++b)=sZ a++sZ b:=by simp[sZ]
def anh(l:List Ad):Zg (sZ l)=true:=fe (fun _=>rfl) l
def Sg{bx:List (List AV)}{k:Nat}{c:List AV}(h:k<bx.length)(ex:List (List AV)):Qh (bx.set k c++ex) k=c:=
 Qs (by rw[zzag (by simpa using h)];simp[h])
def lH(bx:List (List AV))(k:Nat)(c p q r:List AV):Qh (bx.set k c++[p,q,r]) (bx.length+2)=r:=
 Qs (by rw[zzal (by simp)];simp)
def Si(l:List Ad):aV 4 l.length (sZ l)=l.map Vi:=by
 have:=Jn (sz:=4) (rows:=l.map Vi) (Qav (f:=Vi) (fun _=>rfl) l);rw[zzbg]at this;exact this
def OO(bx:List (List AV))(o:List Ad)(v:AV):Prop:=(o=[]/\v=.sl .nil [])\/(o≠[]/\∃k,v=.bs k 0 o.length 4/\k<bx.length/\Qh bx k=sZ o)
def as3(B:List bD)(ls:List Nat)(g:Nat->AV)(m:AM):Prop:=
 ∃(i:Nat)(bx:List (List AV)),g 15=I i/\i<=B.length/\m=⟨bx,ls,fun _=>.gone,0⟩/\OO bx (ud none (B.take i) []) (g 5)/\FsB (i*1000000) (ud none (B.take i) [])
def mY:Nat->FuncId->List AV->AV:=fun d f l=>if f=155 then .gd false .junk else if f=229 then(match l with|[.int _ n,.int _ a,.int _ b]=>.bool (decide (n=a+b))|_=>.junk)else if f=999999 then(if d=73 then .junk else .aJ 0 [])else .junk
def OO.ext{bx:List (List AV)}{o:List Ad}{v:AV}(h:OO bx o v)(ex:List (List AV)):OO (bx++ex) o v:=by
 obtain h|⟨h0,k,h1,h2,h3⟩:=h
 ·exact .inl h
 exact .inr ⟨h0,k,h1,by simp;omega,by rw[Ql h2,h3]⟩
def LV(l:List bD)(f:Int)(hl:l.length<=1000000)(hs:∀e∈l,Uh e)(hf:0<=f/\f<=1000000):Pure Tryz.prog az 159 [.sl .ro (l.map Qf),I f] (.sl .ro ((Sf l f).map Vi)):=by
 have hsB:=om f hf.2 l hs;have hlB:(Yb f l).length<=1000000:=by have:=Qdm f l;omega
 have:Pure Tryz.prog az 159 [.sl .ro (l.map Qf),I f] (.sl (if Sf l f=[]then .nil else .ro) ((Sf l f).map Vi)):=by
  refine Qn acQ mY (by simp) ?_;simp[UG,ahR,mY];refine yy _ _ l f hl hs hf _ fun ex v ls hO=>?_
  obtain⟨rt,rfl⟩:∃rt,v=.sl rt ((Yb f l).map Qf):=by
   obtain⟨e,rfl,_⟩|⟨e,rfl,_⟩:=hO
   ·exact⟨.nil,by rw[e];rfl⟩
   exact⟨_,rfl⟩
  clear hO;unfold Sf;generalize Yb f l=B at*
  simp;refine Qi dP (as3 B ls) (fun g _=>B.length-(numOf (g 15)).toNat) ?_ ?_
  ·exact⟨0,ex,by simp,by omega,by simp,.inl ⟨by simp[ud],by simp⟩,fun a h=>by simp[ud]at h⟩
  rintro g m ⟨i,bx,sI,hi,rfl,hO,hF⟩;rcases zzaa i B.length with ai|bu
  ·obtain⟨a,ha⟩:=aS ai;have ah:Qh (B.map Qf) i=Qf a:=Qs (by simp[ha]);have hw:=bJ i (by omega);have aa:(i:Int)<(B.length:Int):=by omega
   have lV:=hsB a (zzad ha);have bB:=rN ha;have Rh:=hF.step (x:=if i=0 then none else B[i-1]?) (e:=a) (by omega) lV;rw[<- bB]at Rh;obtain⟨⟨a1,a2⟩,⟨a3,a4⟩,⟨a5,a6⟩,a7⟩:=lV;by_cases h0:a.id=0
   ·simp[sI,ah,ai,Qf,h0,dP,hw];refine⟨aO,⟨i+1,_,by simp,by omega,rfl,?_,?_⟩,by omega⟩
    ·simp[Yz,h0]at bB;rw[bB];simpa using hO.ext _
    have:((i+1:Nat):Int)*1000000=(i:Int)*1000000+1000000:=by omega
    rw[this];exact Rh
   cases i with
   |zero=>
    have e1:ud none (B.take 1) []=[Se a]:=by rw[bB];simp[Yz,h0,ud]
    have hO0:g 5=.sl .nil []:=by
     obtain⟨_,h⟩|⟨h,_⟩:=hO
     ·exact h
     exact absurd (by simp[ud]) h
    have fC:IntKind.i64.wrap 1=1:=by rw[Qk]<;>omega
    simp at sI;simp[sI,ah,ai,Qf,h0,dP,fC,hO0,mY];refine⟨aO,⟨1,_,by simp,by omega,rfl,.inr ⟨by rw[e1];simp,bx.length+1,by simp[e1],by simp,?_⟩,?_⟩,by omega⟩
    ·simp[e1,sZ,Vi,Se]
    simpa using Rh
   |succ i=>
    have axl:i<B.length:=by omega
    obtain⟨x,hx⟩:=aS axl;have yC:Qh (B.map Qf) i=Qf x:=Qs (by simp[hx]);obtain⟨⟨x1,x2⟩,⟨x3,x4⟩,⟨x5,x6⟩,x7⟩:=hsB x (zzad hx);have k1:=yA a.st x.st x.fr (by omega) (by omega);have k2:=yA a.i x.i x.fr (by omega) (by omega);have KY:IntKind.i64.wrap (i:Int)=i:=by rw[Qk]<;>omega
    have yD:(i:Int)<(B.length:Int):=by omega
    have eR:(0:Int)<(i:Int)+1:=by omega
    rw[if_neg (by omega),zzgi,hx]at bB;have aK:=ON hx;have qs:((i+1+1:Nat):Int)*1000000=((i+1:Nat):Int)*1000000+1000000:=by omega
    have Oc:=Hh (B.take (i+1)) none [];have ani:¬yB x a->ud none (B.take (i+1+1)) []=ud none (B.take (i+1)) []++[Se a]:=fun h=>by rw[bB];simp[Yz,h0,h]
    have LW:yB x a->ud none (B.take (i+1+1)) []=rM a.fr (ud none (B.take (i+1)) []):=fun h=>by rw[bB];simp[Yz,h0,h]
    rw[<- qs]at Rh;clear bB;generalize ud none (B.take (i+1)) []=out at*
    generalize c9:ud none (B.take (i+1+1)) []=out' at*
    simp at sI ai aa hw Oc;have asn:out.length<=1000000:=by omega
    by_cases hj:yB x a
    ·have e1:=LW hj;obtain⟨j1,j2,j3⟩:=hj;have aK:=aK (by rw[j1];exact h0)
     obtain⟨O,z,rfl⟩:∃O z,out=O++[z]:=by
      rcases zzer out with e|⟨O,z,e⟩
      ·exact absurd e aK
      exact⟨O,z,by rw[e,zzes]⟩
     have hOl:(sZ O).length=O.length*4:=uR O;have hz:=hF z (by simp);have hwz:IntKind.i64.wrap (z.fs+a.fr)=z.fs+a.fr:=by rw[Qk]<;>omega
     have hd3:∀X:List AV,(sZ O++X).drop (O.length*4+3)=X.drop 3:=fun X=>Bt _ _ _ _ hOl;have hs3:∀X Y:List AV,setA (sZ O++X) (O.length*4+3) Y=sZ O++setA X 3 Y:=fun X Y=>Bs _ _ _ _ _ hOl;obtain⟨e,_⟩|⟨_,k,h5,hk,hr⟩:=hO
     ·exact absurd e aK
     have hR:∀ex,Qh (bx++ex) k=sZ O++[I z.it,I z.re,I z.fr,I z.fs]:=fun ex=>by rw[Ql hk,hr,agb];rfl
     rw[Hg]at e1;rw[zzah,zzdz]at h5;have hwo:IntKind.i64.wrap (O.length:Int)=O.length:=by simp at asn;rw[Qk]<;>omega
     have oz:k<bx.length+1:=by omega
     have aaj:k<bx.length+(1+1):=by omega
     have axm:k<bx.length+2:=by omega
     simp[sI,ah,aa,Qf,h0,dP,hw,yC,yD,eR,KY,mY,j1,j2,j3,h5,hR,hwo,hd3,hs3,hOl,hwz,hk,aaj];refine⟨by omega,by rw[j2]at k1;simpa using k1,by rw[j3]at k2;simpa using k2,by omega,aO,⟨i+1+1,_,by simp,by omega,rfl,.inr ⟨by rw[c9,e1];simp,k,by rw[c9,e1];simp,by simp;omega,?_⟩,by rw[c9];exact Rh⟩,by omega⟩
     ·rw[c9,e1,Sg hk];simp[sZ,Vi]
    have e1:=ani hj
    have uh:¬x.id=a.id\/(x.id=a.id/\¬a.st=x.st+x.fr)\/(x.id=a.id/\a.st=x.st+x.fr/\¬a.i=x.i+x.fr):=by
     unfold yB at hj;by_cases j1:x.id=a.id
     ·by_cases j2:a.st=x.st+x.fr
      ·exact .inr (.inr ⟨j1,j2,fun j3=>hj ⟨j1,j2,j3⟩⟩)
      exact .inr (.inl ⟨j1,j2⟩)
     exact .inl j1
    obtain⟨rfl,h5⟩|⟨R8,k,h5,hk,hr⟩:=hO
    ·obtain j1|⟨j1,j2⟩|⟨j1,j2,j3⟩:=uh
     ·simp[sI,ah,aa,Qf,h0,dP,hw,yC,yD,eR,KY,mY,j1,h5];refine⟨by omega,aO,⟨i+1+1,_,by simp,by omega,rfl,.inr ⟨by rw[c9,e1];simp,bx.length+2,by rw[c9,e1];simp,by simp,?_⟩,by rw[c9];exact Rh⟩,by omega⟩
      ·rw[c9,e1];simp[sZ,Vi,Se]
     ·simp[sI,ah,aa,Qf,h0,dP,hw,yC,yD,eR,KY,mY,j1,j2,h5];refine⟨by omega,by simpa[j2]using k1,aO,⟨i+1+1,_,by simp,by omega,rfl,.inr ⟨by rw[c9,e1];simp,bx.length+2,by rw[c9,e1];simp,by simp,?_⟩,by rw[c9];exact Rh⟩,by omega⟩
      ·rw[c9,e1];simp[sZ,Vi,Se]
     simp[sI,ah,aa,Qf,h0,dP,hw,yC,yD,eR,KY,mY,j1,j2,j3,h5];refine⟨by omega,by rw[j2]at k1;simpa using k1,by simpa[j3]using k2,aO,⟨i+1+1,_,by simp,by omega,rfl,.inr ⟨by rw[c9,e1];simp,bx.length+2,by rw[c9,e1];simp,by simp,?_⟩,by rw[c9];exact Rh⟩,by omega⟩
     ·rw[c9,e1];simp[sZ,Vi,Se,j2]
    have hR:∀ex,Qh (bx++ex) k=sZ out:=fun ex=>by rw[Ql hk,hr]
    have oz:k<bx.length+1:=by omega
    have aaj:k<bx.length+(1+1):=by omega
    have axm:k<bx.length+2:=by omega
    have NX:=uR out;have aak:¬sZ out=[]:=by intro h;rw[h]at NX;exact R8 (zzav (by simp at NX;omega))
    have Lu:List.take (out.length*4) (sZ out)=sZ out:=zzap (by omega);obtain j1|⟨j1,j2⟩|⟨j1,j2,j3⟩:=uh
    ·simp[sI,ah,aa,Qf,h0,dP,hw,yC,yD,eR,KY,mY,j1,h5,hR,hk,aaj,NX,aak,Lu];refine⟨by omega,by omega,aO,⟨i+1+1,_,by simp,by omega,rfl,.inr ⟨by rw[c9,e1];simp,bx.length+2,by rw[c9,e1];simp,by simp,?_⟩,by rw[c9];exact Rh⟩,by omega⟩
     ·rw[c9,e1,lH];simp[sZ,Vi,Se]
    ·simp[sI,ah,aa,Qf,h0,dP,hw,yC,yD,eR,KY,mY,j1,j2,h5,hR,hk,aaj,NX,aak,Lu];refine⟨by omega,by simpa[j2]using k1,by omega,aO,⟨i+1+1,_,by simp,by omega,rfl,.inr ⟨by rw[c9,e1];simp,bx.length+2,by rw[c9,e1];simp,by simp,?_⟩,by rw[c9];exact Rh⟩,by omega⟩
     ·rw[c9,e1,lH];simp[sZ,Vi,Se]
    simp[sI,ah,aa,Qf,h0,dP,hw,yC,yD,eR,KY,mY,j1,j2,j3,h5,hR,hk,aaj,NX,aak,Lu];refine⟨by omega,by rw[j2]at k1;simpa using k1,by simpa[j3]using k2,by omega,aO,⟨i+1+1,_,by simp,by omega,rfl,.inr ⟨by rw[c9,e1];simp,bx.length+2,by rw[c9,e1];simp,by simp,?_⟩,by rw[c9];exact Rh⟩,by omega⟩
    ·rw[c9,e1,lH];simp[sZ,Vi,Se,j2]
  obtain rfl:i=B.length:=by omega
  rw[zzbs]at hO;obtain⟨e,h5⟩|⟨e,k,h5,hk,hr⟩:=hO
  ·simp[sI,dP,h5,e]
  simp[sI,dP,h5,e];rw[hr,Zk _ _ (anh _),uR,if_pos (zzab _),Si]
 exact Qz this (Wk.sl _ _)
open Go Go.Abs
def Hi:SC:=(⟨_,by cbv⟩:tM [1,1,1,1,1,1,1,1] I3).1
def Hj:SC:=(⟨_,fun _=>by cbv⟩:uw [1,1] (tL [1,1,1,1,1,1] I3)).1 Hi
def OP:SC:=(⟨_,fun _=>by cbv⟩:uw [1,1] (tL [1,1,1,1] I3)).1 Hj
def as4:SC:=(⟨_,fun _=>by cbv⟩:uw [1,1,1,1] I3).1 OP
theorem agc:I3=as4:=rfl
def Wn(l:List Int):List Int:=l.mergeSort fun x y=>decide (x<=y)
def rO(l:List Int):(Wn l).length=l.length:=zzep l
def OQ(l:List Int):(l.map Qy).flatten=aj l:=by
 induction l with
 |nil=>rfl
 |cons a r ih=>simp only[zzaz,zzcl,ih];rfl
def uT{α:Type}(l:List α):Rt:=if l=[]then .nil else .ro
def akb:∀{l:List Int},l≠[]->dd l≠[]
 |[],h=>absurd rfl h
 |[x],_=>by simp[dd]
 |x::y::r,_=>by
  rw[FB];split
  ·exact akb (by simp)
  simp
def ic(n:Nat)(m:AM)(V:AV)(rows:List (List AV)):Prop:=Qv V=true/\∀m':AM,m.boxes.length<=m'.boxes.length->(∀j,n<=j->j<m.boxes.length->Qh m'.boxes j=Qh m.boxes j)->∀d,bF m' (d+2) V=.sl (uT rows) rows
def ic.mono{n n':Nat}{m:AM}{V:AV}{rows:List (List AV)}(h:ic n m V rows)(hn:n'<=n):ic n' m V rows:=⟨h.1,fun m' h1 h2 d=>h.2 m' h1 (fun j q1 q2=>h2 j (by omega) q2) d⟩
def aal(Y:YT)(m:AM)(rt:Rt)(K:AV->AM->Prop)(hK:K (.sl rt []) m):an Tryz.prog az Y 161 [.sl rt []] m K:=by
 obtain⟨mb,ml,ms,mn⟩:=m;refine Xe BV (fun _ _ _=>.junk) (by simp) ?_;simp[vj,Af];exact hK
def bn.pre{id:Nat}{mb X B':List (List AV)}(h:bn (·=id) (mb++X) B')(aN:mb.length<=id):∃ex,B'=mb++ex:=by
 refine⟨B'.drop mb.length,?_⟩;apply zzcm;intro j;have hl:=h.1;simp only[zzah]at hl;rcases zzaa j mb.length with hj|hj
 ·rw[zzag hj];have:=h.2 j (by simp;omega) (by omega);rw[Uc (by omega),this,Uc hj,Ql hj]
 rw[zzal hj,zzbk];congr 1;omega
def ic.ints{B:List (List AV)}{L:List Nat}{st:Nat->LS}{n k id:Nat}{l:List Int}{c:List AV}(hk:k<=id)(aN:id<B.length)(hB:Qh B id=aj l++c)(hc:Zg c=true)(aK:l≠[]):ic k ⟨B,L,st,n⟩ (.bs id 0 l.length 1) (l.map Qy):=by
 have aR:uT (l.map Qy)=.ro:=by unfold uT;rw[if_neg (by simpa using aK)]
 rw[ic,aR];refine⟨rfl,fun m' h1 h2 d=>?_⟩;have hr:=h2 id hk aN;simp only at hr h1
 have bQ:Zg (aj l++c)=true:=by
  have:=XS l;unfold Zg at this hc |-
  rw[zzfd,this,hc];rfl
 rw[XK,Vn];rw[hr,hB,Zk _ _ bQ,if_pos (by rw[zzah,Ug];omega),zzde,wO];rfl
def Hl(Y:YT)(orc:Nat->FuncId->List AV->AV)(ho5:orc 95 999999 []=.aJ 0 [])(ho7:orc 97 999999 []=.aJ 0 [])(hs:∀d l,orc d 160 l=.gd false .junk)(hp:∀d l,orc d 161 l=.gd false .junk)
  (E:List (Nat×AV))(mb:List (List AV))(ml:List Nat)(ms:Nat->LS)(mn:Nat)(g:Pg)(f:Int)(mid k3:Nat)(V8:AV)(rD:Rt)(D:List Int)(Q:Exit->AS->Prop)
  (h3:Abs.look E 3=.ptr k3 0)(Bb:k3<mb.length)(Tz:Qh mb k3=Qu g f mid)(h8:Abs.look E 8=V8)(KR:Abs.look E 16=.sl rD (D.map Qy))(dZ:g.dr.length<=1000000)(AT:D.length<=1000000)
  (hQ:∀E' ex vd,Abs.look E' 6=V8->Abs.look E' 7=vd->ic mb.length ⟨mb++ex,ml,ms,mn⟩ vd ((dd (Wn (g.dr++D))).map Qy)->Q .ret ⟨Zf 103 E',⟨mb++ex,ml,ms,mn⟩⟩):
  vc Tryz.prog az orc Y Hi ⟨Zf 103 E,⟨mb,ml,ms,mn⟩⟩ Q:=by
 simp only[Qu,Qo,Qb,zzae,zzai]at Tz
 have fin:∀(X:List (List AV))(id:Nat)(K:AV->AV->AM->Prop),mb.length<=id->id<(mb++X).length->Qh (mb++X) id=aj (g.dr++D)->g.dr++D≠[]->
   (∀ex vd,ic mb.length ⟨mb++ex,ml,ms,mn⟩ vd ((dd (Wn (g.dr++D))).map Qy)->K (.aW []) vd ⟨mb++ex,ml,ms,mn⟩)->
   an Tryz.prog az Y 160 [.bs id 0 (g.dr++D).length 1] ⟨mb++X,ml,ms,mn⟩ (fun r0 m'=>an Tryz.prog az Y 161 [.bs id 0 (g.dr++D).length 1] m' (K r0)):=by
  intro X id K ck ai ah aK hK;refine sG Y (g.dr++D) (by simp;omega) _ id [] (by rw[zzau];exact Jz ai ah) (by rw[zzau];intro h;have:=congrArg List.length h;rw[Ug]at this;exact aK (zzav this)) _ ?_;have aH:(g.dr++D).length=(Wn (g.dr++D)).length:=(rO _).symm;rw[aH];have ei:Wn (g.dr++D)≠[]:=fun h=>aK (by have:=congrArg List.length h;rw[rO]at this;exact zzav this);refine sD Y (Wn (g.dr++D)) (by rw[<- aH];simp;omega) _ _ _ _ id (by simpa using ai) ei ?_ _ ?_
  ·rw[zzau];exact Qs (by rw[zzb ai];first|rfl|(rw[zzau];rfl))
  intro B' z fG tK _
  have bV:(mb++X).set id (aj (List.mergeSort (g.dr++D) fun x y=>decide (x<=y))++[])=mb++X.set (id-mb.length) (aj (List.mergeSort (g.dr++D) fun x y=>decide (x<=y))++[]):=by
   rw[zzcs _ _ ck]
  rw[bV]at fG;obtain⟨ex,rfl⟩:=bn.pre fG ck;refine hK ex _ ?_;have axn:id<(mb++ex).length:=by have:=fG.1;simp at this ai |-;omega
  rw[nG]at tK;exact ic.ints ck axn tK (XS z) (akb ei)
 have hR3:∀ex,Qh (mb++ex) k3=_:=fun ex=>(Ql Bb).trans Tz;have hm5:mutO orc (some 95)=true:=by unfold mutO;simp[ho5]
 have hm7:mutO orc (some 97)=true:=by unfold mutO;simp[ho7]
 simp only[zzah]at fin;by_cases dX:g.dr=[]
 ·by_cases hD:D=[]
  ·simp[Hi,h3,h8,KR,Tz,dX,hD,hs,hp,ho5,ho7];refine pz _ _ _ _ ?_;refine aal _ _ _ _ ?_;have:=fun E' vd h1 h2 h3=>hQ E' [] vd h1 h2 h3;simp only[zzau]at this;refine this _ _ (by simp) (by simp;rfl) ?_;rw[dX,hD];refine⟨rfl,fun m' h1 h2 d=>?_⟩;simp[Wn,dd,uT]
  have aK:g.dr++D≠[]:=by simp[hD]
  have eN:¬aj D=[]:=fun h=>hD (by have:=congrArg List.length h;rw[Ug]at this;exact zzav this);rw[dX]at fin hQ aK;simp only[zzch,zzbv,zzai]at fin hQ;have pG:∀a∈D,(Qy a).length=1:=fun _ _=>rfl;simp[Hi,h3,h8,KR,Tz,dX,hD,hs,hp,ho5,ho7,OQ,Ug];refine⟨⟨by omega,pG⟩,fin [aj D] mb.length _ (zzab _) (by simp) (by simp) hD ?_⟩;intro ex vd hv;exact hQ _ _ _ (by simp) (by simp) hv
 have aK:g.dr++D≠[]:=by simp[dX]
 have eN:¬aj g.dr=[]:=fun h=>dX (by have:=congrArg List.length h;rw[Ug]at this;exact zzav this);have pG:∀a∈D,(Qy a).length=1:=fun _ _=>rfl;have axo:∀a∈g.dr,(Qy a).length=1:=fun _ _=>rfl;have bB:List.take g.dr.length (aj g.dr)=aj g.dr:=zzap (by rw[Ug];exact zzab _);simp[Hi,h3,h8,KR,Tz,dX,hs,hp,ho5,OQ,Ug,eN,bB];refine⟨⟨by omega,axo⟩,⟨by omega,pG⟩,fin [[],aj g.dr++aj D] (mb.length+1) _ (by omega) (by simp) (by simp[nG]) aK ?_⟩;intro ex vd hv;exact hQ _ _ _ (by simp) (by simp) hv
open Go Go.Abs
def s5(rt eY:Rt):Prop:=∀m d x,bF m (d+1) (.sl rt x)=.sl eY x
def s5.ro:s5 .ro .ro:=fun _ _ _=>rfl
def s5.nil:s5 .nil .nil:=fun _ _ _=>rfl
def s5.own(k s:Nat):s5 (.own k s) .ro:=fun _ _ _=>rfl
def LX{α:Type}(l:List α):s5 (uT l) (uT l):=by
 unfold uT;split
 ·exact s5.nil
 exact s5.ro
def EvW(ml:List Nat)(rt:Rt)(n:Nat):Prop:=(rt=.nil/\n=0)\/∃k,rt=.own k 7/\ml[k]?=some n
def aam(Y:YT)(orc:Nat->FuncId->List AV->AV)(ho5:orc 95 999999 []=.aJ 0 [])(ho7:orc 97 999999 []=.aJ 0 [])(ho1:orc 91 999999 []=.junk)(hs:∀d l,orc d 160 l=.gd false .junk)(hp:∀d l,orc d 161 l=.gd false .junk)
  (E:List (Nat×AV))(mb:List (List AV))(ml:List Nat)(ms:Nat->LS)(mn:Nat)(g:Pg)(f:Int)(mid k3 k5:Nat)(q:Pl)(d:Int)(rte ce rti ci rL rD:Rt)(ev bl:List bD)(en:Int)(ids D:List Int)(L:List Sp)(past:List Ad)(Q:Exit->AS->Prop)
  (as5:∀d l,orc d 159 l=.sl .ro (past.map Vi))(as6:∀d l,orc d 158 l=.aW [.sl rL (L.map Qe),.sl rD (D.map Qy)])(h62:∀d l,orc d 62 l=.sl .ro (bl.map Qf))
  (agd:Pure Tryz.prog az 159 [.sl ce (ev.map Zu),I en] (.sl .ro (past.map Vi)))
  (aan:Pure Tryz.prog az 158 [.agg (Qb q),.sl ci (ids.map Qy),I en,.sl .ro (past.map Vi)] (.aW [.sl rL (L.map Qe),.sl rD (D.map Qy)]))
  (YS:Pure Tryz.prog az 62 [.agg (Qb q),.sl rL (L.map Qe),I en] (.sl .ro (bl.map Qf)))
  (hce:s5 rte ce)(hci:s5 rti ci)(hcL:s5 rL rL)
  (h3:Abs.look E 3=.ptr k3 0)(Bb:k3<mb.length)(Tz:Qh mb k3=Qu g f mid)(h5:Abs.look E 5=.ptr k5 0)(hk5:k5<mb.length)(hr5:Qh mb k5=Qb q++[I d])
  (h8:Abs.look E 8=.sl rte (ev.map Zu))(axp:EvW ml rte ev.length)(h9:Abs.look E 9=I en)(qt:Abs.look E 12=.sl rti (ids.map Qy))
  (dZ:g.dr.length<=1000000)(AT:D.length<=1000000)(hl3:ev.length<=1000000)(hl4:bl.length<=10000000)
  (hQ:∀E' ex ls ke vd,Abs.look E' 6=.sl (.own ke 7) (ev.map Zu++bl.map Qf)->Abs.look E' 7=vd->ic mb.length ⟨mb++ex,ls,ms,mn⟩ vd ((dd (Wn (g.dr++D))).map Qy)->Q .ret ⟨Zf 103 E',⟨mb++ex,ls,ms,mn⟩⟩):
  vc Tryz.prog az orc Y Hj ⟨Zf 103 E,⟨mb,ml,ms,mn⟩⟩ Q:=by
 have as7:=fun m d x=>hce m d x;have as8:=fun m d x=>hci m d x;have as9:=fun m d x=>hcL m d x;simp only[Qb,zzae,zzai]at hr5;simp only[Qb]at aan YS;have hR5:∀ex,Qh (mb++ex) k5=_:=fun ex=>(Ql hk5).trans hr5;have hw7:∀a∈ev,(Zu a).length=7:=fun _ _=>rfl;have axq:∀a∈bl,(Qf a).length=7:=fun _ _=>rfl;obtain⟨rfl,hn⟩|⟨k,rfl,hk⟩:=axp
 ·have he:ev=[]:=zzav hn;subst he;simp[Hj,h8,h9,qt,h5,hr5,as7,as8,as9,as5,as6,h62,ho1];refine⟨agd,aan,YS,⟨axq,by omega⟩,Hl Y orc ho5 ho7 hs hp _ mb _ ms mn g f mid k3 (.sl (.own ml.length 7) (bl.map Qf)) rD D Q (by simp[h3]) Bb Tz (by simp) (by simp) dZ AT ?_⟩;intro E' ex vd q1 q2 q3;exact hQ E' ex _ ml.length vd (by rw[q1];rfl) q2 q3
 simp[Hj,h8,h9,qt,h5,hr5,as7,as8,as9,as5,as6,h62,hk];refine⟨agd,aan,YS,⟨?_,by omega⟩,Hl Y orc ho5 ho7 hs hp _ mb _ ms mn g f mid k3 (.sl (.own k 7) (ev.map Zu++bl.map Qf)) rD D Q (by simp[h3]) Bb Tz (by simp) (by simp) dZ AT ?_⟩
 ·rintro row (⟨a,_,rfl⟩|⟨a,_,rfl⟩)<;>rfl
 intro E' ex vd q1 q2 q3;exact hQ E' ex _ k vd q1 q2 q3
open Go Go.Abs
def jY(g:Pg)(b:List (Int×Bool))(e:En):Bool:=!ze b e.id&&!decide (e.id∈g.dr)
def Kc(g:Pg)(b:List (Int×Bool))(l:List En):List Int:=(l.filter (jY g b)).map (·.id)
def Sj(g:Pg)(b:List (Int×Bool))(l:List En)(e:En):Kc g b (l++[e])=Kc g b l++(if jY g b e then[e.id]else[]):=by
 unfold Kc;rw[zzcu,zzc];congr 1;cases h:jY g b e<;>simp[h]
def jZ(g:Pg)(b:List (Int×Bool))(l:List En):(Kc g b l).length<=l.length:=by
 unfold Kc;rw[zzbg];exact zzbr _ _
def IdR(ml ls:List Nat)(rt:Rt)(n:Nat):Prop:=(rt=.nil/\n=0/\ls=ml)\/(rt=.own ml.length 1/\n≠0/\ls=ml++[n])
def ata(g:Pg)(b:List (Int×Bool))(q:Pl)(mb:List (List AV))(ml:List Nat)(ms:Nat->LS)(mn:Nat)(s:Nat->AV)(m:AM):Prop:=
 ∃(i:Nat)(bx:List (List AV))(rt:Rt)(ls:List Nat),s 49=I i/\i<=q.ens.length/\m=⟨mb++bx,ls,ms,mn⟩/\s 12=.sl rt ((Kc g b (q.ens.take i)).map Qy)/\IdR ml ls rt (Kc g b (q.ens.take i)).length
def aao(Y:YT)(orc:Nat->FuncId->List AV->AV)(atb:orc 72 999999 []=.junk)(age:orc 71 999999 []=.junk)
  (E:List (Nat×AV))(mb:List (List AV))(ml:List Nat)(ms:Nat->LS)(mn:Nat)(g:Pg)(f:Int)(mid k3 k5:Nat)(b:List (Int×Bool))(q:Pl)(d:Int)(Q:Exit->AS->Prop)
  (LY:∀d id,orc d 157 [.sl .ro (g.dr.map Qy),I id]=.bool (decide (id∈g.dr)))
  (h3:Abs.look E 3=.ptr k3 0)(Bb:k3<mb.length)(Tz:Qh mb k3=Qu g f mid)(h5:Abs.look E 5=.ptr k5 0)(hk5:k5<mb.length)(hr5:Qh mb k5=Qb q++[I d])(hb:gj mb mid b)
  (dZ:g.dr.length<=1000000)(AT:q.ens.length<=1000000)
  (hQ:∀E' ex rt ls,(∀k,k≠12->k<14->Abs.look E' k=Abs.look E k)->Abs.look E' 12=.sl rt ((Kc g b q.ens).map Qy)->IdR ml ls rt (Kc g b q.ens).length->vc Tryz.prog az orc Y Hj ⟨Zf 103 E',⟨mb++ex,ls,ms,mn⟩⟩ Q):
  vc Tryz.prog az orc Y OP ⟨Zf 103 E,⟨mb,ml,ms,mn⟩⟩ Q:=by
 simp only[Qu,Qo,Qb,zzae,zzai]at Tz hr5;have hR3:∀ex,Qh (mb++ex) k3=_:=fun ex=>(Ql Bb).trans Tz;have hR5:∀ex,Qh (mb++ex) k5=_:=fun ex=>(Ql hk5).trans hr5;have hRm:∀ex,Qh (mb++ex) mid=[.aJ 0 (bH .bool b)]:=hb.ext;have hk:∀id,Pure Tryz.prog az 157 [.sl .ro (g.dr.map Qy),I id] (.bool (decide (id∈g.dr))):=fun id=>jU g.dr id (by omega);simp[OP,h5,hr5];refine Qi oD (ata g b q mb ml ms mn) (fun s _=>q.ens.length-(numOf (s 49)).toNat) ?_ ?_
 ·exact⟨0,[],.nil,ml,by simp,by omega,by simp,by simp[Kc],.inl ⟨rfl,by simp[Kc],rfl⟩⟩
 rintro s m ⟨i,bx,rt,ls,h49,hi,rfl,qt,aR⟩;rcases zzaa i q.ens.length with ai|bu
 ·obtain⟨x,hx⟩:=aS ai;have ah:Qh (q.ens.map Qd) i=Qd x:=Qs (by simp[hx]);have aa:(i:Int)<(q.ens.length:Int):=by omega
  have hw:=bJ i (by omega);have bB:q.ens.take (i+1)=q.ens.take i++[x]:=by rw[zzas,hx];rfl
  have mN:Kc g b (q.ens.take (i+1))=Kc g b (q.ens.take i)++(if jY g b x then[x.id]else[]):=by rw[bB,Sj]
  have eS:=jZ g b (q.ens.take i);rw[zzaq]at eS;have skip:jY g b x=false->Kc g b (q.ens.take (i+1))=Kc g b (q.ens.take i):=fun h=>by rw[mN,h];simp
  have more:jY g b x=true->Kc g b (q.ens.take (i+1))=Kc g b (q.ens.take i)++[x.id]:=fun h=>by rw[mN,h];simp
  generalize Kc g b (q.ens.take i)=O at*
  generalize c9:Kc g b (q.ens.take (i+1))=O' at*
  have pG:∀a∈O,(Qy a).length=1:=fun _ _=>rfl;rcases Xr AV.bool x.id b 0 with⟨b1,b2,_⟩|⟨u,u',b1,b2,_⟩
  ·by_cases dX:x.id∈g.dr
   ·have e1:=skip (by simp[jY,dX]);simp[h49,aa,ah,Qd,oD,hw,h3,hR3,hRm,b2,dX,LY,qt];refine⟨by simpa[dX]using hk x.id,aO,⟨i+1,_,rt,ls,by simp,by omega,rfl,by rw[c9,e1];simp,by rw[c9,e1];exact aR⟩,by omega⟩
   have e1:=more (by simp[jY,dX,ze,b1]);obtain⟨rfl,hn,rfl⟩|⟨rfl,hn,rfl⟩:=aR
   ·have hO:O=[]:=zzav hn;subst hO;simp[h49,aa,ah,Qd,oD,hw,h3,hR3,hRm,b2,dX,LY,qt,atb,age];refine⟨by simpa[dX]using hk x.id,aO,⟨i+1,_,_,_,by simp,by omega,rfl,by rw[c9,e1];simp[Qy];rfl,by rw[c9,e1];exact .inr ⟨rfl,by simp,by simp⟩⟩,by omega⟩
   simp[h49,aa,ah,Qd,oD,hw,h3,hR3,hRm,b2,dX,LY,qt,age];refine⟨by simpa[dX]using hk x.id,⟨?_,by omega⟩,aO,⟨i+1,_,_,_,by simp,by omega,rfl,by rw[c9,e1];simp[Qy];rfl,by rw[c9,e1];exact .inr ⟨rfl,by simp,by simp⟩⟩,by omega⟩
   ·rintro row (⟨a,_,rfl⟩|rfl)<;>rfl
  cases u with
  |true=>
   have e1:=skip (by simp[jY,ze,b1]);simp[h49,aa,ah,Qd,oD,hw,h3,hR3,hRm,b2,LY,qt];refine⟨aO,⟨i+1,_,rt,ls,by simp,by omega,rfl,by rw[c9,e1];simp,by rw[c9,e1];exact aR⟩,by omega⟩
  |false=>
   by_cases dX:x.id∈g.dr
   ·have e1:=skip (by simp[jY,dX]);simp[h49,aa,ah,Qd,oD,hw,h3,hR3,hRm,b2,dX,LY,qt];refine⟨by simpa[dX]using hk x.id,aO,⟨i+1,_,rt,ls,by simp,by omega,rfl,by rw[c9,e1];simp,by rw[c9,e1];exact aR⟩,by omega⟩
   have e1:=more (by simp[jY,dX,ze,b1]);obtain⟨rfl,hn,rfl⟩|⟨rfl,hn,rfl⟩:=aR
   ·have hO:O=[]:=zzav hn;subst hO;simp[h49,aa,ah,Qd,oD,hw,h3,hR3,hRm,b2,dX,LY,qt,atb,age];refine⟨by simpa[dX]using hk x.id,aO,⟨i+1,_,_,_,by simp,by omega,rfl,by rw[c9,e1];simp[Qy];rfl,by rw[c9,e1];exact .inr ⟨rfl,by simp,by simp⟩⟩,by omega⟩
   simp[h49,aa,ah,Qd,oD,hw,h3,hR3,hRm,b2,dX,LY,qt,age];refine⟨by simpa[dX]using hk x.id,⟨?_,by omega⟩,aO,⟨i+1,_,_,_,by simp,by omega,rfl,by rw[c9,e1];simp[Qy];rfl,by rw[c9,e1];exact .inr ⟨rfl,by simp,by simp⟩⟩,by omega⟩
   ·rintro row (⟨a,_,rfl⟩|rfl)<;>rfl
 have hbf:q.ens.take i=q.ens:=zzap bu;rw[hbf]at qt aR;have bI:¬(i:Int)<(q.ens.length:Int):=by omega
 simp[h49,bI,oD];refine hQ _ _ rt ls (fun k h1 h2=>?_) (by simp[qt]) aR;have:k=0\/k=1\/k=2\/k=3\/k=4\/k=5\/k=6\/k=7\/k=8\/k=9\/k=10\/k=11\/k=13:=by omega
 rcases this with rfl|rfl|rfl|rfl|rfl|rfl|rfl|rfl|rfl|rfl|rfl|rfl|rfl<;>simp
end
end Go.Proofs.YtnopaopphmjnmaaGreatDoor
