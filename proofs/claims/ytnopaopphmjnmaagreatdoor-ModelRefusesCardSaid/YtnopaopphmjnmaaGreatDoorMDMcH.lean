import Derived.Test.YtnopaopphmjnmaaGreatDoorMDMcG
import Derived.Test.YtnopaopphmjnmaaGreatDoorMDScL
set_option linter.all false
set_option maxRecDepth 100000
set_option maxHeartbeats 64000000
namespace Go.Proofs.YtnopaopphmjnmaaGreatDoor
noncomputable section
open Go Go.Abs
def yg(n a b:Int)(ha:0<=a/\a<=1000000000)(hb:0<=b/\b<=1000000000):Pure Tryz.prog aq 229 [I n,I a,I b] (.bool (decide (n=a+b))):=by
 have hw:IntKind.i64.wrap (a+b)=a+b:=by rw[Qk]<;>omega
 have h1:¬a<0:=by omega
 have h2:¬b<0:=by omega
 have h3:¬a+b<0:=by omega
 refine Qn ad1 (fun _ _ _=>.junk) (by simp) ?_;by_cases h:n=a+b<;>simp[aiZ,ai0,hw,h1,h2,h3,h]
def Sc(e:bD):Ad:=⟨e.it,0,e.st,e.fr⟩
def rI(n:Int):List Ad->List Ad
 |[]=>[]
 |[a]=>[{a with fs:=a.fs+n}]
 |a::b::r=>a::rI n (b::r)
def Hi(n:Int)(a:Ad):∀l:List Ad,rI n (l++[a])=l++[{a with fs:=a.fs+n}]
 |[]=>rfl
 |[x]=>rfl
 |x::y::r=>by have:=Hi n a (y::r);simp only[zzae]at this |-;rw[rI,this]
def yh(x e:bD):Prop:=x.id=e.id/\e.st=x.st+x.fr/\e.i=x.i+x.fr
instance (x e:bD):Decidable (yh x e):=by unfold yh;infer_instance
def Yw(x:Option bD)(e:bD)(out:List Ad):List Ad:=
 if e.id=0 then out else match x with
 |none=>out++[Sc e]
 |some x=>if yh x e then rI e.fr out else out++[Sc e]
def tY:Option bD->List bD->List Ad->List Ad
 |_,[],out=>out
 |x,e::r,out=>tY (some e) r (Yw x e out)
def Sd(l:List bD)(f:Int):List Ad:=tY none (Ye f l) []
def Bq(e:bD):∀(l:List bD)(x:Option bD)(out:List Ad),tY x (l++[e]) out=Yw (match l.getLast? with|some y=>some y|none=>x) e (tY x l out)
 |[],_,_=>rfl
 |[a],_,_=>rfl
 |a::b::r,x,out=>by
  have:=Bq e (b::r) (some a) (Yw x a out);simp only[zzae]at this |-
  rw[tY,this,List.getLast?_cons_cons];congr 1
def agy{n:Int}:∀{l:List Ad},l≠[]->rI n l≠[]
 |[],h=>absurd rfl h
 |[a],_=>by simp[rI]
 |a::b::r,_=>by simp[rI]
def rJ{B:List bD}{i:Nat}{e:bD}(h:B[i]?=some e):tY none (B.take (i+1)) []=Yw (if i=0 then none else B[i-1]?) e (tY none (B.take i) []):=by
 have ai:=(zza.1 h).1;rw[zzar,h];show tY none (B.take i++[e]) []=_;rw[Bq];congr 1;cases i with
 |zero=>rfl
 |succ i=>
  have hx:B[i]?=some B[i]:=zzad (by omega);rw[zzar,hx,zzek,List.getLast?_concat,if_neg (by omega),zzga,hx]
def OT{B:List bD}:∀{i:Nat}{e:bD},B[i]?=some e->e.id≠0->tY none (B.take (i+1)) []≠[]
 |0,e,h,h0=>by rw[rJ h,if_pos rfl];simp[Yw,h0]
 |i+1,e,h,h0=>by
  rw[rJ h,if_neg (by omega),zzga];have ai:=(zza.1 h).1;obtain⟨x,hx⟩:∃x,B[i]?=some x:=⟨_,zzad (by omega)⟩;rw[hx];unfold Yw;rw[if_neg h0];simp only;split
  ·rename_i hj;exact agy (OT hx (by rw[hj.1];exact h0))
  simp
def nX(f:Int)(hf:f<=1000000):∀(l:List bD),(∀e∈l,Uf e)->∀e∈Ye f l,Uf e
 |[],_,e,h=>by cases h
 |a::r,hs,e,h=>by
  have ih:=nX f hf r fun e he=>hs e (by simp[he]);rw[Ye]at h;split at h
  ·exact ih e h
  rename_i cc;rcases zzau.1 h with rfl|h
  ·obtain⟨⟨a1,a2⟩,⟨a3,a4⟩,a5,a6⟩:=hs a (by simp);refine⟨⟨a1,a2⟩,?_,a5,a6⟩;simp only[L7];split<;>omega
  exact ih e h
def FsB(n:Int)(out:List Ad):Prop:=∀a∈out,0<=a.fs/\a.fs<=n
def FsB.inc{n k:Int}(hk:0<=k/\k<=1000000):∀{l:List Ad},FsB n l->FsB (n+1000000) (rI k l)
 |[],_,a,h=>by cases h
 |[x],hl,a,h=>by
  have:=hl x (by simp);simp only[rI,zzbr]at h;subst h;simp only;omega
 |x::y::r,hl,a,h=>by
  rw[rI]at h;rcases zzau.1 h with rfl|h
  ·have:=hl a (by simp);omega
  exact FsB.inc hk (l:=y::r) (fun b hb=>hl b (by simp[hb])) a h
def FsB.step{n:Int}{x:Option bD}{e:bD}{out:List Ad}(h:FsB n out)(hn:0<=n)(he:Uf e):FsB (n+1000000) (Yw x e out):=by
 obtain⟨_,h3,_⟩:=he;have hw:FsB (n+1000000) out:=fun a ha=>by have:=h a ha;omega
 have hp:FsB (n+1000000) (out++[Sc e]):=fun a ha=>by
  rcases zzap.1 ha with ha|ha
  ·exact hw a ha
  simp only[zzbr]at ha;subst ha;simp only[Sc];omega
 unfold Yw;split
 ·exact hw
 cases x with
 |none=>exact hp
 |some x=>
  simp only;split
  ·exact h.inc h3
  exact hp
def Hj(B:List bD)(x:Option bD)(out:List Ad):(tY x B out).length<=out.length+B.length:=by
 induction B generalizing x out with
 |nil=>simp[tY]
 |cons e r ih=>
  rw[tY];have h1:=ih (some e) (Yw x e out)
  have h2:(Yw x e out).length<=out.length+1:=by
   have hi:∀(k:Int)(l:List Ad),(rI k l).length=l.length:=by
    intro k l;induction l with
    |nil=>rfl
    |cons a r ih=>cases r with
     |nil=>rfl
     |cons b r=>rw[rI,zzbd,ih];rfl
   unfold Yw;split
   ·omega
   cases x with
   |none=>simp
   |some x=>
    simp only;split
    · rw[hi];omega
    simp
  simp only[zzbd];omega
def sW(l:List Ad):List AV:=(l.map Vh).flatten
def uH:∀l,(sW l).length=l.length*4
 |[]=>rfl
 |a::r=>by have:=uH r;simp only[sW,zzay,zzci,zzai]at this |-;rw[this];simp[Vh];omega
def agz(a b:List Ad):sW (a++b)=sW a++sW b:=by simp[sW]
def an7(l:List Ad):Zg (sW l)=true:=fh (fun _=>rfl) l
def Se{bx:List (List AV)}{k:Nat}{c:List AV}(h:k<bx.length)(ex:List (List AV)):Qh (bx.set k c++ex) k=c:=
 Qr (by rw[zzag (by simpa using h)];simp[h])
def lB(bx:List (List AV))(k:Nat)(c p q r:List AV):Qh (bx.set k c++[p,q,r]) (bx.length+2)=r:=
 Qr (by rw[zzal (by simp)];simp)
def Sf(l:List Ad):aV 4 l.length (sW l)=l.map Vh:=by
 have:=Jk (sz:=4) (rows:=l.map Vh) (Qar (f:=Vh) (fun _=>rfl) l);rw[zzbg]at this;exact this
def OV(bx:List (List AV))(o:List Ad)(v:AV):Prop:=(o=[]/\v=.sl .nil [])\/(o≠[]/\∃k,v=.bs k 0 o.length 4/\k<bx.length/\Qh bx k=sW o)
def at3(B:List bD)(ls:List Nat)(g:Nat->AV)(m:AM):Prop:=
 ∃(i:Nat)(bx:List (List AV)),g 15=I i/\i<=B.length/\m=⟨bx,ls,fun _=>.gone,0⟩/\OV bx (tY none (B.take i) []) (g 5)/\FsB (i*1000000) (tY none (B.take i) [])
def mO:Nat->FuncId->List AV->AV:=fun d f l=>if f=155 then .gd false .junk else if f=229 then(match l with|[.int _ n,.int _ a,.int _ b]=>.bool (decide (n=a+b))|_=>.junk)else if f=999999 then(if d=73 then .junk else .aK 0 [])else .junk
def OV.ext{bx:List (List AV)}{o:List Ad}{v:AV}(h:OV bx o v)(ex:List (List AV)):OV (bx++ex) o v:=by
 obtain h|⟨h0,k,h1,h2,h3⟩:=h
 ·exact .inl h
 exact .inr ⟨h0,k,h1,by simp;omega,by rw[Ql h2,h3]⟩
def Mb(l:List bD)(f:Int)(hl:l.length<=1000000)(hs:∀e∈l,Uf e)(hf:0<=f/\f<=1000000):Pure Tryz.prog aq 159 [.sl .ro (l.map Qf),I f] (.sl .ro ((Sd l f).map Vh)):=by
 have hsB:=nX f hf.2 l hs;have hlB:(Ye f l).length<=1000000:=by have:=Qde f l;omega
 have:Pure Tryz.prog aq 159 [.sl .ro (l.map Qf),I f] (.sl (if Sd l f=[]then .nil else .ro) ((Sd l f).map Vh)):=by
  refine Qn ada mO (by simp) ?_;simp[UO,aiq,mO];refine yd _ _ l f hl hs hf _ fun ex v ls hO=>?_
  obtain⟨rt,rfl⟩:∃rt,v=.sl rt ((Ye f l).map Qf):=by
   obtain⟨e,rfl,_⟩|⟨e,rfl,_⟩:=hO
   ·exact⟨.nil,by rw[e];rfl⟩
   exact⟨_,rfl⟩
  clear hO;unfold Sd;generalize Ye f l=B at*
  simp;refine Qi dU (at3 B ls) (fun g _=>B.length-(numOf (g 15)).toNat) ?_ ?_
  ·exact⟨0,ex,by simp,by omega,by simp,.inl ⟨by simp[tY],by simp⟩,fun a h=>by simp[tY]at h⟩
  rintro g m ⟨i,bx,oh,hi,rfl,hO,hF⟩;rcases zzaa i B.length with ai|bw
  ·obtain⟨a,ha⟩:=aP ai;have aa:Qh (B.map Qf) i=Qf a:=Qr (by simp[ha]);have hw:=bH i (by omega);have ah:(i:Int)<(B.length:Int):=by omega
   have qn:=hsB a (zzac ha);have bA:=rJ ha;have Sg:=hF.step (x:=if i=0 then none else B[i-1]?) (e:=a) (by omega) qn;rw[<- bA]at Sg;obtain⟨⟨a1,a2⟩,⟨a3,a4⟩,⟨a5,a6⟩,a7⟩:=qn;by_cases h0:a.id=0
   ·simp[oh,aa,ai,Qf,h0,dU,hw];refine⟨aN,⟨i+1,_,by simp,by omega,rfl,?_,?_⟩,by omega⟩
    ·simp[Yw,h0]at bA;rw[bA];simpa using hO.ext _
    have:((i+1:Nat):Int)*1000000=(i:Int)*1000000+1000000:=by omega
    rw[this];exact Sg
   cases i with
   |zero=>
    have e1:tY none (B.take 1) []=[Sc a]:=by rw[bA];simp[Yw,h0,tY]
    have hO0:g 5=.sl .nil []:=by
     obtain⟨_,h⟩|⟨h,_⟩:=hO
     ·exact h
     exact absurd (by simp[tY]) h
    have eO:IntKind.i64.wrap 1=1:=by rw[Qk]<;>omega
    simp at oh;simp[oh,aa,ai,Qf,h0,dU,eO,hO0,mO];refine⟨aN,⟨1,_,by simp,by omega,rfl,.inr ⟨by rw[e1];simp,bx.length+1,by simp[e1],by simp,?_⟩,?_⟩,by omega⟩
    ·simp[e1,sW,Vh,Sc]
    simpa using Sg
   |succ i=>
    have ayq:i<B.length:=by omega
    obtain⟨x,hx⟩:=aP ayq;have yj:Qh (B.map Qf) i=Qf x:=Qr (by simp[hx]);obtain⟨⟨x1,x2⟩,⟨x3,x4⟩,⟨x5,x6⟩,x7⟩:=hsB x (zzac hx);have k1:=yg a.st x.st x.fr (by omega) (by omega);have k2:=yg a.i x.i x.fr (by omega) (by omega);have K3:IntKind.i64.wrap (i:Int)=i:=by rw[Qk]<;>omega
    have yl:(i:Int)<(B.length:Int):=by omega
    have eS:(0:Int)<(i:Int)+1:=by omega
    rw[if_neg (by omega),zzga,hx]at bA;have aJ:=OT hx;have qm:((i+1+1:Nat):Int)*1000000=((i+1:Nat):Int)*1000000+1000000:=by omega
    have Iv:=Hj (B.take (i+1)) none [];have an8:¬yh x a->tY none (B.take (i+1+1)) []=tY none (B.take (i+1)) []++[Sc a]:=fun h=>by rw[bA];simp[Yw,h0,h]
    have ym:yh x a->tY none (B.take (i+1+1)) []=rI a.fr (tY none (B.take (i+1)) []):=fun h=>by rw[bA];simp[Yw,h0,h]
    rw[<- qm]at Sg;clear bA;generalize tY none (B.take (i+1)) []=out at*
    generalize cB:tY none (B.take (i+1+1)) []=out' at*
    simp at oh ai ah hw Iv;have ati:out.length<=1000000:=by omega
    by_cases hj:yh x a
    ·have e1:=ym hj;obtain⟨j1,j2,j3⟩:=hj;have aJ:=aJ (by rw[j1];exact h0)
     obtain⟨O,z,rfl⟩:∃O z,out=O++[z]:=by
      rcases zzhi out with e|⟨O,z,e⟩
      ·exact absurd e aJ
      exact⟨O,z,by rw[e,zzhj]⟩
     have hOl:(sW O).length=O.length*4:=uH O;have hz:=hF z (by simp);have hwz:IntKind.i64.wrap (z.fs+a.fr)=z.fs+a.fr:=by rw[Qk]<;>omega
     have hd3:∀X:List AV,(sW O++X).drop (O.length*4+3)=X.drop 3:=fun X=>Bn _ _ _ _ hOl;have hs3:∀X Y:List AV,setA (sW O++X) (O.length*4+3) Y=sW O++setA X 3 Y:=fun X Y=>Bm _ _ _ _ _ hOl;obtain⟨e,_⟩|⟨_,k,h5,hk,hr⟩:=hO
     ·exact absurd e aJ
     have hR:∀ex,Qh (bx++ex) k=sW O++[I z.it,I z.re,I z.fr,I z.fs]:=fun ex=>by rw[Ql hk,hr,agz];rfl
     rw[Hi]at e1;rw[zzai,zzdx]at h5;have hwo:IntKind.i64.wrap (O.length:Int)=O.length:=by simp at ati;rw[Qk]<;>omega
     have zj:k<bx.length+1:=by omega
     have aaw:k<bx.length+(1+1):=by omega
     have ayr:k<bx.length+2:=by omega
     simp[oh,aa,ah,Qf,h0,dU,hw,yj,yl,eS,K3,mO,j1,j2,j3,h5,hR,hwo,hd3,hs3,hOl,hwz,hk,aaw];refine⟨by omega,by rw[j2]at k1;simpa using k1,by rw[j3]at k2;simpa using k2,by omega,aN,⟨i+1+1,_,by simp,by omega,rfl,.inr ⟨by rw[cB,e1];simp,k,by rw[cB,e1];simp,by simp;omega,?_⟩,by rw[cB];exact Sg⟩,by omega⟩
     ·rw[cB,e1,Se hk];simp[sW,Vh]
    have e1:=an8 hj
    have yT:¬x.id=a.id\/(x.id=a.id/\¬a.st=x.st+x.fr)\/(x.id=a.id/\a.st=x.st+x.fr/\¬a.i=x.i+x.fr):=by
     unfold yh at hj;by_cases j1:x.id=a.id
     ·by_cases j2:a.st=x.st+x.fr
      ·exact .inr (.inr ⟨j1,j2,fun j3=>hj ⟨j1,j2,j3⟩⟩)
      exact .inr (.inl ⟨j1,j2⟩)
     exact .inl j1
    obtain⟨rfl,h5⟩|⟨R6,k,h5,hk,hr⟩:=hO
    ·obtain j1|⟨j1,j2⟩|⟨j1,j2,j3⟩:=yT
     ·simp[oh,aa,ah,Qf,h0,dU,hw,yj,yl,eS,K3,mO,j1,h5];refine⟨by omega,aN,⟨i+1+1,_,by simp,by omega,rfl,.inr ⟨by rw[cB,e1];simp,bx.length+2,by rw[cB,e1];simp,by simp,?_⟩,by rw[cB];exact Sg⟩,by omega⟩
      ·rw[cB,e1];simp[sW,Vh,Sc]
     ·simp[oh,aa,ah,Qf,h0,dU,hw,yj,yl,eS,K3,mO,j1,j2,h5];refine⟨by omega,by simpa[j2]using k1,aN,⟨i+1+1,_,by simp,by omega,rfl,.inr ⟨by rw[cB,e1];simp,bx.length+2,by rw[cB,e1];simp,by simp,?_⟩,by rw[cB];exact Sg⟩,by omega⟩
      ·rw[cB,e1];simp[sW,Vh,Sc]
     simp[oh,aa,ah,Qf,h0,dU,hw,yj,yl,eS,K3,mO,j1,j2,j3,h5];refine⟨by omega,by rw[j2]at k1;simpa using k1,by simpa[j3]using k2,aN,⟨i+1+1,_,by simp,by omega,rfl,.inr ⟨by rw[cB,e1];simp,bx.length+2,by rw[cB,e1];simp,by simp,?_⟩,by rw[cB];exact Sg⟩,by omega⟩
     ·rw[cB,e1];simp[sW,Vh,Sc,j2]
    have hR:∀ex,Qh (bx++ex) k=sW out:=fun ex=>by rw[Ql hk,hr]
    have zj:k<bx.length+1:=by omega
    have aaw:k<bx.length+(1+1):=by omega
    have ayr:k<bx.length+2:=by omega
    have N3:=uH out;have aax:¬sW out=[]:=by intro h;rw[h]at N3;exact R6 (zzav (by simp at N3;omega))
    have LI:List.take (out.length*4) (sW out)=sW out:=zzam (by omega);obtain j1|⟨j1,j2⟩|⟨j1,j2,j3⟩:=yT
    ·simp[oh,aa,ah,Qf,h0,dU,hw,yj,yl,eS,K3,mO,j1,h5,hR,hk,aaw,N3,aax,LI];refine⟨by omega,by omega,aN,⟨i+1+1,_,by simp,by omega,rfl,.inr ⟨by rw[cB,e1];simp,bx.length+2,by rw[cB,e1];simp,by simp,?_⟩,by rw[cB];exact Sg⟩,by omega⟩
     ·rw[cB,e1,lB];simp[sW,Vh,Sc]
    ·simp[oh,aa,ah,Qf,h0,dU,hw,yj,yl,eS,K3,mO,j1,j2,h5,hR,hk,aaw,N3,aax,LI];refine⟨by omega,by simpa[j2]using k1,by omega,aN,⟨i+1+1,_,by simp,by omega,rfl,.inr ⟨by rw[cB,e1];simp,bx.length+2,by rw[cB,e1];simp,by simp,?_⟩,by rw[cB];exact Sg⟩,by omega⟩
     ·rw[cB,e1,lB];simp[sW,Vh,Sc]
    simp[oh,aa,ah,Qf,h0,dU,hw,yj,yl,eS,K3,mO,j1,j2,j3,h5,hR,hk,aaw,N3,aax,LI];refine⟨by omega,by rw[j2]at k1;simpa using k1,by simpa[j3]using k2,by omega,aN,⟨i+1+1,_,by simp,by omega,rfl,.inr ⟨by rw[cB,e1];simp,bx.length+2,by rw[cB,e1];simp,by simp,?_⟩,by rw[cB];exact Sg⟩,by omega⟩
    ·rw[cB,e1,lB];simp[sW,Vh,Sc,j2]
  obtain rfl:i=B.length:=by omega
  rw[zzbn]at hO;obtain⟨e,h5⟩|⟨e,k,h5,hk,hr⟩:=hO
  ·simp[oh,dU,h5,e]
  simp[oh,dU,h5,e];rw[hr,Zk _ _ (an7 _),uH,if_pos (zzab _),Sf]
 exact Qz this (Wk.sl _ _)
open Go Go.Abs
def Hl:SC:=(⟨_,by cbv⟩:tJ [1,1,1,1,1,1,1,1] IV).1
def Ho:SC:=(⟨_,fun _=>by cbv⟩:Kt [1,1] (Kj [1,1,1,1,1,1] IV)).1 Hl
def OW:SC:=(⟨_,fun _=>by cbv⟩:Kt [1,1] (Kj [1,1,1,1] IV)).1 Ho
def at4:SC:=(⟨_,fun _=>by cbv⟩:Kt [1,1,1,1] IV).1 OW
theorem agB:IV=at4:=rfl
def Wl(l:List Int):List Int:=l.mergeSort fun x y=>decide (x<=y)
def rK(l:List Int):(Wl l).length=l.length:=zzeq l
def OX(l:List Int):(l.map Qy).flatten=aj l:=by
 induction l with
 |nil=>rfl
 |cons a r ih=>simp only[zzay,zzci,ih];rfl
def uI{α:Type}(l:List α):Rt:=if l=[]then .nil else .ro
def akN:∀{l:List Int},l≠[]->dd l≠[]
 |[],h=>absurd rfl h
 |[x],_=>by simp[dd]
 |x::y::r,_=>by
  rw[FC];split
  ·exact akN (by simp)
  simp
def gY(n:Nat)(m:AM)(V:AV)(rows:List (List AV)):Prop:=Qv V=true/\∀m':AM,m.boxes.length<=m'.boxes.length->(∀j,n<=j->j<m.boxes.length->Qh m'.boxes j=Qh m.boxes j)->∀d,bF m' (d+2) V=.sl (uI rows) rows
def gY.mono{n n':Nat}{m:AM}{V:AV}{rows:List (List AV)}(h:gY n m V rows)(hn:n'<=n):gY n' m V rows:=⟨h.1,fun m' h1 h2 d=>h.2 m' h1 (fun j q1 q2=>h2 j (by omega) q2) d⟩
def aay(Y:YT)(m:AM)(rt:Rt)(K:AV->AM->Prop)(hK:K (.sl rt []) m):an Tryz.prog aq Y 161 [.sl rt []] m K:=by
 obtain⟨mb,ml,ms,mn⟩:=m;refine Xe BT (fun _ _ _=>.junk) (by simp) ?_;simp[uY,zY];exact hK
def aZ.pre{id:Nat}{mb X B':List (List AV)}(h:aZ (·=id) (mb++X) B')(aO:mb.length<=id):∃ex,B'=mb++ex:=by
 refine⟨B'.drop mb.length,?_⟩;apply zzcj;intro j;have hl:=h.1;simp only[zzai]at hl;rcases zzaa j mb.length with hj|hj
 ·rw[zzag hj];have:=h.2 j (by simp;omega) (by omega);rw[Yz (by omega),this,Yz hj,Ql hj]
 rw[zzal hj,zzbk];congr 1;omega
def gY.ints{B:List (List AV)}{L:List Nat}{st:Nat->LS}{n k id:Nat}{l:List Int}{c:List AV}(hk:k<=id)(aO:id<B.length)(hB:Qh B id=aj l++c)(hc:Zg c=true)(aJ:l≠[]):gY k ⟨B,L,st,n⟩ (.bs id 0 l.length 1) (l.map Qy):=by
 have aT:uI (l.map Qy)=.ro:=by unfold uI;rw[if_neg (by simpa using aJ)]
 rw[gY,aT];refine⟨rfl,fun m' h1 h2 d=>?_⟩;have hr:=h2 id hk aO;simp only at hr h1
 have bT:Zg (aj l++c)=true:=by
  have:=X2 l;unfold Zg at this hc |-
  rw[zzdy,this,hc];rfl
 rw[XU,Vl];rw[hr,hB,Zk _ _ bT,if_pos (by rw[zzai,Ue];omega),zzdb,wA];rfl
def Hp(Y:YT)(orc:Nat->FuncId->List AV->AV)(ho5:orc 95 999999 []=.aK 0 [])(ho7:orc 97 999999 []=.aK 0 [])(hs:∀d l,orc d 160 l=.gd false .junk)(hp:∀d l,orc d 161 l=.gd false .junk)
  (E:List (Nat×AV))(mb:List (List AV))(ml:List Nat)(ms:Nat->LS)(mn:Nat)(g:Pg)(f:Int)(mid k3:Nat)(V8:AV)(rD:Rt)(D:List Int)(Q:Exit->AS->Prop)
  (h3:Abs.look E 3=.ptr k3 0)(A4:k3<mb.length)(Tv:Qh mb k3=Qu g f mid)(h8:Abs.look E 8=V8)(zu:Abs.look E 16=.sl rD (D.map Qy))(ef:g.dr.length<=1000000)(AN:D.length<=1000000)
  (hQ:∀E' ex vd,Abs.look E' 6=V8->Abs.look E' 7=vd->gY mb.length ⟨mb++ex,ml,ms,mn⟩ vd ((dd (Wl (g.dr++D))).map Qy)->Q .ret ⟨Zb 103 E',⟨mb++ex,ml,ms,mn⟩⟩):
  vc Tryz.prog aq orc Y Hl ⟨Zb 103 E,⟨mb,ml,ms,mn⟩⟩ Q:=by
 simp only[Qu,Qo,Qc,zzae,zzah]at Tv
 have fin:∀(X:List (List AV))(id:Nat)(K:AV->AV->AM->Prop),mb.length<=id->id<(mb++X).length->Qh (mb++X) id=aj (g.dr++D)->g.dr++D≠[]->
   (∀ex vd,gY mb.length ⟨mb++ex,ml,ms,mn⟩ vd ((dd (Wl (g.dr++D))).map Qy)->K (.aU []) vd ⟨mb++ex,ml,ms,mn⟩)->
   an Tryz.prog aq Y 160 [.bs id 0 (g.dr++D).length 1] ⟨mb++X,ml,ms,mn⟩ (fun r0 m'=>an Tryz.prog aq Y 161 [.bs id 0 (g.dr++D).length 1] m' (K r0)):=by
  intro X id K bX ai aa aJ hK;refine sD Y (g.dr++D) (by simp;omega) _ id [] (by rw[zzat];exact Jt ai aa) (by rw[zzat];intro h;have:=congrArg List.length h;rw[Ue]at this;exact aJ (zzav this)) _ ?_;have aI:(g.dr++D).length=(Wl (g.dr++D)).length:=(rK _).symm;rw[aI];have eu:Wl (g.dr++D)≠[]:=fun h=>aJ (by have:=congrArg List.length h;rw[rK]at this;exact zzav this);refine sA Y (Wl (g.dr++D)) (by rw[<- aI];simp;omega) _ _ _ _ id (by simpa using ai) eu ?_ _ ?_
  ·rw[zzat];exact Qr (by rw[zzaz ai];first|rfl|(rw[zzat];rfl))
  intro B' z eU tI _
  have bW:(mb++X).set id (aj (List.mergeSort (g.dr++D) fun x y=>decide (x<=y))++[])=mb++X.set (id-mb.length) (aj (List.mergeSort (g.dr++D) fun x y=>decide (x<=y))++[]):=by
   rw[zzcq _ _ bX]
  rw[bW]at eU;obtain⟨ex,rfl⟩:=aZ.pre eU bX;refine hK ex _ ?_;have ays:id<(mb++ex).length:=by have:=eU.1;simp at this ai |-;omega
  rw[nA]at tI;exact gY.ints bX ays tI (X2 z) (akN eu)
 have hR3:∀ex,Qh (mb++ex) k3=_:=fun ex=>(Ql A4).trans Tv;have hm5:mutO orc (some 95)=true:=by unfold mutO;simp[ho5]
 have hm7:mutO orc (some 97)=true:=by unfold mutO;simp[ho7]
 simp only[zzai]at fin;by_cases dZ:g.dr=[]
 ·by_cases hD:D=[]
  ·simp[Hl,h3,h8,zu,Tv,dZ,hD,hs,hp,ho5,ho7];refine oW _ _ _ _ ?_;refine aay _ _ _ _ ?_;have:=fun E' vd h1 h2 h3=>hQ E' [] vd h1 h2 h3;simp only[zzat]at this;refine this _ _ (by simp) (by simp;rfl) ?_;rw[dZ,hD];refine⟨rfl,fun m' h1 h2 d=>?_⟩;simp[Wl,dd,uI]
  have aJ:g.dr++D≠[]:=by simp[hD]
  have eN:¬aj D=[]:=fun h=>hD (by have:=congrArg List.length h;rw[Ue]at this;exact zzav this);rw[dZ]at fin hQ aJ;simp only[zzcf,zzbt,zzah]at fin hQ;have qo:∀a∈D,(Qy a).length=1:=fun _ _=>rfl;simp[Hl,h3,h8,zu,Tv,dZ,hD,hs,hp,ho5,ho7,OX,Ue];refine⟨⟨by omega,qo⟩,fin [aj D] mb.length _ (zzab _) (by simp) (by simp) hD ?_⟩;intro ex vd hv;exact hQ _ _ _ (by simp) (by simp) hv
 have aJ:g.dr++D≠[]:=by simp[dZ]
 have eN:¬aj g.dr=[]:=fun h=>dZ (by have:=congrArg List.length h;rw[Ue]at this;exact zzav this);have qo:∀a∈D,(Qy a).length=1:=fun _ _=>rfl;have ayt:∀a∈g.dr,(Qy a).length=1:=fun _ _=>rfl;have bA:List.take g.dr.length (aj g.dr)=aj g.dr:=zzam (by rw[Ue];exact zzab _);simp[Hl,h3,h8,zu,Tv,dZ,hs,hp,ho5,OX,Ue,eN,bA];refine⟨⟨by omega,ayt⟩,⟨by omega,qo⟩,fin [[],aj g.dr++aj D] (mb.length+1) _ (by omega) (by simp) (by simp[nA]) aJ ?_⟩;intro ex vd hv;exact hQ _ _ _ (by simp) (by simp) hv
open Go Go.Abs
def sX(rt fe:Rt):Prop:=∀m d x,bF m (d+1) (.sl rt x)=.sl fe x
def sX.ro:sX .ro .ro:=fun _ _ _=>rfl
def sX.nil:sX .nil .nil:=fun _ _ _=>rfl
def sX.own(k s:Nat):sX (.own k s) .ro:=fun _ _ _=>rfl
def Mc{α:Type}(l:List α):sX (uI l) (uI l):=by
 unfold uI;split
 ·exact sX.nil
 exact sX.ro
def EvW(ml:List Nat)(rt:Rt)(n:Nat):Prop:=(rt=.nil/\n=0)\/∃k,rt=.own k 7/\ml[k]?=some n
def aaz(Y:YT)(orc:Nat->FuncId->List AV->AV)(ho5:orc 95 999999 []=.aK 0 [])(ho7:orc 97 999999 []=.aK 0 [])(ho1:orc 91 999999 []=.junk)(hs:∀d l,orc d 160 l=.gd false .junk)(hp:∀d l,orc d 161 l=.gd false .junk)
  (E:List (Nat×AV))(mb:List (List AV))(ml:List Nat)(ms:Nat->LS)(mn:Nat)(g:Pg)(f:Int)(mid k3 k5:Nat)(q:Pl)(d:Int)(rte ce rti ci rL rD:Rt)(ev bl:List bD)(en:Int)(ids D:List Int)(L:List Sp)(past:List Ad)(Q:Exit->AS->Prop)
  (at5:∀d l,orc d 159 l=.sl .ro (past.map Vh))(at6:∀d l,orc d 158 l=.aU [.sl rL (L.map Qe),.sl rD (D.map Qy)])(h62:∀d l,orc d 62 l=.sl .ro (bl.map Qf))
  (agC:Pure Tryz.prog aq 159 [.sl ce (ev.map Zq),I en] (.sl .ro (past.map Vh)))
  (aaA:Pure Tryz.prog aq 158 [.agg (Qc q),.sl ci (ids.map Qy),I en,.sl .ro (past.map Vh)] (.aU [.sl rL (L.map Qe),.sl rD (D.map Qy)]))
  (k62:Pure Tryz.prog aq 62 [.agg (Qc q),.sl rL (L.map Qe),I en] (.sl .ro (bl.map Qf)))
  (hce:sX rte ce)(hci:sX rti ci)(hcL:sX rL rL)
  (h3:Abs.look E 3=.ptr k3 0)(A4:k3<mb.length)(Tv:Qh mb k3=Qu g f mid)(h5:Abs.look E 5=.ptr k5 0)(hk5:k5<mb.length)(hr5:Qh mb k5=Qc q++[I d])
  (h8:Abs.look E 8=.sl rte (ev.map Zq))(ayu:EvW ml rte ev.length)(h9:Abs.look E 9=I en)(qZ:Abs.look E 12=.sl rti (ids.map Qy))
  (ef:g.dr.length<=1000000)(AN:D.length<=1000000)(hl3:ev.length<=1000000)(hl4:bl.length<=10000000)
  (hQ:∀E' ex ls ke vd,Abs.look E' 6=.sl (.own ke 7) (ev.map Zq++bl.map Qf)->Abs.look E' 7=vd->gY mb.length ⟨mb++ex,ls,ms,mn⟩ vd ((dd (Wl (g.dr++D))).map Qy)->Q .ret ⟨Zb 103 E',⟨mb++ex,ls,ms,mn⟩⟩):
  vc Tryz.prog aq orc Y Ho ⟨Zb 103 E,⟨mb,ml,ms,mn⟩⟩ Q:=by
 have at7:=fun m d x=>hce m d x;have aua:=fun m d x=>hci m d x;have aub:=fun m d x=>hcL m d x;simp only[Qc,zzae,zzah]at hr5;simp only[Qc]at aaA k62;have hR5:∀ex,Qh (mb++ex) k5=_:=fun ex=>(Ql hk5).trans hr5;have hw7:∀a∈ev,(Zq a).length=7:=fun _ _=>rfl;have ayv:∀a∈bl,(Qf a).length=7:=fun _ _=>rfl;obtain⟨rfl,hn⟩|⟨k,rfl,hk⟩:=ayu
 ·have he:ev=[]:=zzav hn;subst he;simp[Ho,h8,h9,qZ,h5,hr5,at7,aua,aub,at5,at6,h62,ho1];refine⟨agC,aaA,k62,⟨ayv,by omega⟩,Hp Y orc ho5 ho7 hs hp _ mb _ ms mn g f mid k3 (.sl (.own ml.length 7) (bl.map Qf)) rD D Q (by simp[h3]) A4 Tv (by simp) (by simp) ef AN ?_⟩;intro E' ex vd q1 q2 q3;exact hQ E' ex _ ml.length vd (by rw[q1];rfl) q2 q3
 simp[Ho,h8,h9,qZ,h5,hr5,at7,aua,aub,at5,at6,h62,hk];refine⟨agC,aaA,k62,⟨?_,by omega⟩,Hp Y orc ho5 ho7 hs hp _ mb _ ms mn g f mid k3 (.sl (.own k 7) (ev.map Zq++bl.map Qf)) rD D Q (by simp[h3]) A4 Tv (by simp) (by simp) ef AN ?_⟩
 ·rintro row (⟨a,_,rfl⟩|⟨a,_,rfl⟩)<;>rfl
 intro E' ex vd q1 q2 q3;exact hQ E' ex _ k vd q1 q2 q3
open Go Go.Abs
def jW(g:Pg)(b:List (Int×Bool))(e:En):Bool:=!yZ b e.id&&!decide (e.id∈g.dr)
def Jv(g:Pg)(b:List (Int×Bool))(l:List En):List Int:=(l.filter (jW g b)).map (·.id)
def Si(g:Pg)(b:List (Int×Bool))(l:List En)(e:En):Jv g b (l++[e])=Jv g b l++(if jW g b e then[e.id]else[]):=by
 unfold Jv;rw[zzcr,zzbw];congr 1;cases h:jW g b e<;>simp[h]
def jX(g:Pg)(b:List (Int×Bool))(l:List En):(Jv g b l).length<=l.length:=by
 unfold Jv;rw[zzbg];exact zzbs _ _
def IdR(ml ls:List Nat)(rt:Rt)(n:Nat):Prop:=(rt=.nil/\n=0/\ls=ml)\/(rt=.own ml.length 1/\n≠0/\ls=ml++[n])
def auc(g:Pg)(b:List (Int×Bool))(q:Pl)(mb:List (List AV))(ml:List Nat)(ms:Nat->LS)(mn:Nat)(s:Nat->AV)(m:AM):Prop:=
 ∃(i:Nat)(bx:List (List AV))(rt:Rt)(ls:List Nat),s 49=I i/\i<=q.ens.length/\m=⟨mb++bx,ls,ms,mn⟩/\s 12=.sl rt ((Jv g b (q.ens.take i)).map Qy)/\IdR ml ls rt (Jv g b (q.ens.take i)).length
def aaB(Y:YT)(orc:Nat->FuncId->List AV->AV)(aud:orc 72 999999 []=.junk)(agD:orc 71 999999 []=.junk)
  (E:List (Nat×AV))(mb:List (List AV))(ml:List Nat)(ms:Nat->LS)(mn:Nat)(g:Pg)(f:Int)(mid k3 k5:Nat)(b:List (Int×Bool))(q:Pl)(d:Int)(Q:Exit->AS->Prop)
  (Me:∀d id,orc d 157 [.sl .ro (g.dr.map Qy),I id]=.bool (decide (id∈g.dr)))
  (h3:Abs.look E 3=.ptr k3 0)(A4:k3<mb.length)(Tv:Qh mb k3=Qu g f mid)(h5:Abs.look E 5=.ptr k5 0)(hk5:k5<mb.length)(hr5:Qh mb k5=Qc q++[I d])(hb:fW mb mid b)
  (ef:g.dr.length<=1000000)(AN:q.ens.length<=1000000)
  (hQ:∀E' ex rt ls,(∀k,k≠12->k<14->Abs.look E' k=Abs.look E k)->Abs.look E' 12=.sl rt ((Jv g b q.ens).map Qy)->IdR ml ls rt (Jv g b q.ens).length->vc Tryz.prog aq orc Y Ho ⟨Zb 103 E',⟨mb++ex,ls,ms,mn⟩⟩ Q):
  vc Tryz.prog aq orc Y OW ⟨Zb 103 E,⟨mb,ml,ms,mn⟩⟩ Q:=by
 simp only[Qu,Qo,Qc,zzae,zzah]at Tv hr5;have hR3:∀ex,Qh (mb++ex) k3=_:=fun ex=>(Ql A4).trans Tv;have hR5:∀ex,Qh (mb++ex) k5=_:=fun ex=>(Ql hk5).trans hr5;have hRm:∀ex,Qh (mb++ex) mid=[.aK 0 (bI .bool b)]:=hb.ext;have hk:∀id,Pure Tryz.prog aq 157 [.sl .ro (g.dr.map Qy),I id] (.bool (decide (id∈g.dr))):=fun id=>jS g.dr id (by omega);simp[OW,h5,hr5];refine Qi ot (auc g b q mb ml ms mn) (fun s _=>q.ens.length-(numOf (s 49)).toNat) ?_ ?_
 ·exact⟨0,[],.nil,ml,by simp,by omega,by simp,by simp[Jv],.inl ⟨rfl,by simp[Jv],rfl⟩⟩
 rintro s m ⟨i,bx,rt,ls,h49,hi,rfl,qZ,aT⟩;rcases zzaa i q.ens.length with ai|bw
 ·obtain⟨x,hx⟩:=aP ai;have aa:Qh (q.ens.map Qd) i=Qd x:=Qr (by simp[hx]);have ah:(i:Int)<(q.ens.length:Int):=by omega
  have hw:=bH i (by omega);have bA:q.ens.take (i+1)=q.ens.take i++[x]:=by rw[zzar,hx];rfl
  have mD:Jv g b (q.ens.take (i+1))=Jv g b (q.ens.take i)++(if jW g b x then[x.id]else[]):=by rw[bA,Si]
  have gL:=jX g b (q.ens.take i);rw[zzaq]at gL;have skip:jW g b x=false->Jv g b (q.ens.take (i+1))=Jv g b (q.ens.take i):=fun h=>by rw[mD,h];simp
  have more:jW g b x=true->Jv g b (q.ens.take (i+1))=Jv g b (q.ens.take i)++[x.id]:=fun h=>by rw[mD,h];simp
  generalize Jv g b (q.ens.take i)=O at*
  generalize cB:Jv g b (q.ens.take (i+1))=O' at*
  have qo:∀a∈O,(Qy a).length=1:=fun _ _=>rfl;rcases Xp AV.bool x.id b 0 with⟨b1,b2,_⟩|⟨u,u',b1,b2,_⟩
  ·by_cases dZ:x.id∈g.dr
   ·have e1:=skip (by simp[jW,dZ]);simp[h49,ah,aa,Qd,ot,hw,h3,hR3,hRm,b2,dZ,Me,qZ];refine⟨by simpa[dZ]using hk x.id,aN,⟨i+1,_,rt,ls,by simp,by omega,rfl,by rw[cB,e1];simp,by rw[cB,e1];exact aT⟩,by omega⟩
   have e1:=more (by simp[jW,dZ,yZ,b1]);obtain⟨rfl,hn,rfl⟩|⟨rfl,hn,rfl⟩:=aT
   ·have hO:O=[]:=zzav hn;subst hO;simp[h49,ah,aa,Qd,ot,hw,h3,hR3,hRm,b2,dZ,Me,qZ,aud,agD];refine⟨by simpa[dZ]using hk x.id,aN,⟨i+1,_,_,_,by simp,by omega,rfl,by rw[cB,e1];simp[Qy];rfl,by rw[cB,e1];exact .inr ⟨rfl,by simp,by simp⟩⟩,by omega⟩
   simp[h49,ah,aa,Qd,ot,hw,h3,hR3,hRm,b2,dZ,Me,qZ,agD];refine⟨by simpa[dZ]using hk x.id,⟨?_,by omega⟩,aN,⟨i+1,_,_,_,by simp,by omega,rfl,by rw[cB,e1];simp[Qy];rfl,by rw[cB,e1];exact .inr ⟨rfl,by simp,by simp⟩⟩,by omega⟩
   ·rintro row (⟨a,_,rfl⟩|rfl)<;>rfl
  cases u with
  |true=>
   have e1:=skip (by simp[jW,yZ,b1]);simp[h49,ah,aa,Qd,ot,hw,h3,hR3,hRm,b2,Me,qZ];refine⟨aN,⟨i+1,_,rt,ls,by simp,by omega,rfl,by rw[cB,e1];simp,by rw[cB,e1];exact aT⟩,by omega⟩
  |false=>
   by_cases dZ:x.id∈g.dr
   ·have e1:=skip (by simp[jW,dZ]);simp[h49,ah,aa,Qd,ot,hw,h3,hR3,hRm,b2,dZ,Me,qZ];refine⟨by simpa[dZ]using hk x.id,aN,⟨i+1,_,rt,ls,by simp,by omega,rfl,by rw[cB,e1];simp,by rw[cB,e1];exact aT⟩,by omega⟩
   have e1:=more (by simp[jW,dZ,yZ,b1]);obtain⟨rfl,hn,rfl⟩|⟨rfl,hn,rfl⟩:=aT
   ·have hO:O=[]:=zzav hn;subst hO;simp[h49,ah,aa,Qd,ot,hw,h3,hR3,hRm,b2,dZ,Me,qZ,aud,agD];refine⟨by simpa[dZ]using hk x.id,aN,⟨i+1,_,_,_,by simp,by omega,rfl,by rw[cB,e1];simp[Qy];rfl,by rw[cB,e1];exact .inr ⟨rfl,by simp,by simp⟩⟩,by omega⟩
   simp[h49,ah,aa,Qd,ot,hw,h3,hR3,hRm,b2,dZ,Me,qZ,agD];refine⟨by simpa[dZ]using hk x.id,⟨?_,by omega⟩,aN,⟨i+1,_,_,_,by simp,by omega,rfl,by rw[cB,e1];simp[Qy];rfl,by rw[cB,e1];exact .inr ⟨rfl,by simp,by simp⟩⟩,by omega⟩
   ·rintro row (⟨a,_,rfl⟩|rfl)<;>rfl
 have hbf:q.ens.take i=q.ens:=zzam bw;rw[hbf]at qZ aT;have bJ:¬(i:Int)<(q.ens.length:Int):=by omega
 simp[h49,bJ,ot];refine hQ _ _ rt ls (fun k h1 h2=>?_) (by simp[qZ]) aT;have:k=0\/k=1\/k=2\/k=3\/k=4\/k=5\/k=6\/k=7\/k=8\/k=9\/k=10\/k=11\/k=13:=by omega
 rcases this with rfl|rfl|rfl|rfl|rfl|rfl|rfl|rfl|rfl|rfl|rfl|rfl|rfl<;>simp
end
end Go.Proofs.YtnopaopphmjnmaaGreatDoor
