import Derived.Test.YthjppoincojfkaaGreatDoorRBSaG
set_option linter.all false
set_option maxRecDepth 100000
set_option maxHeartbeats 64000000
namespace Go.Proofs.YthjppoincojfkaaGreatDoor
open Go Go.Abs
def LW(p:Pl)(e:En)(f:Int):Option Int:=
 if e.fr<1\/1000000<e.fr\/p.ln<e.fr then none else
 if max f 0<1000000/\0<=mB p e/\mB p e<1000000 then(match lP (Zc p e.it 0) (max f 0) e.fr with
  |none=>none
  |some s=>if mB p e<s then none else some s)else Vr p e f
def RS(p:Pl)(e:En)(f:Int):LW p e f=Vr p e f:=by
 unfold LW;split
 ·rename_i h;rw[Vr,if_pos h]
 rename_i h;split
 ·rename_i h2;rw[Vr,if_neg h];have hz:(max f 0).tdiv 1000000=0:=Int.tdiv_eq_zero_of_lt zE zE;rw[hz]
  conv=>rhs;unfold St
  rw[if_pos zE];cases lP (Zc p e.it 0) (max f 0) e.fr with
  |none=>
   simp only;unfold St;rw[if_neg zE]
  |some s=>rfl
 rfl
def anc(p:Pl):Pi->List (Int×Int)->List (Int×Int)->Int->Int->Option (List Sp)
 |[],_,_,_,_=>some []
 |id::r,us,en,free,last=>match y9 id p.ens 0 with
  |none=>none
  |some k=>if(k:Int)<=last then none else match p.ens[k]? with
   |none=>none
   |some e=>if Wt p e.it≠ -1/\Wt p e.it<=(af e.it us).getD 0 then none else
    match LW p e (Ua en (Kk p e.it) (max e.ea free))with
    |none=>none
    |some s=>match anc p r (Vv us e.it) (Zm p en e.it (s+e.fr)) (s+e.fr) k with
     |none=>none
     |some l=>some ((id,s)::l)
def OF(p:Pl):∀(ids:Pi)(us en:List (Int×Int))(free last:Int),anc p ids us en free last=Ur p ids us en free last
 |[],_,_,_,_=>rfl
 |id::r,us,en,free,last=>by
  rw[anc,Ur];simp only[RS,OF p r];rfl
def ax7(of:Int)(sh:List Sp)(x fr to:Int):Bool:=
 if Yi of sh=false\/x<0\/10000000000<x\/fr<0\/86400<=fr\/to<0\/86400<=to then false else
 if fr<to then decide (fr<=(x+yS of sh x)%86400)&&decide ((x+yS of sh x)%86400<to)else decide (fr<=(x+yS of sh x)%86400)||decide ((x+yS of sh x)%86400<to)
def ax8(s r:Int):Bool:=if 0<=r/\r<8 then decide ((s/2 ^ r.toNat)%2=1)else false
def atP(c:Cl)(k item region:Int):Bool:=decide (c.ki=k)&&(Xu c&&(decide (c.it=item)&&ax8 c.re region))
def hasB(l:List Sp)(x:Int):Bool:=l.any fun s=>decide (s.1<=x)&&decide (x<s.2)
def ai9(a:Int):P2:=[I a]
def ane:Pi->Int->Pi
 |[],x=>[x]
 |a::r,x=>if a<x then a::ane r x else if a=x then a::r else x::a::r
def anf(item region:Int)(c:Cl):Bool:=atP c 1 item region||atP c 2 item region
def edS(C:List Cl):Pi:=C.foldl (fun e c=>ane (ane e c.fr) c.to) []
def ang(C:List Cl)(Ed:Pi):Nat->List Sp
 |0=>[]
 |j+1=>if grX C (Ed.getD j 0)=true then nH (ang C Ed j) (Ed.getD j 0) (Ed.getD (j+1) 0)else ang C Ed j
def ax9(cs:List Cl)(item region:Int):List Sp:=ang (cs.filter (anf item region)) (edS (cs.filter (anf item region))) ((edS (cs.filter (anf item region))).length-1)
def atQ:P2->Int
 |[.int _ a]=>a
 |_=>0
@[simp] def afK(l:Pi):(l.map ai9).map atQ=l:=by
 induction l with
 |nil=>rfl
 |cons a l ih=>simp only[zzaz,ih];rfl
@[simp] def atS(l:Pi):l.map (atQ ∘ ai9)=l:=by rw[<- zzct];exact afK l
def atT(p:Pl)(item region f:Int):Bool:=match Xg item p.aM with
 |none=>false
 |some it=>if region<0\/8<=region\/f<0\/100000000<f then false else if it.ki=5 then true else if Ki p=false then false else
  hasB (ax9 p.cls item region) (p.ep+Yn p.nu p.de f)&&(uF p.cls it.ra).all fun w=>ax7 p.of p.sh (p.ep+Yn p.nu p.de f) w.1 w.2
def ay2(p:Pl)(last f:Int):Int:=if Ki p=true then min last (xu p.nu p.de (Yn p.nu p.de f+1))else last
def ay3(p:Pl)(item region first f:Int)(L:List Sp):Prop:=VS L/\(∀s∈L,s.2<=f)/\(∀x,Xv L x<->first<=x/\x<f/\atT p item region x=true)/\(L.length:Int)<=f-first
section
variable (P:Int->Prop) (fr low:Int)
def OkA(t:Int):Prop:=∀x,t<=x->x<t+fr->P x
structure RfI (c run last:Int):Prop where
 no:∀t,low<=t->t+fr<=c->¬OkA P fr t
 st:(run= -1/\last= -1/\∀x,low<=x->x<c->¬P x)\/(low<=run/\run<last/\last<=c/\(∀x,run<=x->x<last->P x)/\(run=low\/¬P (run-1))/\∀x,last<=x->x<c->¬P x)
end
def nlB(a b:List Sp):Bool:=a.all fun x=>b.all fun y=>!(decide (x.1=y.1)&&decide (y.2<x.2))
def jX(w:Bool):∀(ids:Pi)(K:List Bool),(Xe w ids K).Sublist ids
 |[],K=>by cases K<;>simp[Xe]
 |id::r,[]=>by simp[Xe]
 |id::r,k::ks=>by
  rw[Xe];split
  ·exact(jX w r ks).cons_cons id
  exact(jX w r ks).cons id
def HE:∀{ids:Pi}{K:List Bool},K.length=ids.length->(∀j,j<ids.length->K.getD j false=true)->Xe true ids K=ids/\Xe false ids K=[]
 |[],K,_,_=>by cases K<;>exact⟨rfl,rfl⟩
 |id::r,[],h,_=>by simp at h
 |id::r,k::ks,h,hk=>by
  have h0:=hk 0 zd;simp at h0;subst h0
  obtain⟨h1,h2⟩:=HE (ids:=r) (K:=ks) (Nm h) fun j hj=>by
   have:=hk (j+1) (Nm hj);simpa using this
  simp[Xe,h1,h2]
def LX{ok:Pi->Bool}(hm:aay ok)(h0:ok []=true)(rd:Int->Nat)(ids:Pi)(iE:∀id∈ids,rd id<=2)(h:ok ids=true):Xe true ids (Jp ok rd ids)=ids/\Xe false ids (Jp ok rd ids)=[]:=by
 obtain⟨h1,h2,h3⟩:=choose_spec hm h0 rd ids iE;refine HE h1 fun j hj=>?_;rcases h3 j _ (zzaf hj)with h4|h4
 ·exact h4
 rw[hm _ _ (jX true ids _) h]at h4;cases h4
def amx(n:Int):Prop:= -9223372036854775808<=n/\n<=9223372036854775807
structure Ca where
 p:Pl
 ids:Pi
 wh:Int
 at_:Int
 past:List Ad
structure PlK (p:Pl):Prop where
 cls:p.cls.length<=1000
 sh:p.sh.length<=1000
 aM:p.aM.length<=1000
 ens:p.ens.length<=1000
 bks:p.bks.length<=1000
 als:∀e∈p.ens,e.al.length<=1000
 ln: -9223372036854775808<=p.ln/\p.ln<=9223372036854775807
 ea:∀e∈p.ens,-9223372036854775808<=e.ea/\e.ea<=9223372036854775807
 la:∀e∈p.ens,-9223372036854775808<=e.la/\e.la<=9223372036854775807
 fr:∀e∈p.ens,-9223372036854775808<=e.fr/\e.fr<=2000
def PlK.spn{p:Pl}(h:PlK p):(Yy p).length<=1000:=by
 have:=pR p.aM [] [];have:=h.aM;simp only[Yy];simp at*;omega
def HF:∀(l:List Ad)(us:List (Int×Int))(n:Int),0<=n->pP n us->pP (n+l.length) (N4 l us)
 |[],us,n,_,h=>by simpa[N4]using h
 |a::r,us,n,hn,h=>by
  rw[N4]
  have h1:pP (n+1) (if rz a=true then Vv us a.it else us):=by
   split
   ·exact h.note hn a.it
   exact fun k v hk=>by have:=h k v hk;omega
  have h2:=HF r _ (n+1) zE h1;have:n+((a::r).length:Int)=n+1+(r.length:Int):=by simp;omega
  rw[this];exact h2
def HG(p:Pl):∀(l:List Ad)(en:List (Int×Int)),ua en->ua (N5 p l en)
 |[],en,h=>by simpa[N5]using h
 |a::r,en,h=>by
  rw[N5];refine HG p r _ ?_;cases hc:rz a with
  |false=>simpa[hc]using h
  |true=>
   simp only[if_true];refine h.note a.it _ ?_;simp[rz]at hc;omega
def G4(l:Pi):AV:=if l=[]then .sl .nil []else .sl .ro (l.map Xb)
def gH(p:Pl)(at_:Int)(past:List Ad):Bd:=⟨p,at_,N4 past [],N5 p past [],[],[],[]⟩
def amy(p:Pl)(at_:Int)(past:List Ad):Bg (gH p at_ past):=⟨fun _ _ h=>(by cases h),fun _ _ h=>(by cases h),fun _ _ h=>(by cases h)⟩
def RB(p:Pl)(id:Int):Nat:=match Za id p.ens with
 |none=>2
 |some e=>if e.bo≠0 then 0 else match Xg e.it p.aM with
  |none=>2
  |some x=>if x.ki=1\/x.ki=4 then 1 else 2
def Ky(p:Pl)(at_:Int)(past:List Ad)(ids:Pi):List Bool:=Jp (oq (gH p at_ past)) (RB p) ids
def RD(p:Pl)(at_:Int)(past:List Ad)(ids:Pi):AV:=
 .aS [Iw ((Yb p at_ past (Xe true ids (Ky p at_ past ids))).getD []),G4 (Xe false ids (Ky p at_ past ids))]
theorem uU(p:Pl)(at_:Int)(past:List Ad)(ids:Pi):oq (gH p at_ past) ids=(Yb p at_ past ids).isSome:=rfl
def aaC(p:Pl)(id:Int):RB p id<=2:=by
 unfold RB;cases Za id p.ens with
 |none=>exact zzab _
 |some e=>
  simp only;split
  ·omega
  cases Xg e.it p.aM with
  |none=>exact zzab _
  |some x=>simp only;split<;>omega
def LC(p:Pl)(at_:Int)(past:List Ad)(ids:Pi):(Ky p at_ past ids).length=ids.length/\(Yb p at_ past (Xe true ids (Ky p at_ past ids))).isSome=true/\
  ∀(j:Nat)(id:Int),ids[j]?=some id->(Ky p at_ past ids).getD j false=true\/(Yb p at_ past (Xe true ids ((Ky p at_ past ids).set j true))).isSome=false:=
 choose_spec (HD _) (OE _) (RB p) ids fun id _=>aaC p id
def RE(p:Pl)(at_:Int)(past:List Ad)(ids:Pi)(h:(Yb p at_ past ids).isSome=true):Xe true ids (Ky p at_ past ids)=ids/\Xe false ids (Ky p at_ past ids)=[]:=
 LX (HD _) (OE _) (RB p) ids (fun id _=>aaC p id) h
def ZX(past:List Ad):pP (past.length:Int) (N4 past []):=by
 have h:=HF past [] 0 zE (fun k v h=>by cases h);rwa [Int.zero_add]at h
def ZY(p:Pl)(past:List Ad):ua (N5 p past []):=HG p past [] (fun k v h=>by cases h)
def UJ(p:Pl)(id:Int):Int:=match y9 id p.ens 0 with
 |none=> -1
 |some k=>(k:Int)
def BD{w:Bool}:∀{ids:Pi}{K:List Bool}{i:Nat}{id:Int}{k:Bool},ids[i]?=some id->K[i]?=some k->Xe w (ids.take (i+1)) (K.take (i+1))=Xe w (ids.take i) (K.take i)++if(k==w)=true then[id]else[]
 |[],_,_,_,_,h,_=>by simp at h
 |_::_,[],_,_,_,_,h=>by simp at h
 |x::r,y::ks,0,id,k,h1,h2=>by
  simp at h1 h2;subst h1;subst h2;simp[Xe]
 |x::r,y::ks,i+1,id,k,h1,h2=>by
  have ih:=BD (w:=w) (ids:=r) (K:=ks) (i:=i) (Nm h1) (Nm h2);rw[zzel,zzel,zzel,zzel,Xe,Xe,ih];split<;>simp
def aaD(p:Pl)(id:Int):(∃(n k:Nat)(e:En),Za id p.ens=some e/\p.ens[k]?=some e/\Xi [id] (bG iA (Dg p)) 0=some (n,I k))\/(Za id p.ens=none/\Xi [id] (bG iA (Dg p)) 0=none):=by
 have key:∀(l:List En)(i:Nat),y9 id l i=none->Za id l=none:=by
  intro l;induction l with
  |nil=>intro i _;rfl
  |cons x r ih=>
   intro i h;rw[y9]at h;split at h
   ·cases h
   rename_i hn;rw[Za,if_neg hn];exact ih _ h
 rcases Xy iA id (Dg p) 0 with⟨p1,p2,_⟩|⟨u,n,p1,p2,_⟩
 ·rw[uM]at p1;cases hx:y9 id p.ens 0 with
  |none=>exact .inr ⟨key _ _ hx,p2⟩
  |some k=>rw[hx]at p1;cases p1
 rw[uM]at p1;cases hx:y9 id p.ens 0 with
 |none=>rw[hx]at p1;cases p1
 |some k=>
  rw[hx]at p1;cases p1;obtain⟨_,e,h2,h3,h4⟩:=kV hx;rw[zzet]at h2;exact .inl ⟨_,k,e,h4,h2,p2⟩
def afg(pre post:T5)(ls:Pa)(b:Bd)(id:Int)(Y:YT)(K:So)(hK:∀ex,K (I (RB b.p id:Nat)) (aP pre b (post++ex) ls)):
  aB Tryz.prog aD Y 164 [.ptr (pre.length+9) 0,I id] (aP pre b post ls) K:=by
 refine Xn acw (fun _ _ _=>.junk) zd ?_;unfold RB at hK;rcases aaD b.p id with⟨n,k,e,he,hk,hp⟩|⟨he,hp⟩
 ·rw[he]at hK;simp only at hK;have sj:=(zza.1 hk).1;have zH:(k:Int)<(b.p.ens.length:Int):=zE
  have xP:=Qdg hk;by_cases b1:e.bo=0
  ·rw[if_neg (by simp[b1])]at hK;rcases Qdb b.p e.it with⟨ni,y,hy,hi⟩|⟨hy,hi⟩
   ·rw[hy]at hK;simp only at hK;by_cases c1:y.ki=1
    ·rw[if_pos (.inl c1)]at hK;simp[vm,aP,aW,Qo,Qa,hp,sj,zH,xP,Qd,b1];refine Uh ?_;simp[vn,aP,aW,Qo,Qa,Qd,hi,ry,Qh,c1];simpa[aP,aW,Qo,Qa,Qh,Qd,b1,c1]using hK [Qd e,Qh y]
    by_cases c2:y.ki=4
    ·rw[if_pos (.inr c2)]at hK;simp[vm,aP,aW,Qo,Qa,hp,sj,zH,xP,Qd,b1];refine Uh ?_;simp[vn,aP,aW,Qo,Qa,Qd,hi,ry,Qh,c1,c2];simpa[aP,aW,Qo,Qa,Qh,Qd,b1,c1,c2]using hK [Qd e,Qh y]
    rw[if_neg (by rintro(h|h);exact c1 h;exact c2 h)]at hK;simp[vm,aP,aW,Qo,Qa,hp,sj,zH,xP,Qd,b1];refine Uh ?_;simp[vn,aP,aW,Qo,Qa,Qd,hi,ry,Qh,c1,c2];simpa[aP,aW,Qo,Qa,Qh,Qd,b1,c1,c2]using hK [Qd e,Qh y]
   rw[hy]at hK;simp only at hK;simp[vm,aP,aW,Qo,Qa,hp,sj,zH,xP,Qd,b1];refine Uh ?_;simp[vn,aP,aW,Qo,Qa,Qd,hi];simpa[aP,aW,Qo,Qa,Qd,b1]using hK [Qd e,[I 0,I 0,I 0,I 0,I 0]]
  rw[if_pos b1]at hK;simp[vm,vn,aP,aW,Qo,Qa,hp,sj,zH,xP,Qd,b1];simpa[aP,aW,Qo,Qa,Qd]using hK [Qd e]
 rw[he]at hK;simp only at hK;simp[vm,vn,aP,aW,Qo,Qa,hp];simpa[aP,aW,Qo,Qa]using hK []
def rK(n:Nat)(S:Pi):Rt:=if S=[]then .nil else .own n 1
def nZ(S:Pi):Pa:=if S=[]then[]else[S.length]
def atU(ids:Pi)(K:List Bool)(w:Bool)(m0:AM)(f:Nat->AV)(m:AM):Prop:=
 ∃(i:Nat),f 10=I i/\i<=ids.length/\f 5=.sl (rK m0.lens.length (Xe w (ids.take i) (K.take i))) ((Xe w (ids.take i) (K.take i)).map Xb)/\m={m0 with lens:=m0.lens++nZ (Xe w (ids.take i) (K.take i))}
def RC(ids:Pi)(K:List Bool)(w:Bool)(hi:ids.length<=1000)(hk:K.length=ids.length)(m:AM)(ia ib kb:Nat)(h1:Qj m.boxes ia=[.sl .ro (ids.map Xb)])(h2:Qj m.boxes ib=[.bs kb 0 ids.length 1])(h3:Qj m.boxes kb=K.map .bool)
  (g1:ia<m.boxes.length)(g2:ib<m.boxes.length)(g3:kb<m.boxes.length)(Y:YT)(Q:So)(hQ:Q (.sl (rK m.lens.length (Xe w ids K)) ((Xe w ids K).map Xb)) {m with lens:=m.lens++nZ (Xe w ids K)}):
  aB Tryz.prog aD Y 163 [.bool w,.ptr ia 0,.ptr ib 0] m Q:=by
 refine Xn acv (fun _ _ _=>.junk) zd ?_;simp[TM,h1,g1];refine Qk vl (atU ids K w m) (fun f _=>ids.length-(numOf (f 10)).toNat) ?_ ?_
 ·exact⟨0,zd,zE,by simp[Xe,rK],by simp[Xe,nZ]⟩
 rintro f m' ⟨i,jy,iZ,h5,rfl⟩;rcases zzaa i ids.length with ai|bn
 ·obtain⟨id,hx⟩:=aV ai;obtain⟨k,hy⟩:∃x,K[i]?=some x:=⟨_,zzaf zE⟩;have ah:Qj (ids.map Xb) i=Xb id:=Qu (by simp[hx]);have bL:nth ((K.map AV.bool).drop i) 0=.bool k:=ak9 (by simp[hy]);have w8:min 1 (K.length-i)=1:=zE
  have anh:i<K.length:=zE
  have aa:(i:Int)<(ids.length:Int):=zE
  have hw:=bO i zE;have bA:=BD (w:=w) hx hy
  have iC:(Xe w (ids.take i) (K.take i)).length<=1000:=by
   have:=(jX w (ids.take i) (K.take i)).length_le;simp at this;omega
  obtain⟨S,hS⟩:∃S,Xe w (ids.take i) (K.take i)=S:=⟨_,rfl⟩;rw[hS]at h5 bA iC |-
  cases hc:(k==w)with
  |false=>
   rw[hc]at bA;have bA:Xe w (ids.take (i+1)) (K.take (i+1))=S:=by rw[bA];simp
   simp[jy,h5,ai,aa,anh,ah,Xb,vl,hw,hc,h2,h3,g2,g3,bL,w8,show 1<=K.length-i by omega];refine⟨aQ,⟨i+1,zd,zE,by rw[bA];simp[h5,Xb],by rw[bA]⟩,zE⟩
  |true=>
   rw[hc]at bA;have bA:Xe w (ids.take (i+1)) (K.take (i+1))=S++[id]:=by rw[bA];simp
   by_cases hSe:S=[]
   ·subst hSe;simp only[rK,nZ,if_true,zzcr,zzat]at h5 |-
    simp[jy,h5,ai,aa,anh,ah,Xb,vl,hw,hc,h2,h3,g2,g3,bL,w8,show 1<=K.length-i by omega];refine⟨aQ,⟨i+1,zd,zE,by rw[bA];simp[Xb,rK],by rw[bA];simp[nZ]⟩,zE⟩
   simp only[rK,nZ,if_neg hSe]at h5 |-
   have bY:(m.lens++[S.length]).set m.lens.length (S.length+1)=m.lens++[S.length+1]:=by rw[List.set_append,if_neg zE];simp
   simp[jy,h5,ai,aa,anh,ah,Xb,vl,hw,hc,h2,h3,g2,g3,bL,w8,show 1<=K.length-i by omega];refine⟨⟨?_,zE⟩,aQ,⟨i+1,zd,zE,by rw[bA];simp[Xb,rK],by rw[bA];simp[nZ]⟩,zE⟩
   ·rintro row (⟨a,_,rfl⟩|rfl)<;>rfl
 have bP:¬(i:Int)<(ids.length:Int):=zE
 rw[zzas zE,zzas zE]at h5 |-
 simp[jy,h5,bP,zzbk.2 bn,vl,agU];exact hQ
