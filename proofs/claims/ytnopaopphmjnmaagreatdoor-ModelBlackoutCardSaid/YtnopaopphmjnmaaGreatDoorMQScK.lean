import Derived.Test.YtnopaopphmjnmaaGreatDoorMQSaG
set_option linter.all false
set_option maxRecDepth 100000
set_option maxHeartbeats 64000000
namespace Go.Proofs.YtnopaopphmjnmaaGreatDoor
open Go Go.Abs
def Nd(p:Pl)(e:En)(f:Int):Option Int:=
 if e.fr<1\/1000000<e.fr\/p.ln<e.fr then none else
 if max f 0<1000000/\0<=mX p e/\mX p e<1000000 then(match me (Zc p e.it 0) (max f 0) e.fr with
  |none=>none
  |some s=>if mX p e<s then none else some s)else Yi p e f
def TN(p:Pl)(e:En)(f:Int):Nd p e f=Yi p e f:=by
 unfold Nd;split
 ·rename_i h;rw[Yi,if_pos h]
 rename_i h;split
 ·rename_i h2;rw[Yi,if_neg h];have hz:(max f 0).tdiv 1000000=0:=Int.tdiv_eq_zero_of_lt zE zE;rw[hz]
  conv=>rhs;unfold UB
  rw[if_pos zE];cases me (Zc p e.it 0) (max f 0) e.fr with
  |none=>
   simp only;unfold UB;rw[if_neg zE]
  |some s=>rfl
 rfl
def aoY(p:Pl):List Int->List (Int×Int)->List (Int×Int)->Int->Int->Option (List Sp)
 |[],_,_,_,_=>some []
 |id::r,us,en,free,last=>match Ah id p.ens 0 with
  |none=>none
  |some k=>if(k:Int)<=last then none else match p.ens[k]? with
   |none=>none
   |some e=>if Wy p e.it≠ -1/\Wy p e.it<=(af e.it us).getD 0 then none else
    match Nd p e (Um en (Wh p e.it) (max e.ea free))with
    |none=>none
    |some s=>match aoY p r (Vu us e.it) (Zt p en e.it (s+e.fr)) (s+e.fr) k with
     |none=>none
     |some l=>some ((id,s)::l)
def PX(p:Pl):∀(ids:List Int)(us en:List (Int×Int))(free last:Int),aoY p ids us en free last=Jq p ids us en free last
 |[],_,_,_,_=>rfl
 |id::r,us,en,free,last=>by
  rw[aoY,Jq];simp only[TN,PX p r];rfl
def azg(of:Int)(sh:List Sp)(x fr to:Int):Bool:=
 if Yh of sh=false\/x<0\/10000000000<x\/fr<0\/86400<=fr\/to<0\/86400<=to then false else
 if fr<to then decide (fr<=(x+zh of sh x)%86400)&&decide ((x+zh of sh x)%86400<to)else decide (fr<=(x+zh of sh x)%86400)||decide ((x+zh of sh x)%86400<to)
def Ez(n lo hi:Int):Pure Tryz.prog aA 133 [I n,I lo,I hi] (.bool (wi n lo hi)):=by
 refine Qo adj (fun _ _ _=>.junk) zd ?_;by_cases h1:lo<=n<;>by_cases h2:n<=hi<;>simp[aii,aij,wi,h1,h2]
def IE(c:Cl):Pure Tryz.prog aA 65 [.agg (Qg c)] (.bool (Xj c)):=by
 have kw:=Ez;refine Qo al7 EA zd ?_;by_cases h1:c.ki=1
 ·simp[EW,EX,Qg,EA,h1];refine⟨kw _ _ _,fun _=>kw _ _ _,?_⟩;clear kw;obtain⟨ki,it,fr,to,re,n,a,b⟩:=c;simp only at h1;rw[zzbv];simp[Xj,Km,Yv,Ve,Vz,wi,h1];omega
 by_cases h2:c.ki=2
 ·simp[EW,EX,Qg,EA,h2];refine⟨kw _ _ _,fun _=>kw _ _ _,?_⟩;clear kw;obtain⟨ki,it,fr,to,re,n,a,b⟩:=c;simp only at h2;rw[zzbv];simp[Xj,Km,Yv,Ve,Vz,wi,h2];omega
 by_cases h3:c.ki=3
 ·simp[EW,EX,Qg,EA,h3];refine⟨kw _ _ _,fun _=>kw _ _ _,fun _ _=>kw _ _ _,?_⟩;clear kw;obtain⟨ki,it,fr,to,re,n,a,b⟩:=c;simp only at h3;rw[zzbv];simp[Xj,Km,Yv,Ve,Vz,wi,h3];omega
 by_cases h4:c.ki=4
 ·simp[EW,EX,Qg,EA,h4];refine⟨kw _ _ _,fun _=>kw _ _ _,fun _ _=>kw _ _ _,?_⟩;clear kw;obtain⟨ki,it,fr,to,re,n,a,b⟩:=c;simp only at h4;rw[zzbv];simp[Xj,Km,Yv,Ve,Vz,wi,h4];omega
 by_cases h5:c.ki=5
 ·simp[EW,EX,Qg,EA,h5];refine⟨kw _ _ _,fun _=>kw _ _ _,kw _ _ _,fun _=>kw _ _ _,fun _ _ _=>kw _ _ _,?_⟩;clear kw;obtain⟨ki,it,fr,to,re,n,a,b⟩:=c;simp only at h5;rw[zzbv];simp[Xj,Km,Yv,Ve,Vz,wi,h5];omega
 by_cases h6:c.ki=6
 ·simp[EW,EX,Qg,EA,h6];refine⟨kw _ _ _,fun _=>kw _ _ _,kw _ _ _,fun _=>kw _ _ _,fun _ _ _ _ _=>kw _ _ _,?_⟩;clear kw;obtain⟨ki,it,fr,to,re,n,a,b⟩:=c;simp only at h6;rw[zzbv];simp[Xj,Km,Yv,Ve,Vz,wi,h6];omega
 have hv:Xj c=false:=by simp[Xj,Yv,h1,h2,h3,h4,h5,h6]
 rw[hv];simp[EW,EX,Qg,EA,h1,h2,h3,h4,h5,h6];exact⟨kw _ _ _,fun _=>kw _ _ _⟩
def azh(s r:Int):Bool:=if 0<=r/\r<8 then decide ((s/2 ^ r.toNat)%2=1)else false
def avu(c:Cl)(k item region:Int):Bool:=decide (c.ki=k)&&(Xj c&&(decide (c.it=item)&&azh c.re region))
def hasB(l:List Sp)(x:Int):Bool:=l.any fun s=>decide (s.1<=x)&&decide (x<s.2)
def alh(a:Int):List AV:=[I a]
def aoZ:List Int->Int->List Int
 |[],x=>[x]
 |a::r,x=>if a<x then a::aoZ r x else if a=x then a::r else x::a::r
def ao0(item region:Int)(c:Cl):Bool:=avu c 1 item region||avu c 2 item region
def edS(C:List Cl):List Int:=C.foldl (fun e c=>aoZ (aoZ e c.fr) c.to) []
def ao1(C:List Cl)(Ed:List Int):Nat->List Sp
 |0=>[]
 |j+1=>if grX C (Ed.getD j 0)=true then nT (ao1 C Ed j) (Ed.getD j 0) (Ed.getD (j+1) 0)else ao1 C Ed j
def azi(cs:List Cl)(item region:Int):List Sp:=ao1 (cs.filter (ao0 item region)) (edS (cs.filter (ao0 item region))) ((edS (cs.filter (ao0 item region))).length-1)
def avv:List AV->Int
 |[.int _ a]=>a
 |_=>0
@[simp] def ahJ(l:List Int):(l.map alh).map avv=l:=by
 induction l with
 |nil=>rfl
 |cons a l ih=>simp only[zzay,ih];rfl
@[simp] def avw(l:List Int):l.map (avv ∘ alh)=l:=by rw[<- zzcz];exact ahJ l
def avx(p:Pl)(item region f:Int):Bool:=match Xh item p.aN with
 |none=>false
 |some it=>if region<0\/8<=region\/f<0\/100000000<f then false else if it.ki=5 then true else if Kn p=false then false else
  hasB (azi p.cls item region) (p.ep+Yp p.nu p.de f)&&(uV p.cls it.ra).all fun w=>azg p.of p.sh (p.ep+Yp p.nu p.de f) w.1 w.2
def azR(p:Pl)(last f:Int):Int:=if Kn p=true then min last (xM p.nu p.de (Yp p.nu p.de f+1))else last
def azS(p:Pl)(item region first f:Int)(L:List Sp):Prop:=VS L/\(∀s∈L,s.2<=f)/\(∀x,Xx L x<->first<=x/\x<f/\avx p item region x=true)/\(L.length:Int)<=f-first
section
variable (P:Int->Prop) (fr low:Int)
def OkA(t:Int):Prop:=∀x,t<=x->x<t+fr->P x
structure RfI (c run last:Int):Prop where
 no:∀t,low<=t->t+fr<=c->¬OkA P fr t
 st:(run= -1/\last= -1/\∀x,low<=x->x<c->¬P x)\/(low<=run/\run<last/\last<=c/\(∀x,run<=x->x<last->P x)/\(run=low\/¬P (run-1))/\∀x,last<=x->x<c->¬P x)
end
def nlB(a b:List Sp):Bool:=a.all fun x=>b.all fun y=>!(decide (x.1=y.1)&&decide (y.2<x.2))
def kz(w:Bool):∀(ids:List Int)(K:List Bool),(Xe w ids K).Sublist ids
 |[],K=>by cases K<;>simp[Xe]
 |id::r,[]=>by simp[Xe]
 |id::r,k::ks=>by
  rw[Xe];split
  ·exact(kz w r ks).cons_cons id
  exact(kz w r ks).cons id
def IW:∀{ids:List Int}{K:List Bool},K.length=ids.length->(∀j,j<ids.length->K.getD j false=true)->Xe true ids K=ids/\Xe false ids K=[]
 |[],K,_,_=>by cases K<;>exact⟨rfl,rfl⟩
 |id::r,[],h,_=>by simp at h
 |id::r,k::ks,h,hk=>by
  have h0:=hk 0 zd;simp at h0;subst h0
  obtain⟨h1,h2⟩:=IW (ids:=r) (K:=ks) (by simpa using h) fun j hj=>by
   have:=hk (j+1) (by simpa using hj);simpa using this
  simp[Xe,h1,h2]
def Nf{ok:List Int->Bool}(hm:ab3 ok)(h0:ok []=true)(rd:Int->Nat)(ids:List Int)(fL:∀id∈ids,rd id<=2)(h:ok ids=true):Xe true ids (Jt ok rd ids)=ids/\Xe false ids (Jt ok rd ids)=[]:=by
 obtain⟨h1,h2,h3⟩:=tO hm h0 rd ids fL;refine IW h1 fun j hj=>?_;rcases h3 j _ (zzae hj)with h4|h4
 ·exact h4
 rw[hm _ _ (kz true ids _) h]at h4;cases h4
def aob(n:Int):Prop:= -9223372036854775808<=n/\n<=9223372036854775807
structure Ca where
 p:Pl
 ids:List Int
 wh:Int
 at_:Int
 past:List Ad
structure PlK (p:Pl):Prop where
 cls:p.cls.length<=1000
 sh:p.sh.length<=1000
 aN:p.aN.length<=1000
 ens:p.ens.length<=1000
 bks:p.bks.length<=1000
 als:∀e∈p.ens,e.al.length<=1000
 ln: -9223372036854775808<=p.ln/\p.ln<=9223372036854775807
 ea:∀e∈p.ens,-9223372036854775808<=e.ea/\e.ea<=9223372036854775807
 la:∀e∈p.ens,-9223372036854775808<=e.la/\e.la<=9223372036854775807
 fr:∀e∈p.ens,-9223372036854775808<=e.fr/\e.fr<=2000
def PlK.spn{p:Pl}(h:PlK p):(Uf p).length<=1000:=by
 have:=qd p.aN [] [];have:=h.aN;simp only[Uf];simp at*;omega
def IX:∀(l:List Ad)(us:List (Int×Int))(n:Int),0<=n->qc n us->qc (n+l.length) (Pd l us)
 |[],us,n,_,h=>by simpa[Pd]using h
 |a::r,us,n,hn,h=>by
  rw[Pd]
  have h1:qc (n+1) (if rR a=true then Vu us a.it else us):=by
   split
   ·exact h.note hn a.it
   exact fun k v hk=>by have:=h k v hk;omega
  have h2:=IX r _ (n+1) zE h1;have:n+((a::r).length:Int)=n+1+(r.length:Int):=by simp;omega
  rw[this];exact h2
def IY(p:Pl):∀(l:List Ad)(en:List (Int×Int)),ux en->ux (Pe p l en)
 |[],en,h=>by simpa[Pe]using h
 |a::r,en,h=>by
  rw[Pe];refine IY p r _ ?_;cases hc:rR a with
  |false=>simpa[hc]using h
  |true=>
   simp only[if_true];refine h.note a.it _ ?_;simp[rR]at hc;omega
def HY(l:List Int):AV:=if l=[]then .sl .nil []else .sl .ro (l.map Qy)
def gR(p:Pl)(at_:Int)(past:List Ad):Bd:=⟨p,at_,Pd past [],Pe p past [],[],[],[]⟩
def aoc(p:Pl)(at_:Int)(past:List Ad):BG (gR p at_ past):=⟨fun _ _ h=>(by cases h),fun _ _ h=>(by cases h),fun _ _ h=>(by cases h)⟩
def S8(p:Pl)(id:Int):Nat:=match Zh id p.ens with
 |none=>2
 |some e=>if e.bo≠0 then 0 else match Xh e.it p.aN with
  |none=>2
  |some x=>if x.ki=1\/x.ki=4 then 1 else 2
def Wd(p:Pl)(at_:Int)(past:List Ad)(ids:List Int):List Bool:=Jt (oH (gR p at_ past)) (S8 p) ids
def Ta(p:Pl)(at_:Int)(past:List Ad)(ids:List Int):AV:=
 .aZ [JZ ((Yu p at_ past (Xe true ids (Wd p at_ past ids))).getD []),HY (Xe false ids (Wd p at_ past ids))]
theorem vk(p:Pl)(at_:Int)(past:List Ad)(ids:List Int):oH (gR p at_ past) ids=(Yu p at_ past ids).isSome:=rfl
def ab7(p:Pl)(id:Int):S8 p id<=2:=by
 unfold S8;cases Zh id p.ens with
 |none=>exact zzab _
 |some e=>
  simp only;split
  ·omega
  cases Xh e.it p.aN with
  |none=>exact zzab _
  |some x=>simp only;split<;>omega
def MI(p:Pl)(at_:Int)(past:List Ad)(ids:List Int):(Wd p at_ past ids).length=ids.length/\(Yu p at_ past (Xe true ids (Wd p at_ past ids))).isSome=true/\
  ∀(j:Nat)(id:Int),ids[j]?=some id->(Wd p at_ past ids).getD j false=true\/(Yu p at_ past (Xe true ids ((Wd p at_ past ids).set j true))).isSome=false:=
 tO (IU _) (QE _) (S8 p) ids fun id _=>ab7 p id
def Tb(p:Pl)(at_:Int)(past:List Ad)(ids:List Int)(h:(Yu p at_ past ids).isSome=true):Xe true ids (Wd p at_ past ids)=ids/\Xe false ids (Wd p at_ past ids)=[]:=
 Nf (IU _) (QE _) (S8 p) ids (fun id _=>ab7 p id) h
def aa0(past:List Ad):qc (past.length:Int) (Pd past []):=by
 have h:=IX past [] 0 zE (fun k v h=>by cases h);rwa [Int.zero_add]at h
def aa1(p:Pl)(past:List Ad):ux (Pe p past []):=IY p past [] (fun k v h=>by cases h)
def amq(p:Pl)(id:Int):Int:=match Ah id p.ens 0 with
 |none=> -1
 |some k=>(k:Int)
def Cg{w:Bool}:∀{ids:List Int}{K:List Bool}{i:Nat}{id:Int}{k:Bool},ids[i]?=some id->K[i]?=some k->Xe w (ids.take (i+1)) (K.take (i+1))=Xe w (ids.take i) (K.take i)++if(k==w)=true then[id]else[]
 |[],_,_,_,_,h,_=>by simp at h
 |_::_,[],_,_,_,_,h=>by simp at h
 |x::r,y::ks,0,id,k,h1,h2=>by
  simp at h1 h2;subst h1;subst h2;simp[Xe]
 |x::r,y::ks,i+1,id,k,h1,h2=>by
  have ih:=Cg (w:=w) (ids:=r) (K:=ks) (i:=i) (by simpa using h1) (by simpa using h2);rw[zzem,zzem,zzem,zzem,Xe,Xe,ih];split<;>simp
def ab8(p:Pl)(id:Int):(∃(n k:Nat)(e:En),Zh id p.ens=some e/\p.ens[k]?=some e/\Xl [id] (bH iA (DM p)) 0=some (n,I k))\/(Zh id p.ens=none/\Xl [id] (bH iA (DM p)) 0=none):=by
 have key:∀(l:List En)(i:Nat),Ah id l i=none->Zh id l=none:=by
  intro l;induction l with
  |nil=>intro i _;rfl
  |cons x r ih=>
   intro i h;rw[Ah]at h;split at h
   ·cases h
   rename_i hn;rw[Zh,if_neg hn];exact ih _ h
 rcases Xq iA id (DM p) 0 with⟨p1,p2,_⟩|⟨u,n,p1,p2,_⟩
 ·rw[uZ]at p1;cases hx:Ah id p.ens 0 with
  |none=>exact .inr ⟨key _ _ hx,p2⟩
  |some k=>rw[hx]at p1;cases p1
 rw[uZ]at p1;cases hx:Ah id p.ens 0 with
 |none=>rw[hx]at p1;cases p1
 |some k=>
  rw[hx]at p1;cases p1;obtain⟨_,e,h2,h3,h4⟩:=rS hx;rw[zzfm]at h2;exact .inl ⟨_,k,e,h4,h2,p2⟩
def agN(pre post:List (List AV))(ls:List Nat)(b:Bd)(id:Int)(Y:YT)(K:AV->AM->Prop)(hK:∀ex,K (I (S8 b.p id:Nat)) (aR pre b (post++ex) ls)):
  an Tryz.prog aA Y 228 [.ptr (pre.length+9) 0,I id] (aR pre b post ls) K:=by
 refine Xd aei (fun _ _ _=>.junk) zd ?_;unfold S8 at hK;rcases ab8 b.p id with⟨n,k,e,he,hk,hp⟩|⟨he,hp⟩
 ·rw[he]at hK;simp only at hK;have sI:=(zza.1 hk).1;have zU:(k:Int)<(b.p.ens.length:Int):=zE
  have ym:=Qdl hk;by_cases b1:e.bo=0
  ·rw[if_neg (by simp[b1])]at hK;rcases Qdj b.p e.it with⟨ni,y,hy,hi⟩|⟨hy,hi⟩
   ·rw[hy]at hK;simp only at hK;by_cases c1:y.ki=1
    ·rw[if_pos (.inl c1)]at hK;simp[vP,aR,aY,Qq,Qa,hp,sI,zU,ym,Qd,b1];refine Ze ?_;simp[vQ,aR,aY,Qq,Qa,Qd,hi,rT,Qn,c1];simpa[aR,aY,Qq,Qa,Qn,Qd,b1,c1]using hK [Qd e,Qn y]
    by_cases c2:y.ki=4
    ·rw[if_pos (.inr c2)]at hK;simp[vP,aR,aY,Qq,Qa,hp,sI,zU,ym,Qd,b1];refine Ze ?_;simp[vQ,aR,aY,Qq,Qa,Qd,hi,rT,Qn,c1,c2];simpa[aR,aY,Qq,Qa,Qn,Qd,b1,c1,c2]using hK [Qd e,Qn y]
    rw[if_neg (by rintro(h|h);exact c1 h;exact c2 h)]at hK;simp[vP,aR,aY,Qq,Qa,hp,sI,zU,ym,Qd,b1];refine Ze ?_;simp[vQ,aR,aY,Qq,Qa,Qd,hi,rT,Qn,c1,c2];simpa[aR,aY,Qq,Qa,Qn,Qd,b1,c1,c2]using hK [Qd e,Qn y]
   rw[hy]at hK;simp only at hK;simp[vP,aR,aY,Qq,Qa,hp,sI,zU,ym,Qd,b1];refine Ze ?_;simp[vQ,aR,aY,Qq,Qa,Qd,hi];simpa[aR,aY,Qq,Qa,Qd,b1]using hK [Qd e,[I 0,I 0,I 0,I 0,I 0]]
  rw[if_pos b1]at hK;simp[vP,vQ,aR,aY,Qq,Qa,hp,sI,zU,ym,Qd,b1];simpa[aR,aY,Qq,Qa,Qd]using hK [Qd e]
 rw[he]at hK;simp only at hK;simp[vP,vQ,aR,aY,Qq,Qa,hp];simpa[aR,aY,Qq,Qa]using hK []
def sd(n:Nat)(S:List Int):Rt:=if S=[]then .nil else .own n 1
def oy(S:List Int):List Nat:=if S=[]then[]else[S.length]
def avy(ids:List Int)(K:List Bool)(w:Bool)(m0:AM)(f:Nat->AV)(m:AM):Prop:=
 ∃(i:Nat),f 10=I i/\i<=ids.length/\f 5=.sl (sd m0.lens.length (Xe w (ids.take i) (K.take i))) ((Xe w (ids.take i) (K.take i)).map Qy)/\m={m0 with lens:=m0.lens++oy (Xe w (ids.take i) (K.take i))}
def S9(ids:List Int)(K:List Bool)(w:Bool)(hi:ids.length<=1000)(hk:K.length=ids.length)(m:AM)(ia ib kb:Nat)(h1:Qh m.boxes ia=[.sl .ro (ids.map Qy)])(h2:Qh m.boxes ib=[.bs kb 0 ids.length 1])(h3:Qh m.boxes kb=K.map .bool)
  (g1:ia<m.boxes.length)(g2:ib<m.boxes.length)(g3:kb<m.boxes.length)(Y:YT)(Q:AV->AM->Prop)(hQ:Q (.sl (sd m.lens.length (Xe w ids K)) ((Xe w ids K).map Qy)) {m with lens:=m.lens++oy (Xe w ids K)}):
  an Tryz.prog aA Y 227 [.bool w,.ptr ia 0,.ptr ib 0] m Q:=by
 refine Xd aeh (fun _ _ _=>.junk) zd ?_;simp[Wr,h1,g1];refine Qk vO (avy ids K w m) (fun f _=>ids.length-(numOf (f 10)).toNat) ?_ ?_
 ·exact⟨0,zd,zE,by simp[Xe,sd],by simp[Xe,oy]⟩
 rintro f m' ⟨i,gq,fO,h5,rfl⟩;rcases zzaa i ids.length with ai|bz
 ·obtain⟨id,hx⟩:=aU ai;obtain⟨k,hy⟩:∃x,K[i]?=some x:=⟨_,zzae zE⟩;have ah:Qh (ids.map Qy) i=Qy id:=Qt (by simp[hx]);have bO:nth ((K.map AV.bool).drop i) 0=.bool k:=amT (by simp[hy]);have xB:min 1 (K.length-i)=1:=zE
  have ao2:i<K.length:=zE
  have aa:(i:Int)<(ids.length:Int):=zE
  have hw:=bM i zE;have bC:=Cg (w:=w) hx hy
  have qA:(Xe w (ids.take i) (K.take i)).length<=1000:=by
   have:=(kz w (ids.take i) (K.take i)).length_le;simp at this;omega
  obtain⟨S,hS⟩:∃S,Xe w (ids.take i) (K.take i)=S:=⟨_,rfl⟩;rw[hS]at h5 bC qA |-
  cases hc:(k==w)with
  |false=>
   rw[hc]at bC;have bC:Xe w (ids.take (i+1)) (K.take (i+1))=S:=by rw[bC];simp
   simp[gq,h5,ai,aa,ao2,ah,Qy,vO,hw,hc,h2,h3,g2,g3,bO,xB,show 1<=K.length-i by omega];refine⟨aP,⟨i+1,zd,zE,by rw[bC];simp[h5,Qy],by rw[bC]⟩,zE⟩
  |true=>
   rw[hc]at bC;have bC:Xe w (ids.take (i+1)) (K.take (i+1))=S++[id]:=by rw[bC];simp
   by_cases hSe:S=[]
   ·subst hSe;simp only[sd,oy,if_true,zzcc,zzau]at h5 |-
    simp[gq,h5,ai,aa,ao2,ah,Qy,vO,hw,hc,h2,h3,g2,g3,bO,xB,show 1<=K.length-i by omega];refine⟨aP,⟨i+1,zd,zE,by rw[bC];simp[Qy,sd],by rw[bC];simp[oy]⟩,zE⟩
   simp only[sd,oy,if_neg hSe]at h5 |-
   have ct:(m.lens++[S.length]).set m.lens.length (S.length+1)=m.lens++[S.length+1]:=by rw[List.set_append,if_neg zE];simp
   simp[gq,h5,ai,aa,ao2,ah,Qy,vO,hw,hc,h2,h3,g2,g3,bO,xB,show 1<=K.length-i by omega];refine⟨⟨?_,zE⟩,aP,⟨i+1,zd,zE,by rw[bC];simp[Qy,sd],by rw[bC];simp[oy]⟩,zE⟩
   ·rintro row (⟨a,_,rfl⟩|rfl)<;>rfl
 have bL:¬(i:Int)<(ids.length:Int):=zE
 rw[zzap zE,zzap zE]at h5 |-
 simp[gq,h5,bL,zzbo.2 bz,vO,ai3];exact hQ
