import Derived.Test.YtnopaopphmjnmaaGreatDoorMQCodeT
import Derived.Test.YtnopaopphmjnmaaGreatDoorMQMP
import Derived.Shelf.SlMaps.Clone
import Derived.Shelf.Spec.SlicesGrow
set_option linter.all false
set_option maxRecDepth 100000
set_option maxHeartbeats 64000000
namespace Go.Proofs.YtnopaopphmjnmaaGreatDoor
open Go Go.Abs
def IP:List AV:=[I 24000,I 1001,I 24,I 0,I 24,I 1,I 24,I 0,I 25,I 1,I 25,I 0,I 30000,I 1001,I 30,I 2,I 30,I 1,I 30,I 0,I 50,I 1,I 50,I 0,I 60000,I 1001,I 60,I 4,I 60,I 1,I 60,I 0]
def aA:Nat->AV
 |0=>.ep IP 0
 |_=>.junk
def iy(c n:Int):Int:=(if c<0 then -(c+1)else c).tmod n
def B8(c n:Int)(h0: -9223372036854775808<=c)(h1:c<=9223372036854775807)(hn:n≠0):Pure Tryz.prog aA 32 [I c,I n] (I (iy c n)):=by
 refine Qo alD (fun _ _ _=>.junk) zd ?_;have eT:c<0->IntKind.i64.wrap (c+1)=c+1:=fun h=>by rw[Qj]<;>omega
 have dP:c<0->IntKind.i64.wrap (-(c+1))= -(c+1):=fun h=>by rw[Qj]<;>omega
 by_cases h:c<0
 ·simp[alB,alC,h,eT h,dP h,hn,iy]
 simp[alB,alC,h,hn,iy]
def Zd{α:Type}{l:List α}{i:Nat}{a:α}(h:l[i]?=some a):l.drop i=a::l.drop (i+1):=by
 obtain⟨h1,h2⟩:=zza.1 h;rw[zzaf h1,h2]
def B7(c n:Int)(hn:0<n):0<=iy c n/\iy c n<n:=by
 unfold iy;have h0:0<=(if c<0 then -(c+1)else c):=by split<;>omega
 rw[Int.tmod_eq_emod_of_nonneg h0];exact⟨Int.emod_nonneg _ zE,Int.emod_lt_of_pos _ hn⟩
structure Evt where
 id:Int
 it:Int
 st:Int
 fr:Int
 i:Int
 re:Int
 al:Option Int
def j8:Pure Tryz.prog aA 88 [.sl .nil []] (.sl .nil []):=by
 refine Qo KD (fun _ _ _=>.junk) zd ?_;simp[acL,acM]
def om(f:Int):Prop:= -1000000<=f/\f<=1000000
def wu(n:Int)(h:0<=n)(h':n<=2000000):IntKind.u64.wrap n=n:=by
 simp[IntKind.wrap,IntKind.bits,IntKind.signed];omega
def aas:AV:=.aZ [.agg [I 0,I 0,I 0,I 0,I 0,I 0,.sl .nil []],I 0,.bool false]
abbrev Sp:=Int×Int
def Xx(l:List Sp)(x:Int):Prop:=∃s∈l,s.1<=x/\x<s.2
def VS(l:List Sp):Prop:=(∀s∈l,s.1<s.2)/\l.Pairwise fun a b=>a.2<b.1
@[simp] def Yt(x:Int):Xx [] x<->False:=by simp[Xx]
@[simp] def Xf(s:Sp)(l:List Sp)(x:Int):Xx (s::l) x<->(s.1<=x/\x<s.2)\/Xx l x:=by simp[Xx]
@[simp] def Yw(a b:List Sp)(x:Int):Xx (a++b) x<->Xx a x\/Xx b x:=by
 simp only[Xx,zzam,or_and_right,exists_or]
def TS{a b:List Sp}(h:a.Perm b)(x:Int):Xx a x<->Xx b x:=by simp only[Xx,h.mem_iff]
def sj:VS []:=⟨fun _ h=>(by cases h),.nil⟩
def cV{s:Sp}{l:List Sp}:VS (s::l)<->s.1<s.2/\(∀t∈l,s.2<t.1)/\VS l:=by
 simp only[VS,zzat,forall_eq_or_imp,zzch];constructor
 ·rintro⟨⟨h1,h2⟩,h3,h4⟩;exact⟨h1,h3,h2,h4⟩
 rintro⟨h1,h3,h2,h4⟩;exact⟨⟨h1,h2⟩,h3,h4⟩
def EE{s:Sp}{l:List Sp}:VS (l++[s])<->VS l/\s.1<s.2/\∀t∈l,t.2<s.1:=by
 simp only[VS,zzam,zzbd,zzfb,zzhe,true_and];constructor
 ·rintro⟨h1,h2,h3⟩;exact⟨⟨fun t ht=>h1 t (.inl ht),h2⟩,h1 s (.inr rfl),fun t ht=>h3 t ht s rfl⟩
 rintro⟨⟨h1,h2⟩,h3,h4⟩;refine⟨?_,h2,?_⟩
 ·rintro t (ht|rfl)
  ·exact h1 t ht
  exact h3
 rintro t ht u rfl;exact h4 t ht
def sk:∀{a b:List Sp},VS a->VS b->(∀x,Xx a x<->Xx b x)->a=b
 |[],[],_,_,_=>rfl
 |[],t::b,_,hb,h=>by
  have:=(h t.1).2 (by rw[Xf];exact .inl ⟨zzbq _,(cV.1 hb).1⟩);simp at this
 |s::a,[],ha,_,h=>by
  have:=(h s.1).1 (by rw[Xf];exact .inl ⟨zzbq _,(cV.1 ha).1⟩);simp at this
 |s::a,t::b,ha,hb,h=>by
  obtain⟨s1,s2,s3⟩:=cV.1 ha;obtain⟨t1,t2,t3⟩:=cV.1 hb
  have key:∀{u v:Sp}{p q:List Sp},u.1<u.2->v.1<v.2->(∀w∈q,v.2<w.1)->(∀x,Xx (u::p) x->Xx (v::q) x)->v.1<=u.1:=by
   intro u v p q h1 oV h2 h3;obtain⟨w,hw,h4,h5⟩:=h3 u.1 (by rw[Xf];exact .inl ⟨zzbq _,h1⟩);rcases zzat.1 hw with rfl|hw
   ·exact h4
   have:=h2 w hw;omega
  have e1:s.1=t.1:=Int.le_antisymm (key t1 s1 s2 fun x hx=>(h x).2 hx) (key s1 t1 t2 fun x hx=>(h x).1 hx)
  have acd:∀{u v:Sp}{p q:List Sp},u.1<u.2->u.1=v.1->(∀w∈p,u.2<w.1)->(∀x,Xx (v::q) x->Xx (u::p) x)->¬u.2<v.2:=by
   intro u v p q h1 h2 h3 h4 h5;obtain⟨w,hw,h6,h7⟩:=h4 u.2 (by rw[Xf];exact .inl ⟨zE,h5⟩);rcases zzat.1 hw with rfl|hw
   ·omega
   have:=h3 w hw;omega
  have e2:s.2=t.2:=by
   have k1:=acd s1 e1 s2 fun x hx=>(h x).2 hx;have k2:=acd t1 e1.symm t2 fun x hx=>(h x).1 hx;omega
  have e:s=t:=Prod.ext e1 e2;subst e;congr 1;refine sk s3 t3 fun x=>?_
  have out:∀{p:List Sp},(∀w∈p,s.2<w.1)->Xx p x->¬(s.1<=x/\x<s.2):=by
   rintro p hp ⟨w,hw,h1,_⟩ ⟨_,h2⟩;have:=hp w hw;omega
  have hx:=h x;rw[Xf,Xf]at hx;constructor
  ·intro h1;exact(hx.1 (.inr h1)).resolve_left (out s2 h1)
  intro h1;exact(hx.2 (.inr h1)).resolve_left (out t2 h1)
def R5(out:List Sp)(v:Sp):List Sp:=match out.getLast? with
 |none=>[v]
 |some u=>if v.1<=u.2 then out.dropLast++[(u.1,max u.2 v.2)]else out++[v]
def GM:List Sp->List Sp->List Sp
 |out,[]=>out
 |out,v::r=>GM (R5 out v) r
def ao9{out:List Sp}{v:Sp}(ho:VS out)(hv:v.1<v.2)(hl:∀u∈out,u.1<=v.1):
  VS (R5 out v)/\(∀x,Xx (R5 out v) x<->Xx (out++[v]) x)/\∀u∈R5 out v,u.1<=v.1:=by
 unfold R5;cases h:out.getLast? with
 |none=>
  have:out=[]:=zzgu.1 h;subst this;exact⟨cV.2 ⟨hv,zd,sj⟩,zd,zd⟩
 |some u=>
  obtain⟨p,rfl⟩:∃p,out=p++[u]:=zzfh.1 h;obtain⟨h1,h2,h3⟩:=EE.1 ho;have hu:=hl u zd;by_cases hc:v.1<=u.2
  ·simp only[if_pos hc,zzga];refine⟨EE.2 ⟨h1,?_,h3⟩,fun x=>?_,?_⟩
   ·show u.1<max u.2 v.2;omega
   ·simp only[Yw,Xf,Yt,or_false];constructor
    ·rintro(h|h)
     ·exact .inl (.inl h)
     by_cases hx:x<u.2
     ·exact .inl (.inr ⟨h.1,hx⟩)
     exact .inr ⟨zE,zE⟩
    rintro((h|h)|h)
    ·exact .inl h
    ·exact .inr ⟨h.1,zE⟩
    exact .inr ⟨zE,zE⟩
   intro w hw;rcases zzam.1 hw with hw|hw
   ·exact hl w (by simp[hw])
   simp at hw;subst hw;exact hu
  simp only[if_neg hc];refine⟨EE.2 ⟨ho,hv,fun t ht=>?_⟩,fun x=>by simp only[],?_⟩
  ·rcases zzam.1 ht with ht|ht
   ·have:=h3 t ht;omega
   simp at ht;subst ht;omega
  intro w hw;rcases zzam.1 hw with hw|hw
  ·exact hl w hw
  simp at hw;subst hw;exact zzbq _
def ack:∀{r out:List Sp},VS out->(∀v∈r,v.1<v.2)->r.Pairwise (fun a b=>a.1<=b.1)->(∀u∈out,∀v∈r,u.1<=v.1)->
  VS (GM out r)/\∀x,Xx (GM out r) x<->Xx (out++r) x
 |[],out,h,_,_,_=>⟨h,fun x=>by simp[GM]⟩
 |v::r,out,h,hn,hp,hl=>by
  obtain⟨h1,h2,h3⟩:=ao9 h (hn v zd) fun u hu=>hl u hu v zd;obtain⟨p1,p2⟩:=zzch.1 hp;obtain⟨h4,h5⟩:=ack (r:=r) h1 (fun w hw=>hn w (by simp[hw])) p2 fun u hu w hw=>zzgz (h3 u hu) (p1 w hw);refine⟨h4,fun x=>?_⟩;rw[GM,h5,Yw,h2];simp only[Yw,Xf,Yt,or_false,or_assoc]
def mV(s:Sp):Bool:=decide (s.1<s.2)
def Xn(l:List Sp):List Sp:=GM [] ((l.filter mV).mergeSort fun a b=>decide (a.1<=b.1))
def Ns(l:List Sp)(x:Int):Xx (l.filter mV) x<->Xx l x:=by
 simp only[Xx,zzcg,mV,decide_eq_true_eq];constructor
 ·rintro⟨s,⟨h1,_⟩,h2⟩;exact⟨s,h1,h2⟩
 rintro⟨s,h1,h2⟩;exact⟨s,⟨h1,zE⟩,h2⟩
def oC{l d:List Sp}(hp:d.Perm (l.filter mV))(hs:d.Pairwise fun a b=>a.1<=b.1):VS (GM [] d)/\∀x,Xx (GM [] d) x<->Xx l x:=by
 obtain⟨h1,h2⟩:=ack (r:=d) sj (fun v hv=>by have:=hp.mem_iff.1 hv;simp[mV]at this;exact this.2) hs zd;exact⟨h1,fun x=>by rw[h2,zzah,TS hp,Ns]⟩
def Va(l:List Sp):VS (Xn l)/\∀x,Xx (Xn l) x<->Xx l x:=by
 refine oC (zzgf _ _) ?_;have:=zzhc (le:=fun a b:Sp=>decide (a.1<=b.1)) (fun a b c h1 h2=>by simp at*;omega) (fun a b=>by simp;omega) (l.filter mV);exact this.imp zd
def anI{l d:List Sp}(hp:d.Perm (l.filter mV))(hs:d.Pairwise fun a b=>a.1<=b.1):GM [] d=Xn l:=
 sk (oC hp hs).1 (Va l).1 fun x=>by rw[(oC hp hs).2,(Va l).2]
def acm{l:List Sp}(h:VS l):Xn l=l:=sk (Va l).1 h (Va l).2
def apa{P:Int->Prop}{out:List Sp}{v:Sp}(ho:∀u∈out,P u.1/\P u.2)(hv:P v.1/\P v.2):∀u∈R5 out v,P u.1/\P u.2:=by
 unfold R5;cases h:out.getLast? with
 |none=>intro u hu;simp at hu;subst hu;exact hv
 |some w=>
  obtain⟨p,rfl⟩:∃p,out=p++[w]:=zzfh.1 h;have hw:=ho w zd;by_cases hc:v.1<=w.2
  ·simp only[if_pos hc,zzga];intro u hu;rcases zzam.1 hu with hu|hu
   ·exact ho u (by simp[hu])
   simp at hu;subst hu;refine⟨hw.1,?_⟩;show P (max w.2 v.2);rcases Int.le_total w.2 v.2 with h|h
   ·rw[Int.max_eq_right h];exact hv.2
   rw[Int.max_eq_left h];exact hw.2
  simp only[if_neg hc];intro u hu;rcases zzam.1 hu with hu|hu
  ·exact ho u hu
  simp at hu;subst hu;exact hv
def acn{P:Int->Prop}:∀{r out:List Sp},(∀u∈out,P u.1/\P u.2)->(∀u∈r,P u.1/\P u.2)->∀u∈GM out r,P u.1/\P u.2
 |[],_,h,_=>h
 |v::r,out,h,hr=>acn (r:=r) (apa h (hr v zd)) fun u hu=>hr u (by simp[hu])
def aai{P:Int->Prop}{l:List Sp}(h:∀u∈l,P u.1/\P u.2):∀u∈Xn l,P u.1/\P u.2:=
 acn zd fun u hu=>h u (by
  have:=(zzgf (l.filter mV) fun a b=>decide (a.1<=b.1)).mem_iff.1 hu;exact(zzcg.1 this).1)
def Nt(out:List Sp)(v:Sp):(R5 out v).length<=out.length+1:=by
 unfold R5;cases h:out.getLast? with
 |none=>simp
 |some w=>
  have:out≠[]:=by rintro rfl;simp at h
  have:=zzcx.2 this;dsimp only;split<;>simp<;>omega
def zk:∀(r out:List Sp),(GM out r).length<=out.length+r.length
 |[],out=>by simp[GM]
 |v::r,out=>by
  have h1:=zk r (R5 out v);have h2:=Nt out v;rw[GM];simp;omega
def Uc(l:List Sp):(Xn l).length<=l.length:=by
 have h1:=zk ((l.filter mV).mergeSort fun a b=>decide (a.1<=b.1)) [];have h2:=zzbs mV l;rw[zzew]at h1;simp at h1;unfold Xn;omega
def uv:Nat->List Sp->List Sp->List Sp
 |0,_,_=>[]
 |_,[],_=>[]
 |_,_,[]=>[]
 |n+1,s::a,t::b=>
  (if max s.1 t.1<min s.2 t.2 then[(max s.1 t.1,min s.2 t.2)]else[])++(if s.2<t.2 then uv n a (t::b)else uv n (s::a) b)
def Nu:∀(n:Nat){a b:List Sp},a.length+b.length<=n->VS a->VS b->VS (uv n a b)/\(∀x,Xx (uv n a b) x<->Xx a x/\Xx b x)/\
  ∀u∈uv n a b,(∃s∈a,s.1<=u.1)/\∃t∈b,t.1<=u.1
 |0,a,b,h,_,_=>by
  have h1:a=[]:=zzcd.1 zE;subst h1;exact⟨sj,fun x=>by simp[uv],by simp[uv]⟩
 |n+1,[],b,h,_,_=>⟨by simpa[uv]using sj,fun x=>by simp[uv],by simp[uv]⟩
 |n+1,s::a,[],h,_,_=>⟨by simpa[uv]using sj,fun x=>by simp[uv],by simp[uv]⟩
 |n+1,s::a,t::b,h,ha,hb=>by
  obtain⟨s1,s2,s3⟩:=cV.1 ha;obtain⟨t1,t2,t3⟩:=cV.1 hb;simp only[zzbe]at h
  have mem:∀{p:List Sp}{u:Sp}{x:Int},(∀w∈p,u.2<w.1)->x<=u.2->¬Xx p x:=by
   rintro p u x hp hx ⟨w,hw,h1,_⟩;have:=hp w hw;omega
  rw[uv];by_cases hc:s.2<t.2
  ·rw[if_pos hc];obtain⟨h1,h2,h3⟩:=Nu n (a:=a) (b:=t::b) (by simp;omega) s3 hb
   have hx:∀x,Xx (if max s.1 t.1<min s.2 t.2 then[(max s.1 t.1,min s.2 t.2)]else[]) x<->(s.1<=x/\x<s.2)/\Xx (t::b) x:=by
    intro x;rw[Xf];by_cases hi:max s.1 t.1<min s.2 t.2
    ·rw[if_pos hi];simp only[Xf,Yt,or_false];constructor
     ·rintro⟨h1,h2⟩;exact⟨⟨zE,zE⟩,.inl ⟨zE,zE⟩⟩
     rintro⟨h1,h2|h2⟩
     ·exact⟨zE,zE⟩
     exact absurd h2 (mem (u:=t) t2 zE)
    rw[if_neg hi];simp only[Yt,false_iff];rintro⟨h1,h2|h2⟩
    ·omega
    exact absurd h2 (mem (u:=t) t2 zE)
   refine⟨?_,fun x=>?_,?_⟩
   ·by_cases hi:max s.1 t.1<min s.2 t.2
    ·rw[if_pos hi,zzdo];refine cV.2 ⟨hi,fun u hu=>?_,h1⟩;obtain⟨⟨w,hw,hwu⟩,_⟩:=h3 u hu;have:=s2 w hw;show min s.2 t.2<u.1;omega
    rw[if_neg hi];exact h1
   ·rw[Yw,hx,h2,Xf s];constructor
    ·rintro(⟨h1,h2⟩|⟨h1,h2⟩)
     ·exact⟨.inl h1,h2⟩
     exact⟨.inr h1,h2⟩
    rintro⟨h1|h1,h2⟩
    ·exact .inl ⟨h1,h2⟩
    exact .inr ⟨h1,h2⟩
   intro u hu;rcases zzam.1 hu with hu|hu
   ·split at hu
    ·simp at hu;subst hu;exact⟨⟨s,zd,by show s.1<=max s.1 t.1;omega⟩,⟨t,zd,by show t.1<=max s.1 t.1;omega⟩⟩
    cases hu
   obtain⟨⟨w,hw,hwu⟩,cO⟩:=h3 u hu;exact⟨⟨w,by simp[hw],hwu⟩,cO⟩
  rw[if_neg hc];obtain⟨h1,h2,h3⟩:=Nu n (a:=s::a) (b:=b) (by simp;omega) ha t3
  have hx:∀x,Xx (if max s.1 t.1<min s.2 t.2 then[(max s.1 t.1,min s.2 t.2)]else[]) x<->Xx (s::a) x/\(t.1<=x/\x<t.2):=by
   intro x;rw[Xf];by_cases hi:max s.1 t.1<min s.2 t.2
   ·rw[if_pos hi];simp only[Xf,Yt,or_false];constructor
    ·rintro⟨h1,h2⟩;exact⟨.inl ⟨zE,zE⟩,⟨zE,zE⟩⟩
    rintro⟨h2|h2,h1⟩
    ·exact⟨zE,zE⟩
    exact absurd h2 (mem (u:=s) s2 zE)
   rw[if_neg hi];simp only[Yt,false_iff];rintro⟨h2|h2,h1⟩
   ·omega
   exact absurd h2 (mem (u:=s) s2 zE)
  refine⟨?_,fun x=>?_,?_⟩
  ·by_cases hi:max s.1 t.1<min s.2 t.2
   ·rw[if_pos hi,zzdo];refine cV.2 ⟨hi,fun u hu=>?_,h1⟩;obtain⟨_,⟨w,hw,hwu⟩⟩:=h3 u hu;have:=t2 w hw;show min s.2 t.2<u.1;omega
   rw[if_neg hi];exact h1
  ·rw[Yw,hx,h2,Xf t];constructor
   ·rintro(⟨h1,h2⟩|⟨h1,h2⟩)
    ·exact⟨h1,.inl h2⟩
    exact⟨h1,.inr h2⟩
   rintro⟨h1,h2|h2⟩
   ·exact .inl ⟨h1,h2⟩
   exact .inr ⟨h1,h2⟩
  intro u hu;rcases zzam.1 hu with hu|hu
  ·split at hu
   ·simp at hu;subst hu;exact⟨⟨s,zd,by show s.1<=max s.1 t.1;omega⟩,⟨t,zd,by show t.1<=max s.1 t.1;omega⟩⟩
   cases hu
  obtain⟨ha',⟨w,hw,hwu⟩⟩:=h3 u hu;exact⟨ha',⟨w,by simp[hw],hwu⟩⟩
def zZ(a b:List Sp):List Sp:=uv ((Xn a).length+(Xn b).length) (Xn a) (Xn b)
def lz(a b:List Sp):VS (zZ a b)/\∀x,Xx (zZ a b) x<->Xx a x/\Xx b x:=by
 obtain⟨h1,h2,_⟩:=Nu _ (zzab _) (Va a).1 (Va b).1;exact⟨h1,fun x=>by rw[zZ,h2,(Va a).2,(Va b).2]⟩
def DG(f t:Int):List Sp:=if f<t then[(f,t)]else[]
def jU:Int->Int->List Sp->List Sp×List Sp
 |f,t,[]=>(DG f t,[])
 |f,t,h::r=>if h.1<t then(if t<=max f h.2 then(DG f h.1,h::r)else(DG f h.1++(jU (max f h.2) t r).1,(jU (max f h.2) t r).2))else(DG f t,h::r)
def uw:List Sp->List Sp->List Sp
 |[],_=>[]
 |s::a,hs=>(jU s.1 s.2 hs).1++uw a (jU s.1 s.2 hs).2
def DH(a b:List Sp):List Sp:=uw (Xn a) (Xn b)
def qy(f t:Int):DG f t=[]<->t<=f:=by unfold DG;split<;>simp<;>omega
def JC:∀{H:List Sp}{f t:Int},VS H->((jU f t H).1=[]<->∀x,f<=x->x<t->Xx H x)
 |[],f,t,_=>by
  simp only[jU,qy,Yt];constructor
  ·intro h x h1 h2;omega
  intro h;rcases zzfp f t with hf|hf
  ·exact(h f (zzbq _) hf).elim
  exact hf
 |h::r,f,t,hV=>by
  obtain⟨h1,h2,h3⟩:=cV.1 hV
  have mem:∀{x:Int},Xx r x->h.2<x:=by
   rintro x ⟨w,hw,h4,_⟩;have:=h2 w hw;omega
  rw[jU];by_cases hc:h.1<t
  ·rw[if_pos hc];by_cases hd:t<=max f h.2
   ·rw[if_pos hd];simp only[qy,Xf];constructor
    ·intro h5 x h6 h7;exact .inl ⟨zE,zE⟩
    intro h5;by_cases hf:f<t
    ·rcases h5 f (zzbq _) hf with h6|h6
     ·exact h6.1
     have:=mem h6;omega
    omega
   rw[if_neg hd];simp only[zzhl,qy,JC h3,Xf];constructor
   ·rintro⟨h5,h6⟩ x h7 h8;by_cases hx:x<h.2
    ·exact .inl ⟨zE,hx⟩
    exact .inr (h6 x zE h8)
   intro h5;refine⟨?_,fun x h6 h7=>?_⟩
   ·rcases h5 f (zzbq _) zE with h6|h6
    ·exact h6.1
    have:=mem h6;omega
   exact(h5 x zE h7).resolve_left zE
  rw[if_neg hc];simp only[qy,Xf];constructor
  ·intro h5 x h6 h7;omega
  intro h5;rcases zzfp f t with hf|hf
  ·rcases h5 f (zzbq _) hf with h6|h6
   ·omega
   have:=mem h6;omega
  exact hf
def Nl{s:Sp}(hs:s.1<s.2)(l:List Sp):DH [s] l=[]<->∀x,s.1<=x->x<s.2->Xx l x:=by
 rw[DH,acm (l:=[s]) (cV.2 ⟨hs,zd,sj⟩)];simp only[uw,zzau,JC (Va l).1,(Va l).2]
open Go Go.Abs
def em(s:Sp):Bool:=decide (s.2<=s.1)
def JD(s:Sp):mV s=!em s:=by simp[mV,em,<- decide_not,Int.not_le]
def ob(s:Sp):Pure Tryz.prog aA 249 [.agg [I s.1,I s.2]] (.bool (em s)):=by
 refine Qo aem (fun _ _ _=>.junk) zd ?_;simp[ai8,ai9,em]
def Ck:Nat->FuncId->List AV->AV:=fun _ _ l=>match l with
 |[.agg [.int _ a,.int _ b]]=>.bool (decide (b<=a))
 |_=>.junk
def pW:List Sp->Nat->Int
 |[],_=> -1
 |s::r,i=>if em s=true then i else pW r (i+1)
def JE:∀{l:List Sp}{i:Nat},pW l i= -1->l.filter mV=l
 |[],_,_=>rfl
 |s::r,i,h=>by
  simp only[pW]at h;split at h
  ·omega
  rename_i hn;have qB:mV s=true:=by rw[JD];simpa using hn
  simp[zzei,qB,JE h]
def JF:∀{l:List Sp}{i:Nat},pW l i≠ -1->∃k:Nat,pW l i=((i+k:Nat):Int)/\k<l.length/\(l.take (k+1)).filter mV=l.take k
 |[],_,h=>absurd rfl h
 |s::r,i,h=>by
  simp only[pW]at h |-
  split
  ·rename_i hs;have qB:mV s=false:=by rw[JD,hs];rfl
   exact⟨0,rfl,zd,by simp[zzei,qB]⟩
  rename_i hs;have qB:mV s=true:=by rw[JD];simpa using hs
  rw[if_neg hs]at h;obtain⟨k,h1,h2,h3⟩:=JF h;exact⟨k+1,by rw[h1];congr 1;omega,by simpa using h2,by simp[zzei,qB,h3]⟩
def pV(l:List Sp)(hl:l.length<=1000000000):Pure Tryz.prog aA 307 [.sl .ro (l.map Qf),.fn 249 [] []] (I (pW l 0)):=by
 refine Qo aeP Ck zd ?_;simp[ajz,ajA];refine Qk CJ (fun s m=>∃i:Nat,s 8=I i/\i<=l.length/\pW (l.drop i) i=pW l 0/\m=⟨[],[],fun _=>.gone,0⟩) (fun s m=>l.length-(numOf (s 8)).toNat) ?_ ?_
 ·exact⟨0,zd,zE,zd,rfl⟩
 rintro f m ⟨i,h8,hi,hr,rfl⟩;rcases zzaa i l.length with ai|bz
 ·obtain⟨s,hs⟩:=aU ai;have ah:=Zf hs
  have ew:l.drop i=s::l.drop (i+1):=by
   rw[zzaf ai,(zza.1 hs).2]
  have hw:=bM i zE;have aa:(i:Int)<(l.length:Int):=zE
  have hp:=ob s;rw[ew]at hr;simp only[pW]at hr;by_cases he:s.2<=s.1
  ·have HG:em s=true:=by simp[em,he]
   rw[HG]at hp;rw[if_pos HG]at hr;simp[h8,ai,aa,ah,CJ,Ck,he,<- hr];exact hp
  have HG:em s=false:=by simp[em];omega
  rw[HG]at hp;rw[HG]at hr;simp only[zzbp,if_false]at hr;simp[h8,ai,aa,ah,CJ,Ck,he,hw];refine⟨hp,aP,⟨i+1,zd,zE,hr⟩,zE⟩
 have bL:¬(i:Int)<(l.length:Int):=zE
 rw[zzan bz]at hr;simp only[pW]at hr;simp[h8,bL,zzbo.2 bz,CJ,<- hr]
def nY(k:Int):Nat->FuncId->List AV->AV:=fun _ f l=>if f=307 then I k else Ck 0 0 l
def LY(Y:YT)(l:List Sp)(hl:l.length<=1000000000)(B:List (List AV))(L:List Nat)(st:Nat->LS)(n id:Nat)(aK:id<B.length)(aM:l≠[])(hB:Qh B id=cI l)(K:AV->AM->Prop)
  (hK:∀(B':List (List AV))(z:List Sp),bw (·=id) B B'->Qh B' id=cI (l.filter mV++z)->(l.filter mV).length+z.length=l.length->K (.bs id 0 (l.filter mV).length 2) ⟨B',L,st,n⟩):
  an Tryz.prog aA Y 248 [.bs id 0 l.length 2,.fn 249 [] []] ⟨B,L,st,n⟩ K:=by
 have Ms:=pV l hl;have fS:=Zp ⟨B,L,st,n⟩ 4 (Dy l);have fQ:=Qek l;have aH:=Yb l;refine Xd Of (nY (pW l 0)) zd ?_;by_cases hk:pW l 0= -1
 ·have hf:=JE hk;rw[hk]at Ms;have:=hK B [] (bw.refl _ _) (by rw[hf];simpa using hB) (by rw[hf];simp);rw[hf]at this;simp[Fl,Oe,nY,hk,hB,fS,fQ,aH];exact⟨Ms,this⟩
 obtain⟨k,dw,dD,Bw⟩:=JF hk;rw[zzbw]at dw;have EG:¬(k:Int)= -1:=zE
 have Y6:=bM k zE;rw[dw]at Ms;simp[Fl,Oe,nY,dw,EG,hB,fS,fQ,aH,Y6];refine⟨Ms,?_⟩
 refine Qk CH (fun f m=>∃(i j:Nat)(B':List (List AV))(L':List Sp),f 5=I i/\f 6=I j/\i<j/\j<=l.length/\m=⟨B',L,st,n⟩/\bw (·=id) B B'/\Qh B' id=cI L'/\L'.length=l.length/\L'.take i=(l.take j).filter mV/\L'.drop j=l.drop j)
  (fun f m=>l.length-(numOf (f 6)).toNat) ?_ ?_
 ·exact⟨k,k+1,B,l,zd,zd,zE,zE,rfl,bw.refl _ _,hB,rfl,Bw.symm,rfl⟩
 rintro f m ⟨i,j,B',L',h5,h6,eE,hj,rfl,eU,qD,ug,ht,hd⟩;have cL:id<B'.length:=zzaz aK eU.1;have jP:=Yb L';rcases zzaa j l.length with ai|bz
 ·obtain⟨s,hs⟩:=aU ai
  have iQ:L'[j]?=some s:=by
   have:=congrArg (fun x=>x[0]?) hd;simpa[hs]using this
  have hg:=uT iQ;have eV:(j:Int)<(l.length:Int):=zE
  have aa:(i:Int)<(l.length:Int):=zE
  have xk:i<l.length:=zE
  have xP:=bM j zE;have LH:=bM i zE;have hp:=ob s;have bY:=O6 L' i s zE;simp only[setA]at bY;have iE:∀x,Qh (B'++x) id=cI L':=fun x=>by rw[Ql cL,qD]
  have lY:∀x v,(B'++x).set id v=B'.set id v++x:=fun x v=>Ym v cL
  have bC:(l.take (j+1)).filter mV=(l.take j).filter mV++[s].filter mV:=by
   rw[zzas,hs,zzct];rfl
  have hdj:L'.drop (j+1)=l.drop (j+1):=by
   have:=congrArg (List.drop 1) hd;simpa[zzdx,zzfl]using this
  by_cases he:s.2<=s.1
  ·have HG:em s=true:=by simp[em,he]
   have qB:mV s=false:=by rw[JD,HG];rfl
   rw[HG]at hp;simp[h5,h6,eV,ai,aa,qD,iE,lY,hg,CH,nY,Ck,he,xP,LH];refine⟨hp,aP,⟨i,rfl,j+1,zd,zE,zE,eU.app _,?_⟩,zE⟩
   ·refine⟨L',rfl,ug,?_,hdj⟩;rw[bC,ht];simp[qB]
  have HG:em s=false:=by simp[em];omega
  have qB:mV s=true:=by rw[JD,HG];rfl
  rw[HG]at hp;simp[h5,h6,eV,ai,aa,xk,qD,iE,lY,hg,CH,nY,Ck,he,xP,LH,bY,jP,ug];refine⟨hp,zE,aP,⟨i+1,zd,j+1,zd,zE,zE,(eU.set (.inl rfl) _).app _,?_⟩,zE⟩
  ·refine⟨L'.set i s,by rw[Ql (by simpa using cL),Vs _ cL],by simpa using ug,?_,?_⟩
   ·rw[bC,<- ht,zzas,zzba zE,zzgd zE];simp[qB]
   rw[zzge zE];exact hdj
 obtain rfl:j=l.length:=zE
 rw[zzbu]at ht;have eG:(l.filter mV).length=i:=by rw[<- ht,zzaq];omega
 have O5:¬((l.length:Nat):Int)<(l.length:Int):=zE
 have bL:(i:Int)<=(l.length:Int):=zE
 have aa:(i:Int)<(l.length:Int):=zE
 have xk:i<l.length:=eE
 have eF:cI L'≠[]:=by
  intro h;have:=congrArg List.length h;rw[jP,ug]at this;simp at this;omega
 have oF:setA (cI L') (i*2) (bK (l.length-i) [I 0,I 0])=cI (l.filter mV++List.replicate (l.length-i) (0,0)):=by
  have e1:L'=L'.take i++L'.drop i:=zd
  conv=>lhs;rw[e1]
  rw[Qcl,Qcl,<- ht,R9];have e2:(cI (L'.take i)).length=i*2:=by rw[Yb,zzaq];congr 1;omega
  rw[<- e2];exact pJ _ _ _ (by rw[Yb,Yb];simp;omega)
 simp[h5,h6,O5,qD,aa,xk,bL,CH,cL,eF,jP,ug,oF];refine⟨zE,?_⟩;have:=hK (B'.set id (cI (l.filter mV++List.replicate (l.length-i) (0,0)))) (List.replicate (l.length-i) (0,0)) (eU.set (.inl rfl) _) (Vs _ cL) (by simp;omega);rw[eG]at this;exact this
end Go.Proofs.YtnopaopphmjnmaaGreatDoor
namespace Go.Abs
open Go Go.RowKit
def aco{P:Program}{gl:Nat->AV}{Y:YT}{f:FuncId}(hc:bD P f)(bn:∀(b:Nat)(es:Array MapEntry)(clock:Nat)(w:World),w.heap[b]?=some (.map es clock)->Calls P f #[.map (some b)] w fun e w'=>e=.returned (.map (some w.heap.size))/\w'=w.alloc (.map es clock))
  {m:AM}{id kn:Nat}{kvs:List (List Int×AV)}(hb:m.boxes.getD id []=[.aL kn kvs]){K:AV->AM->Prop}(hK:K (.mp m.boxes.length) {m with boxes:=m.boxes++[[.aL kn kvs]]}):an P gl Y f [.mp id] m K:=by
 refine an.gr hc fun N w0 aq γ w vs hm hl hr=>?_
 match vs,hr with
 |[v],hr=>
  obtain⟨aK,hB⟩:=nG hb;obtain⟨b,es,h1,rfl,h3,h4,h5⟩:=hm.jo (hr.2 0 _ v rfl rfl) hB;refine(bn b es _ w h3).mono fun e w'⟨he,hw⟩=>?_;subst hw;obtain⟨g1,g2⟩:=hm.K7 m.boxes.length (by simp[AM.B]) (x:=.aL kn kvs) (o:=.map es es.size) ⟨rfl,h4,h5⟩;refine⟨_,_,.mp m.boxes.length,{m with boxes:=m.boxes++[[.aL kn kvs]]},he,g1.cK,?_,hl.mono' g1 rfl,.mp (by simp[G.gP]),hK⟩;rw[TW];exact g2
 |[],hr=>exact absurd hr.1 zd
 |_::_::_,hr=>exact absurd hr.1 zd
def QJ{P:Program}{t:TypeId}{a b c:Nat}(h:(P.info? t).bind (fun i=>i.zero.map fun z=>(i.size,i.bytes,z.cells.size))=some (a,b,c)):∃i z,P.info? t=some i/\i.zero=some z/\i.size=a/\i.bytes=b/\z.cells.size=c:=by
 cases hi:P.info? t with
 |none=>rw[hi]at h;cases h
 |some i=>
  rw[hi]at h;simp only[zzbz]at h;cases hz:i.zero with
  |none=>rw[hz]at h;cases h
  |some z=>
   rw[hz]at h;simp only[zzcw,Option.some.injEq,Prod.mk.injEq]at h;exact⟨i,z,rfl,hz,h.1,h.2.1,h.2.2⟩
def QK{P:Program}{gl:Nat->AV}{Y:YT}{f:FuncId}{t:TypeId}{sz n:Nat}(hc:bD P f)
  (cH:n=0->∀w:World,Calls P f #[.slice none 0 0,.int .i64 (n:Nat)] w fun e w'=>e=.returned (.slice none 0 0)/\w'=w)
  (avD:0<n->∀w:World,Calls P f #[.slice none 0 0,.int .i64 (n:Nat)] w fun e w'=>∃cap cs,e=.returned (.slice (some ⟨w.heap.size,0,none⟩) 0 cap)/\w'=w.drew.alloc (.cells cs t)/\cap*sz<=cs.size)
  {m:AM}{K:AV->AM->Prop}(h0:n=0->K (.sl .nil []) m)(h1:0<n->K (.sl (.own m.lens.length sz) []) {m with lens:=m.lens++[0]}):an P gl Y f [.sl .nil [],.int .i64 (n:Nat)] m K:=by
 refine an.gr hc fun N w0 aq γ w vs hm hl hr=>?_
 match vs,hr with
 |[v,u],hr=>
  have hv:v=.slice none 0 0:=by
   have h:=hr.2 0 _ v rfl rfl;cases h with
   |@sl _ _ _ a cap b off gH cv hcap hnil ha hsz hcc Sk aT=>
    have:a=none:=aT;subst this;rw[hnil rfl];rfl
  have hu:u=.int .i64 (n:Nat):=(hr.2 1 _ u rfl rfl).aI;subst hv;subst hu;rcases zzcn n with hn|hn
  ·refine(cH hn w).mono fun e w'⟨he,hw⟩=>?_;subst hw;exact⟨_,γ,_,m,he,(Ev.refl _ γ).cK,hm,hl,CO,h0 hn⟩
  refine(avD hn w).mono fun e w'⟨cap,cs,he,hw,hs⟩=>?_;subst hw;have oG:=hm.aj2;have hL:m.L m.lens.length=none:=by simp[AM.L]
  have fh:γ.own m.lens.length=none:=by
   cases h:γ.own m.lens.length with
   |none=>rfl
   |some b=>obtain⟨_,_,k,hk⟩:=hm.own _ _ h;rw[hL]at hk;cases hk
  have dH:γ.cur m.lens.length=0:=hm.cur0 _ hL;have bT:=oG.2.trans (oG.1.gj (q:=0) (id:=m.lens.length) (n:=0) zE (fun _=>fh) (.cells cs t));refine⟨_,γ.renew m.lens.length w.heap.size 0 0,.sl (.own m.lens.length sz) [],{m with lens:=m.lens++[0]},he,bT.cK,?_,hl.mono' bT rfl,?_,h1 hn⟩
  ·rw[CY];exact oG.1.renew zE (fun _=>fh) _
  refine .sl (rows:=[]) w.heap.size 0 sz (fun _ _=>undef) (zzbt _) (fun h=>(by cases h)) (fun h=>absurd rfl h) (fun _ h=>by cases h) (fun i j c h=>by simp[Qv]at h) (fun i j c h=>by simp[Qv]at h) ?_;refine⟨rfl,zzbt _,fun _=>.inr ⟨w.heap.size,0,cs,t,rfl,by simp[G.renew],by show(w.heap.push _)[w.heap.size]?=_;simp,zE,fun o' _ hr=>?_⟩⟩;obtain hr|⟨_,hr⟩:=hr
  ·have:=hm.robd _ _ hr;omega
  omega
 |[],hr=>exact absurd hr.1 zd
 |[_],hr=>exact absurd hr.1 zd
 |_::_::_::_,hr=>exact absurd hr.1 zd
end Go.Abs
namespace Go.Proofs.YtnopaopphmjnmaaGreatDoor
open Go Go.Abs Go.Shelf Go.RowKit Go.Lib
def Nv:Go.Shelf.Ren:=⟨fun|5=>198|7=>272|n=>n,fun|23=>93|25=>3|3=>3|4=>4|20=>20|n=>n,fun|n=>n⟩
def apb:Go.Proofs.SlLaysW.n5 Tryz.prog Nv:={
 mixed:=by kernel_rfl,
 f5:=⟨Tryz.f198.name,by decide,Tryz.func198.trans (congrArg some (by kernel_rfl))⟩,
 f7:=Tryz.func272.trans (congrArg some (by kernel_rfl)),
 t4:=Tryz.underlying4,
 a4:=Tryz.isAgg4,
 z4:=Tryz.sizeOf4,
 v4:=Tryz.zeroValue4,
 t20:=Tryz.underlying20,
 a20:=Tryz.isAgg20,
 z20:=Tryz.sizeOf20,
 v20:=Tryz.zeroValue20,
 t23:=Tryz.underlying93,
 a23:=Tryz.isAgg93,
 z23:=Tryz.sizeOf93,
 v23:=Tryz.zeroValue93}
def tU:Go.Shelf.Ren:=⟨fun|4=>277|n=>n,fun|22=>59|25=>3|3=>3|4=>4|9=>9|20=>20|0=>0|n=>n,fun|n=>n⟩
def QL:Go.Proofs.Lays8.n4 Tryz.prog tU:={
 mixed:=by kernel_rfl,
 f4:=⟨Tryz.f277.name,by decide,Tryz.func277.trans (congrArg some (by kernel_rfl))⟩,
 t0:=Tryz.underlying0,
 a0:=Tryz.isAgg0,
 z0:=Tryz.sizeOf0,
 v0:=Tryz.zeroValue0,
 t3:=Tryz.underlying3,
 a3:=Tryz.isAgg3,
 z3:=Tryz.sizeOf3,
 v3:=Tryz.zeroValue3,
 t4:=Tryz.underlying4,
 a4:=Tryz.isAgg4,
 z4:=Tryz.sizeOf4,
 v4:=Tryz.zeroValue4,
 t9:=Tryz.underlying9,
 a9:=Tryz.isAgg9,
 z9:=Tryz.sizeOf9,
 v9:=Tryz.zeroValue9,
 t20:=Tryz.underlying20,
 a20:=Tryz.isAgg20,
 z20:=Tryz.sizeOf20,
 v20:=Tryz.zeroValue20,
 t22:=Tryz.underlying59,
 a22:=Tryz.isAgg59,
 z22:=Tryz.sizeOf59,
 v22:=Tryz.zeroValue59}
def zm:Go.Shelf.Ren:=⟨fun|4=>358|n=>n,fun|22=>126|25=>124|3=>3|4=>4|9=>9|20=>20|0=>0|2=>3|n=>n,fun|n=>n⟩
def acp:Go.Proofs.Lays8.n4 Tryz.prog zm:={
 mixed:=by kernel_rfl,
 f4:=⟨Tryz.f358.name,by decide,Tryz.func358.trans (congrArg some (by kernel_rfl))⟩,
 t0:=Tryz.underlying0,
 a0:=Tryz.isAgg0,
 z0:=Tryz.sizeOf0,
 v0:=Tryz.zeroValue0,
 t3:=Tryz.underlying3,
 a3:=Tryz.isAgg3,
 z3:=Tryz.sizeOf3,
 v3:=Tryz.zeroValue3,
 t4:=Tryz.underlying4,
 a4:=Tryz.isAgg4,
 z4:=Tryz.sizeOf4,
 v4:=Tryz.zeroValue4,
 t9:=Tryz.underlying9,
 a9:=Tryz.isAgg9,
 z9:=Tryz.sizeOf9,
 v9:=Tryz.zeroValue9,
 t20:=Tryz.underlying20,
 a20:=Tryz.isAgg20,
 z20:=Tryz.sizeOf20,
 v20:=Tryz.zeroValue20,
 t22:=Tryz.underlying126,
 a22:=Tryz.isAgg126,
 z22:=Tryz.sizeOf126,
 v22:=Tryz.zeroValue126}
def Pq{Y:YT}{m:AM}{id kn:Nat}{kvs:List (List Int×AV)}(hb:m.boxes.getD id []=[.aL kn kvs]){K:AV->AM->Prop}(hK:K (.mp m.boxes.length) {m with boxes:=m.boxes++[[.aL kn kvs]]}):an Tryz.prog aA Y 198 [.mp id] m K:=
 aco ⟨_,Tryz.func198,by kernel_rfl,by kernel_rfl⟩ (fun b es clock w h=>AnyW.maps_Clone apb b es clock w h) hb hK
def agb{Y:YT}{m:AM}{n:Nat}(hn:n<=1000000000){K:AV->AM->Prop}(h0:n=0->K (.sl .nil []) m)(h1:0<n->K (.sl (.own m.lens.length 1) []) {m with lens:=m.lens++[0]}):an Tryz.prog aA Y 277 [.sl .nil [],I n] m K:=by
 obtain⟨i0,z,hi0,hz0,OC,dV,CS⟩:=QJ (P:=Tryz.prog) (t:=3) (a:=1) (b:=8) (c:=1) (by kernel_rfl);refine QK (t:=3) (sz:=1) ⟨_,Tryz.func277,by kernel_rfl,by kernel_rfl⟩ (fun eZ w=>?_) (fun hp w=>?_) h0 h1
 ·subst eZ;exact Any8.slices_Grow_room QL none 0 0 0 w (zzab _) zE zE (zzab _)
 refine(Any8.slices_Grow_grow QL i0 z hi0 hz0 zE none 0 0 n [] w (zzab _) zE (by rw[dV];omega) zE zd (fun _=>rfl) (fun a h=>by cases h)).mono fun e w'⟨he,hw⟩=>?_;refine⟨_,_,he,hw,?_⟩;have hg:n<=grownCap w (0+n) 0 3:=by have:=grownCap_ge w (0+n) 0 3;omega
 simp only[zzer,size_zeroCells,CS];simp;have e1:tU.t 25=3:=rfl;simp only[e1];omega
def af8{Y:YT}{m:AM}{n:Nat}(hn:n<=1000000000){K:AV->AM->Prop}(h0:n=0->K (.sl .nil []) m)(h1:0<n->K (.sl (.own m.lens.length 2) []) {m with lens:=m.lens++[0]}):an Tryz.prog aA Y 358 [.sl .nil [],I n] m K:=by
 obtain⟨i0,z,hi0,hz0,OC,dV,CS⟩:=QJ (P:=Tryz.prog) (t:=124) (a:=2) (b:=16) (c:=2) (by kernel_rfl);refine QK (t:=124) (sz:=2) ⟨_,Tryz.func358,by kernel_rfl,by kernel_rfl⟩ (fun eZ w=>?_) (fun hp w=>?_) h0 h1
 ·subst eZ;exact Any8.slices_Grow_room acp none 0 0 0 w (zzab _) zE zE (zzab _)
 refine(Any8.slices_Grow_grow acp i0 z hi0 hz0 zE none 0 0 n [] w (zzab _) zE (by rw[dV];omega) zE zd (fun _=>rfl) (fun a h=>by cases h)).mono fun e w'⟨he,hw⟩=>?_;refine⟨_,_,he,hw,?_⟩;have hg:n<=grownCap w (0+n) 0 124:=by have:=grownCap_ge w (0+n) 0 124;omega
 simp only[zzer,size_zeroCells,CS];simp;have e1:zm.t 25=124:=rfl;simp only[e1];omega
