import Derived.Test.YtnopaopphmjnmaaGreatDoorMDCodeT
import Derived.Test.YtnopaopphmjnmaaGreatDoorMDMP
import Derived.Shelf.SlMaps.Clone
import Derived.Shelf.Spec.SlicesGrow
set_option linter.all false
set_option maxRecDepth 100000
set_option maxHeartbeats 64000000
namespace Go.Proofs.YtnopaopphmjnmaaGreatDoor
open Go Go.Abs
def HS:List AV:=[I 24000,I 1001,I 24,I 0,I 24,I 1,I 24,I 0,I 25,I 1,I 25,I 0,I 30000,I 1001,I 30,I 2,I 30,I 1,I 30,I 0,I 50,I 1,I 50,I 0,I 60000,I 1001,I 60,I 4,I 60,I 1,I 60,I 0]
def aq:Nat->AV
 |0=>.ep HS 0
 |_=>.junk
def tg(c n:Int):Int:=(if c<0 then -(c+1)else c).tmod n
def SM(c n:Int)(h0: -9223372036854775808<=c)(h1:c<=9223372036854775807)(hn:n≠0):Pure Tryz.prog aq 32 [I c,I n] (I (tg c n)):=by
 refine Qn alu (fun _ _ _=>.junk) (by simp) ?_;have eO:c<0->IntKind.i64.wrap (c+1)=c+1:=fun h=>by rw[Qk]<;>omega
 have eC:c<0->IntKind.i64.wrap (-(c+1))= -(c+1):=fun h=>by rw[Qk]<;>omega
 by_cases h:c<0
 ·simp[alq,alr,h,eO h,eC h,hn,tg]
 simp[alq,alr,h,hn,tg]
def Xy{α:Type}{l:List α}{i:Nat}{a:α}(h:l[i]?=some a):l.drop i=a::l.drop (i+1):=by
 obtain⟨h1,h2⟩:=zza.1 h;rw[zzaf h1,h2]
def SN(c n:Int)(hn:0<n):0<=tg c n/\tg c n<n:=by
 unfold tg;have h0:0<=(if c<0 then -(c+1)else c):=by split<;>omega
 rw[Int.tmod_eq_emod_of_nonneg h0];exact⟨Int.emod_nonneg _ (by omega),Int.emod_lt_of_pos _ hn⟩
structure Evt where
 id:Int
 it:Int
 st:Int
 fr:Int
 i:Int
 re:Int
 al:Option Int
def jR:Pure Tryz.prog aq 88 [.sl .nil []] (.sl .nil []):=by
 refine Qn IZ (fun _ _ _=>.junk) (by simp) ?_;simp[ach,aci]
def nR(f:Int):Prop:= -1000000<=f/\f<=1000000
def wu(n:Int)(h:0<=n)(h':n<=2000000):IntKind.u64.wrap n=n:=by
 simp[IntKind.wrap,IntKind.bits,IntKind.signed];omega
def Z4:AV:=.aU [.agg [I 0,I 0,I 0,I 0,I 0,I 0,.sl .nil []],I 0,.bool false]
abbrev Sp:=Int×Int
def Xq(l:List Sp)(x:Int):Prop:=∃s∈l,s.1<=x/\x<s.2
def VS(l:List Sp):Prop:=(∀s∈l,s.1<s.2)/\l.Pairwise fun a b=>a.2<b.1
@[simp] def Ym(x:Int):Xq [] x<->False:=by simp[Xq]
@[simp] def Xd(s:Sp)(l:List Sp)(x:Int):Xq (s::l) x<->(s.1<=x/\x<s.2)\/Xq l x:=by simp[Xq]
@[simp] def Yp(a b:List Sp)(x:Int):Xq (a++b) x<->Xq a x\/Xq b x:=by
 simp only[Xq,zzap,or_and_right,exists_or]
def S6{a b:List Sp}(h:a.Perm b)(x:Int):Xq a x<->Xq b x:=by simp only[Xq,h.mem_iff]
def rP:VS []:=⟨fun _ h=>(by cases h),.nil⟩
def cO{s:Sp}{l:List Sp}:VS (s::l)<->s.1<s.2/\(∀t∈l,s.2<t.1)/\VS l:=by
 simp only[VS,zzau,forall_eq_or_imp,zzbz];constructor
 ·rintro⟨⟨h1,h2⟩,h3,h4⟩;exact⟨h1,h3,h2,h4⟩
 rintro⟨h1,h3,h2,h4⟩;exact⟨⟨h1,h2⟩,h3,h4⟩
def D1{s:Sp}{l:List Sp}:VS (l++[s])<->VS l/\s.1<s.2/\∀t∈l,t.2<s.1:=by
 simp only[VS,zzap,zzbr,zzfp,zzgt,true_and];constructor
 ·rintro⟨h1,h2,h3⟩;exact⟨⟨fun t ht=>h1 t (.inl ht),h2⟩,h1 s (.inr rfl),fun t ht=>h3 t ht s rfl⟩
 rintro⟨⟨h1,h2⟩,h3,h4⟩;refine⟨?_,h2,?_⟩
 ·rintro t (ht|rfl)
  ·exact h1 t ht
  exact h3
 rintro t ht u rfl;exact h4 t ht
def rQ:∀{a b:List Sp},VS a->VS b->(∀x,Xq a x<->Xq b x)->a=b
 |[],[],_,_,_=>rfl
 |[],t::b,_,hb,h=>by
  have:=(h t.1).2 (by rw[Xd];exact .inl ⟨zzbx _,(cO.1 hb).1⟩);simp at this
 |s::a,[],ha,_,h=>by
  have:=(h s.1).1 (by rw[Xd];exact .inl ⟨zzbx _,(cO.1 ha).1⟩);simp at this
 |s::a,t::b,ha,hb,h=>by
  obtain⟨s1,s2,s3⟩:=cO.1 ha;obtain⟨t1,t2,t3⟩:=cO.1 hb
  have key:∀{u v:Sp}{p q:List Sp},u.1<u.2->v.1<v.2->(∀w∈q,v.2<w.1)->(∀x,Xq (u::p) x->Xq (v::q) x)->v.1<=u.1:=by
   intro u v p q h1 qG h2 h3;obtain⟨w,hw,h4,h5⟩:=h3 u.1 (by rw[Xd];exact .inl ⟨zzbx _,h1⟩);rcases zzau.1 hw with rfl|hw
   ·exact h4
   have:=h2 w hw;omega
  have e1:s.1=t.1:=Int.le_antisymm (key t1 s1 s2 fun x hx=>(h x).2 hx) (key s1 t1 t2 fun x hx=>(h x).1 hx)
  have abF:∀{u v:Sp}{p q:List Sp},u.1<u.2->u.1=v.1->(∀w∈p,u.2<w.1)->(∀x,Xq (v::q) x->Xq (u::p) x)->¬u.2<v.2:=by
   intro u v p q h1 h2 h3 h4 h5;obtain⟨w,hw,h6,h7⟩:=h4 u.2 (by rw[Xd];exact .inl ⟨by omega,h5⟩);rcases zzau.1 hw with rfl|hw
   ·omega
   have:=h3 w hw;omega
  have e2:s.2=t.2:=by
   have k1:=abF s1 e1 s2 fun x hx=>(h x).2 hx;have k2:=abF t1 e1.symm t2 fun x hx=>(h x).1 hx;omega
  have e:s=t:=Prod.ext e1 e2;subst e;congr 1;refine rQ s3 t3 fun x=>?_
  have out:∀{p:List Sp},(∀w∈p,s.2<w.1)->Xq p x->¬(s.1<=x/\x<s.2):=by
   rintro p hp ⟨w,hw,h1,_⟩ ⟨_,h2⟩;have:=hp w hw;omega
  have hx:=h x;rw[Xd,Xd]at hx;constructor
  ·intro h1;exact(hx.1 (.inr h1)).resolve_left (out s2 h1)
  intro h1;exact(hx.2 (.inr h1)).resolve_left (out t2 h1)
def Rj(out:List Sp)(v:Sp):List Sp:=match out.getLast? with
 |none=>[v]
 |some u=>if v.1<=u.2 then out.dropLast++[(u.1,max u.2 v.2)]else out++[v]
def Gd:List Sp->List Sp->List Sp
 |out,[]=>out
 |out,v::r=>Gd (Rj out v) r
def ao6{out:List Sp}{v:Sp}(ho:VS out)(hv:v.1<v.2)(hl:∀u∈out,u.1<=v.1):
  VS (Rj out v)/\(∀x,Xq (Rj out v) x<->Xq (out++[v]) x)/\∀u∈Rj out v,u.1<=v.1:=by
 unfold Rj;cases h:out.getLast? with
 |none=>
  have:out=[]:=zzgj.1 h;subst this;exact⟨cO.2 ⟨hv,by simp,rP⟩,by simp,by simp⟩
 |some u=>
  obtain⟨p,rfl⟩:∃p,out=p++[u]:=zzex.1 h;obtain⟨h1,h2,h3⟩:=D1.1 ho;have hu:=hl u (by simp);by_cases hc:v.1<=u.2
  ·simp only[if_pos hc,zzfr];refine⟨D1.2 ⟨h1,?_,h3⟩,fun x=>?_,?_⟩
   ·show u.1<max u.2 v.2;omega
   ·simp only[Yp,Xd,Ym,or_false];constructor
    ·rintro(h|h)
     ·exact .inl (.inl h)
     by_cases hx:x<u.2
     ·exact .inl (.inr ⟨h.1,hx⟩)
     exact .inr ⟨by omega,by omega⟩
    rintro((h|h)|h)
    ·exact .inl h
    ·exact .inr ⟨h.1,by omega⟩
    exact .inr ⟨by omega,by omega⟩
   intro w hw;rcases zzap.1 hw with hw|hw
   ·exact hl w (by simp[hw])
   simp at hw;subst hw;exact hu
  simp only[if_neg hc];refine⟨D1.2 ⟨ho,hv,fun t ht=>?_⟩,fun x=>by simp only[],?_⟩
  ·rcases zzap.1 ht with ht|ht
   ·have:=h3 t ht;omega
   simp at ht;subst ht;omega
  intro w hw;rcases zzap.1 hw with hw|hw
  ·exact hl w hw
  simp at hw;subst hw;exact zzbx _
def abJ:∀{r out:List Sp},VS out->(∀v∈r,v.1<v.2)->r.Pairwise (fun a b=>a.1<=b.1)->(∀u∈out,∀v∈r,u.1<=v.1)->
  VS (Gd out r)/\∀x,Xq (Gd out r) x<->Xq (out++r) x
 |[],out,h,_,_,_=>⟨h,fun x=>by simp[Gd]⟩
 |v::r,out,h,hn,hp,hl=>by
  obtain⟨h1,h2,h3⟩:=ao6 h (hn v (by simp)) fun u hu=>hl u hu v (by simp);obtain⟨p1,p2⟩:=zzbz.1 hp;obtain⟨h4,h5⟩:=abJ (r:=r) h1 (fun w hw=>hn w (by simp[hw])) p2 fun u hu w hw=>zzho (h3 u hu) (p1 w hw);refine⟨h4,fun x=>?_⟩;rw[Gd,h5,Yp,h2];simp only[Yp,Xd,Ym,or_false,or_assoc]
def mF(s:Sp):Bool:=decide (s.1<s.2)
def Xk(l:List Sp):List Sp:=Gd [] ((l.filter mF).mergeSort fun a b=>decide (a.1<=b.1))
def MM(l:List Sp)(x:Int):Xq (l.filter mF) x<->Xq l x:=by
 simp only[Xq,zzcy,mF,decide_eq_true_eq];constructor
 ·rintro⟨s,⟨h1,_⟩,h2⟩;exact⟨s,h1,h2⟩
 rintro⟨s,h1,h2⟩;exact⟨s,⟨h1,by omega⟩,h2⟩
def nZ{l d:List Sp}(hp:d.Perm (l.filter mF))(hs:d.Pairwise fun a b=>a.1<=b.1):VS (Gd [] d)/\∀x,Xq (Gd [] d) x<->Xq l x:=by
 obtain⟨h1,h2⟩:=abJ (r:=d) rP (fun v hv=>by have:=hp.mem_iff.1 hv;simp[mF]at this;exact this.2) hs (by simp);exact⟨h1,fun x=>by rw[h2,zzah,S6 hp,MM]⟩
def Zw(l:List Sp):VS (Xk l)/\∀x,Xq (Xk l) x<->Xq l x:=by
 refine nZ (zzfx _ _) ?_;have:=zzgr (le:=fun a b:Sp=>decide (a.1<=b.1)) (fun a b c h1 h2=>by simp at*;omega) (fun a b=>by simp;omega) (l.filter mF);exact this.imp (by simp)
def anD{l d:List Sp}(hp:d.Perm (l.filter mF))(hs:d.Pairwise fun a b=>a.1<=b.1):Gd [] d=Xk l:=
 rQ (nZ hp hs).1 (Zw l).1 fun x=>by rw[(nZ hp hs).2,(Zw l).2]
def abK{l:List Sp}(h:VS l):Xk l=l:=rQ (Zw l).1 h (Zw l).2
def ao7{P:Int->Prop}{out:List Sp}{v:Sp}(ho:∀u∈out,P u.1/\P u.2)(hv:P v.1/\P v.2):∀u∈Rj out v,P u.1/\P u.2:=by
 unfold Rj;cases h:out.getLast? with
 |none=>intro u hu;simp at hu;subst hu;exact hv
 |some w=>
  obtain⟨p,rfl⟩:∃p,out=p++[w]:=zzex.1 h;have hw:=ho w (by simp);by_cases hc:v.1<=w.2
  ·simp only[if_pos hc,zzfr];intro u hu;rcases zzap.1 hu with hu|hu
   ·exact ho u (by simp[hu])
   simp at hu;subst hu;refine⟨hw.1,?_⟩;show P (max w.2 v.2);rcases Int.le_total w.2 v.2 with h|h
   ·rw[Int.max_eq_right h];exact hv.2
   rw[Int.max_eq_left h];exact hw.2
  simp only[if_neg hc];intro u hu;rcases zzap.1 hu with hu|hu
  ·exact ho u hu
  simp at hu;subst hu;exact hv
def abL{P:Int->Prop}:∀{r out:List Sp},(∀u∈out,P u.1/\P u.2)->(∀u∈r,P u.1/\P u.2)->∀u∈Gd out r,P u.1/\P u.2
 |[],_,h,_=>h
 |v::r,out,h,hr=>abL (r:=r) (ao7 h (hr v (by simp))) fun u hu=>hr u (by simp[hu])
def ZR{P:Int->Prop}{l:List Sp}(h:∀u∈l,P u.1/\P u.2):∀u∈Xk l,P u.1/\P u.2:=
 abL (by simp) fun u hu=>h u (by
  have:=(zzfx (l.filter mF) fun a b=>decide (a.1<=b.1)).mem_iff.1 hu;exact(zzcy.1 this).1)
def MN(out:List Sp)(v:Sp):(Rj out v).length<=out.length+1:=by
 unfold Rj;cases h:out.getLast? with
 |none=>simp
 |some w=>
  have:out≠[]:=by rintro rfl;simp at h
  have:=zzcu.2 this;dsimp only;split<;>simp<;>omega
def yQ:∀(r out:List Sp),(Gd out r).length<=out.length+r.length
 |[],out=>by simp[Gd]
 |v::r,out=>by
  have h1:=yQ r (Rj out v);have h2:=MN out v;rw[Gd];simp;omega
def Yv(l:List Sp):(Xk l).length<=l.length:=by
 have h1:=yQ ((l.filter mF).mergeSort fun a b=>decide (a.1<=b.1)) [];have h2:=zzbs mF l;rw[zzeq]at h1;simp at h1;unfold Xk;omega
def tQ:Nat->List Sp->List Sp->List Sp
 |0,_,_=>[]
 |_,[],_=>[]
 |_,_,[]=>[]
 |n+1,s::a,t::b=>
  (if max s.1 t.1<min s.2 t.2 then[(max s.1 t.1,min s.2 t.2)]else[])++(if s.2<t.2 then tQ n a (t::b)else tQ n (s::a) b)
def MO:∀(n:Nat){a b:List Sp},a.length+b.length<=n->VS a->VS b->VS (tQ n a b)/\(∀x,Xq (tQ n a b) x<->Xq a x/\Xq b x)/\
  ∀u∈tQ n a b,(∃s∈a,s.1<=u.1)/\∃t∈b,t.1<=u.1
 |0,a,b,h,_,_=>by
  have h1:a=[]:=zzc.1 (by omega);subst h1;exact⟨rP,fun x=>by simp[tQ],by simp[tQ]⟩
 |n+1,[],b,h,_,_=>⟨by simpa[tQ]using rP,fun x=>by simp[tQ],by simp[tQ]⟩
 |n+1,s::a,[],h,_,_=>⟨by simpa[tQ]using rP,fun x=>by simp[tQ],by simp[tQ]⟩
 |n+1,s::a,t::b,h,ha,hb=>by
  obtain⟨s1,s2,s3⟩:=cO.1 ha;obtain⟨t1,t2,t3⟩:=cO.1 hb;simp only[zzbd]at h
  have mem:∀{p:List Sp}{u:Sp}{x:Int},(∀w∈p,u.2<w.1)->x<=u.2->¬Xq p x:=by
   rintro p u x hp hx ⟨w,hw,h1,_⟩;have:=hp w hw;omega
  rw[tQ];by_cases hc:s.2<t.2
  ·rw[if_pos hc];obtain⟨h1,h2,h3⟩:=MO n (a:=a) (b:=t::b) (by simp;omega) s3 hb
   have hx:∀x,Xq (if max s.1 t.1<min s.2 t.2 then[(max s.1 t.1,min s.2 t.2)]else[]) x<->(s.1<=x/\x<s.2)/\Xq (t::b) x:=by
    intro x;rw[Xd];by_cases hi:max s.1 t.1<min s.2 t.2
    ·rw[if_pos hi];simp only[Xd,Ym,or_false];constructor
     ·rintro⟨h1,h2⟩;exact⟨⟨by omega,by omega⟩,.inl ⟨by omega,by omega⟩⟩
     rintro⟨h1,h2|h2⟩
     ·exact⟨by omega,by omega⟩
     exact absurd h2 (mem (u:=t) t2 (by omega))
    rw[if_neg hi];simp only[Ym,false_iff];rintro⟨h1,h2|h2⟩
    ·omega
    exact absurd h2 (mem (u:=t) t2 (by omega))
   refine⟨?_,fun x=>?_,?_⟩
   ·by_cases hi:max s.1 t.1<min s.2 t.2
    ·rw[if_pos hi,zzdw];refine cO.2 ⟨hi,fun u hu=>?_,h1⟩;obtain⟨⟨w,hw,hwu⟩,_⟩:=h3 u hu;have:=s2 w hw;show min s.2 t.2<u.1;omega
    rw[if_neg hi];exact h1
   ·rw[Yp,hx,h2,Xd s];constructor
    ·rintro(⟨h1,h2⟩|⟨h1,h2⟩)
     ·exact⟨.inl h1,h2⟩
     exact⟨.inr h1,h2⟩
    rintro⟨h1|h1,h2⟩
    ·exact .inl ⟨h1,h2⟩
    exact .inr ⟨h1,h2⟩
   intro u hu;rcases zzap.1 hu with hu|hu
   ·split at hu
    ·simp at hu;subst hu;exact⟨⟨s,by simp,by show s.1<=max s.1 t.1;omega⟩,⟨t,by simp,by show t.1<=max s.1 t.1;omega⟩⟩
    cases hu
   obtain⟨⟨w,hw,hwu⟩,cK⟩:=h3 u hu;exact⟨⟨w,by simp[hw],hwu⟩,cK⟩
  rw[if_neg hc];obtain⟨h1,h2,h3⟩:=MO n (a:=s::a) (b:=b) (by simp;omega) ha t3
  have hx:∀x,Xq (if max s.1 t.1<min s.2 t.2 then[(max s.1 t.1,min s.2 t.2)]else[]) x<->Xq (s::a) x/\(t.1<=x/\x<t.2):=by
   intro x;rw[Xd];by_cases hi:max s.1 t.1<min s.2 t.2
   ·rw[if_pos hi];simp only[Xd,Ym,or_false];constructor
    ·rintro⟨h1,h2⟩;exact⟨.inl ⟨by omega,by omega⟩,⟨by omega,by omega⟩⟩
    rintro⟨h2|h2,h1⟩
    ·exact⟨by omega,by omega⟩
    exact absurd h2 (mem (u:=s) s2 (by omega))
   rw[if_neg hi];simp only[Ym,false_iff];rintro⟨h2|h2,h1⟩
   ·omega
   exact absurd h2 (mem (u:=s) s2 (by omega))
  refine⟨?_,fun x=>?_,?_⟩
  ·by_cases hi:max s.1 t.1<min s.2 t.2
   ·rw[if_pos hi,zzdw];refine cO.2 ⟨hi,fun u hu=>?_,h1⟩;obtain⟨_,⟨w,hw,hwu⟩⟩:=h3 u hu;have:=t2 w hw;show min s.2 t.2<u.1;omega
   rw[if_neg hi];exact h1
  ·rw[Yp,hx,h2,Xd t];constructor
   ·rintro(⟨h1,h2⟩|⟨h1,h2⟩)
    ·exact⟨h1,.inl h2⟩
    exact⟨h1,.inr h2⟩
   rintro⟨h1,h2|h2⟩
   ·exact .inl ⟨h1,h2⟩
   exact .inr ⟨h1,h2⟩
  intro u hu;rcases zzap.1 hu with hu|hu
  ·split at hu
   ·simp at hu;subst hu;exact⟨⟨s,by simp,by show s.1<=max s.1 t.1;omega⟩,⟨t,by simp,by show t.1<=max s.1 t.1;omega⟩⟩
   cases hu
  obtain⟨ha',⟨w,hw,hwu⟩⟩:=h3 u hu;exact⟨ha',⟨w,by simp[hw],hwu⟩⟩
def zy(a b:List Sp):List Sp:=tQ ((Xk a).length+(Xk b).length) (Xk a) (Xk b)
def kT(a b:List Sp):VS (zy a b)/\∀x,Xq (zy a b) x<->Xq a x/\Xq b x:=by
 obtain⟨h1,h2,_⟩:=MO _ (zzab _) (Zw a).1 (Zw b).1;exact⟨h1,fun x=>by rw[zy,h2,(Zw a).2,(Zw b).2]⟩
def C4(f t:Int):List Sp:=if f<t then[(f,t)]else[]
def jI:Int->Int->List Sp->List Sp×List Sp
 |f,t,[]=>(C4 f t,[])
 |f,t,h::r=>if h.1<t then(if t<=max f h.2 then(C4 f h.1,h::r)else(C4 f h.1++(jI (max f h.2) t r).1,(jI (max f h.2) t r).2))else(C4 f t,h::r)
def tT:List Sp->List Sp->List Sp
 |[],_=>[]
 |s::a,hs=>(jI s.1 s.2 hs).1++tT a (jI s.1 s.2 hs).2
def C5(a b:List Sp):List Sp:=tT (Xk a) (Xk b)
def qf(f t:Int):C4 f t=[]<->t<=f:=by unfold C4;split<;>simp<;>omega
def Ik:∀{H:List Sp}{f t:Int},VS H->((jI f t H).1=[]<->∀x,f<=x->x<t->Xq H x)
 |[],f,t,_=>by
  simp only[jI,qf,Ym];constructor
  ·intro h x h1 h2;omega
  intro h;rcases zzfe f t with hf|hf
  ·exact(h f (zzbx _) hf).elim
  exact hf
 |h::r,f,t,hV=>by
  obtain⟨h1,h2,h3⟩:=cO.1 hV
  have mem:∀{x:Int},Xq r x->h.2<x:=by
   rintro x ⟨w,hw,h4,_⟩;have:=h2 w hw;omega
  rw[jI];by_cases hc:h.1<t
  ·rw[if_pos hc];by_cases hd:t<=max f h.2
   ·rw[if_pos hd];simp only[qf,Xd];constructor
    ·intro h5 x h6 h7;exact .inl ⟨by omega,by omega⟩
    intro h5;by_cases hf:f<t
    ·rcases h5 f (zzbx _) hf with h6|h6
     ·exact h6.1
     have:=mem h6;omega
    omega
   rw[if_neg hd];simp only[zzha,qf,Ik h3,Xd];constructor
   ·rintro⟨h5,h6⟩ x h7 h8;by_cases hx:x<h.2
    ·exact .inl ⟨by omega,hx⟩
    exact .inr (h6 x (by omega) h8)
   intro h5;refine⟨?_,fun x h6 h7=>?_⟩
   ·rcases h5 f (zzbx _) (by omega)with h6|h6
    ·exact h6.1
    have:=mem h6;omega
   exact(h5 x (by omega) h7).resolve_left (by omega)
  rw[if_neg hc];simp only[qf,Xd];constructor
  ·intro h5 x h6 h7;omega
  intro h5;rcases zzfe f t with hf|hf
  ·rcases h5 f (zzbx _) hf with h6|h6
   ·omega
   have:=mem h6;omega
  exact hf
def ML{s:Sp}(hs:s.1<s.2)(l:List Sp):C5 [s] l=[]<->∀x,s.1<=x->x<s.2->Xq l x:=by
 rw[C5,abK (l:=[s]) (cO.2 ⟨hs,by simp,rP⟩)];simp only[tT,zzat,Ik (Zw l).1,(Zw l).2]
open Go Go.Abs
def em(s:Sp):Bool:=decide (s.2<=s.1)
def Il(s:Sp):mF s=!em s:=by simp[mF,em,<- decide_not,Int.not_le]
def nN(s:Sp):Pure Tryz.prog aq 249 [.agg [I s.1,I s.2]] (.bool (em s)):=by
 refine Qn ad4 (fun _ _ _=>.junk) (by simp) ?_;simp[ai3,ai4,em]
def BL:Nat->FuncId->List AV->AV:=fun _ _ l=>match l with
 |[.agg [.int _ a,.int _ b]]=>.bool (decide (b<=a))
 |_=>.junk
def pE:List Sp->Nat->Int
 |[],_=> -1
 |s::r,i=>if em s=true then i else pE r (i+1)
def Im:∀{l:List Sp}{i:Nat},pE l i= -1->l.filter mF=l
 |[],_,_=>rfl
 |s::r,i,h=>by
  simp only[pE]at h;split at h
  ·omega
  rename_i hn;have sd:mF s=true:=by rw[Il];simpa using hn
  simp[sd,Im h]
def Io:∀{l:List Sp}{i:Nat},pE l i≠ -1->∃k:Nat,pE l i=((i+k:Nat):Int)/\k<l.length/\(l.take (k+1)).filter mF=l.take k
 |[],_,h=>absurd rfl h
 |s::r,i,h=>by
  simp only[pE]at h |-
  split
  ·rename_i hs;have sd:mF s=false:=by rw[Il,hs];rfl
   exact⟨0,rfl,by simp,by simp[sd]⟩
  rename_i hs;have sd:mF s=true:=by rw[Il];simpa using hs
  rw[if_neg hs]at h;obtain⟨k,h1,h2,h3⟩:=Io h;exact⟨k+1,by rw[h1];congr 1;omega,by simpa using h2,by simp[sd,h3]⟩
def pz(l:List Sp)(hl:l.length<=1000000000):Pure Tryz.prog aq 307 [.sl .ro (l.map Qe),.fn 249 [] []] (I (pE l 0)):=by
 refine Qn aex BL (by simp) ?_;simp[aju,ajv];refine Qi Ce (fun s m=>∃i:Nat,s 8=I i/\i<=l.length/\pE (l.drop i) i=pE l 0/\m=⟨[],[],fun _=>.gone,0⟩) (fun s m=>l.length-(numOf (s 8)).toNat) ?_ ?_
 ·exact⟨0,by simp,by omega,by simp,rfl⟩
 rintro f m ⟨i,h8,hi,hr,rfl⟩;rcases zzaa i l.length with ai|bw
 ·obtain⟨s,hs⟩:=aP ai;have aa:=Zd hs
  have dZ:l.drop i=s::l.drop (i+1):=by
   rw[zzaf ai,(zza.1 hs).2]
  have hw:=bH i (by omega);have ah:(i:Int)<(l.length:Int):=by omega
  have hp:=nN s;rw[dZ]at hr;simp only[pE]at hr;by_cases he:s.2<=s.1
  ·have GY:em s=true:=by simp[em,he]
   rw[GY]at hp;rw[if_pos GY]at hr;simp[h8,ah,aa,Ce,BL,he,<- hr];exact hp
  have GY:em s=false:=by simp[em];omega
  rw[GY]at hp;rw[GY]at hr;simp only[zzbq,if_false]at hr;simp[h8,ah,aa,Ce,BL,he,hw];refine⟨hp,aN,⟨i+1,by simp,by omega,hr⟩,by omega⟩
 have bJ:¬(i:Int)<(l.length:Int):=by omega
 rw[zzan bw]at hr;simp only[pE]at hr;simp[h8,bJ,Ce,<- hr]
def nK(k:Int):Nat->FuncId->List AV->AV:=fun _ f l=>if f=307 then I k else BL 0 0 l
def Li(Y:YT)(l:List Sp)(hl:l.length<=1000000000)(B:List (List AV))(L:List Nat)(st:Nat->LS)(n id:Nat)(aO:id<B.length)(aJ:l≠[])(hB:Qh B id=cC l)(K:AV->AM->Prop)
  (hK:∀(B':List (List AV))(z:List Sp),aZ (·=id) B B'->Qh B' id=cC (l.filter mF++z)->(l.filter mF).length+z.length=l.length->K (.bs id 0 (l.filter mF).length 2) ⟨B',L,st,n⟩):
  an Tryz.prog aq Y 248 [.bs id 0 l.length 2,.fn 249 [] []] ⟨B,L,st,n⟩ K:=by
 have LP:=pz l hl;have fG:=Zk ⟨B,L,st,n⟩ 4 (CT l);have jg:=Qds l;have aI:=Vv l;refine Xe NC (nK (pE l 0)) (by simp) ?_;by_cases hk:pE l 0= -1
 ·have hf:=Im hk;rw[hk]at LP;have:=hK B [] (aZ.refl _ _) (by rw[hf];simpa using hB) (by rw[hf];simp);rw[hf]at this;simp[EG,NB,nK,hk,hB,fG,jg,aI];exact⟨LP,this⟩
 obtain⟨k,cZ,dw,A4⟩:=Io hk;rw[zzbt]at cZ;have D3:¬(k:Int)= -1:=by omega
 have Oe:=bH k (by omega);rw[cZ]at LP;simp[EG,NB,nK,cZ,D3,hB,fG,jg,aI,Oe];refine⟨LP,?_⟩
 refine Qi Cc (fun f m=>∃(i j:Nat)(B':List (List AV))(L':List Sp),f 5=I i/\f 6=I j/\i<j/\j<=l.length/\m=⟨B',L,st,n⟩/\aZ (·=id) B B'/\Qh B' id=cC L'/\L'.length=l.length/\L'.take i=(l.take j).filter mF/\L'.drop j=l.drop j)
  (fun f m=>l.length-(numOf (f 6)).toNat) ?_ ?_
 ·exact⟨k,k+1,B,l,by simp,by simp,by omega,by omega,rfl,aZ.refl _ _,hB,rfl,A4.symm,rfl⟩
 rintro f m ⟨i,j,B',L',h5,h6,fc,hj,rfl,eU,tI,tK,ht,hd⟩;have cE:id<B'.length:=zzbb aO eU.1;have jq:=Vv L';rcases zzaa j l.length with ai|bw
 ·obtain⟨s,hs⟩:=aP ai
  have iG:L'[j]?=some s:=by
   have:=congrArg (fun x=>x[0]?) hd;simpa[hs]using this
  have hg:=uu iG;have nL:(j:Int)<(l.length:Int):=by omega
  have ah:(i:Int)<(l.length:Int):=by omega
  have FF:i<l.length:=by omega
  have w9:=bH j (by omega);have On:=bH i (by omega);have hp:=nN s;have bW:=Oo L' i s (by omega);simp only[setA]at bW;have lI:∀x,Qh (B'++x) id=cC L':=fun x=>by rw[Ql cE,tI]
  have qn:∀x v,(B'++x).set id v=B'.set id v++x:=fun x v=>Yf v cE
  have bA:(l.take (j+1)).filter mF=(l.take j).filter mF++[s].filter mF:=by
   rw[zzar,hs,zzcr];rfl
  have hdj:L'.drop (j+1)=l.drop (j+1):=by
   have:=congrArg (List.drop 1) hd;simpa[zzdp,zzfa]using this
  by_cases he:s.2<=s.1
  ·have GY:em s=true:=by simp[em,he]
   have sd:mF s=false:=by rw[Il,GY];rfl
   rw[GY]at hp;simp[h5,h6,nL,tI,lI,hg,Cc,nK,BL,he,w9];refine⟨hp,aN,⟨i,rfl,j+1,by simp,by omega,by omega,eU.app _,?_⟩,by omega⟩
   ·refine⟨L',rfl,tK,?_,hdj⟩;rw[bA,ht];simp[sd]
  have GY:em s=false:=by simp[em];omega
  have sd:mF s=true:=by rw[Il,GY];rfl
  rw[GY]at hp;simp[h5,h6,nL,ah,tI,lI,qn,hg,Cc,nK,BL,he,w9,On,bW,jq,tK];refine⟨hp,by omega,aN,⟨i+1,by simp,j+1,by simp,by omega,by omega,(eU.set (.inl rfl) _).app _,?_⟩,by omega⟩
  ·refine⟨L'.set i s,by rw[Ql (by simpa using cE),Vn _ cE],by simpa using tK,?_,?_⟩
   ·rw[bA,<- ht,zzar,zzaz (by omega),zzfu (by omega)];simp[sd]
   rw[zzfv (by omega)];exact hdj
 obtain rfl:j=l.length:=by omega
 rw[zzbn]at ht;have gr:(l.filter mF).length=i:=by rw[<- ht,zzaq];omega
 have hjn:¬((l.length:Nat):Int)<(l.length:Int):=by omega
 have bJ:(i:Int)<=(l.length:Int):=by omega
 have ah:(i:Int)<(l.length:Int):=by omega
 have FF:i<l.length:=fc
 have eu:cC L'≠[]:=by
  intro h;have:=congrArg List.length h;rw[jq,tK]at this;simp at this;omega
 have qj:setA (cC L') (i*2) (bG (l.length-i) [I 0,I 0])=cC (l.filter mF++List.replicate (l.length-i) (0,0)):=by
  have e1:L'=L'.take i++L'.drop i:=by simp
  conv=>lhs;rw[e1]
  rw[Qbu,Qbu,<- ht,Rn];have e2:(cC (L'.take i)).length=i*2:=by rw[Vv,zzaq];congr 1;omega
  rw[<- e2];exact oR _ _ _ (by rw[Vv,Vv];simp;omega)
 simp[h5,h6,hjn,tI,ah,bJ,Cc,cE,eu,jq,tK,qj];refine⟨by omega,?_⟩;have:=hK (B'.set id (cC (l.filter mF++List.replicate (l.length-i) (0,0)))) (List.replicate (l.length-i) (0,0)) (eU.set (.inl rfl) _) (Vn _ cE) (by simp;omega);rw[gr]at this;exact this
end Go.Proofs.YtnopaopphmjnmaaGreatDoor
namespace Go.Abs
open Go Go.RowKit
def abM{P:Program}{gl:Nat->AV}{Y:YT}{f:FuncId}(hc:bC P f)(aY:∀(b:Nat)(es:Array MapEntry)(clock:Nat)(w:World),w.heap[b]?=some (.map es clock)->Calls P f #[.map (some b)] w fun e w'=>e=.returned (.map (some w.heap.size))/\w'=w.alloc (.map es clock))
  {m:AM}{id kn:Nat}{kvs:List (List Int×AV)}(hb:m.boxes.getD id []=[.aK kn kvs]){K:AV->AM->Prop}(hK:K (.mp m.boxes.length) {m with boxes:=m.boxes++[[.aK kn kvs]]}):an P gl Y f [.mp id] m K:=by
 refine an.fU hc fun N w0 au γ w vs hm hl hr=>?_
 match vs,hr with
 |[v],hr=>
  obtain⟨aO,hB⟩:=nh hb;obtain⟨b,es,h1,rfl,h3,h4,h5⟩:=hm.iZ (hr.2 0 _ v rfl rfl) hB;refine(aY b es _ w h3).mono fun e w'⟨he,hw⟩=>?_;subst hw;obtain⟨g1,g2⟩:=hm.J9 m.boxes.length (by simp[AM.B]) (x:=.aK kn kvs) (o:=.map es es.size) ⟨rfl,h4,h5⟩;refine⟨_,_,.mp m.boxes.length,{m with boxes:=m.boxes++[[.aK kn kvs]]},he,g1.dD,?_,hl.mono' g1 rfl,.mp (by simp[G.gD]),hK⟩;rw[WR];exact g2
 |[],hr=>exact absurd hr.1 (by simp)
 |_::_::_,hr=>exact absurd hr.1 (by simp)
def PD{P:Program}{t:TypeId}{a b c:Nat}(h:(P.info? t).bind (fun i=>i.zero.map fun z=>(i.size,i.bytes,z.cells.size))=some (a,b,c)):∃i z,P.info? t=some i/\i.zero=some z/\i.size=a/\i.bytes=b/\z.cells.size=c:=by
 cases hi:P.info? t with
 |none=>rw[hi]at h;cases h
 |some i=>
  rw[hi]at h;simp only[zzch]at h;cases hz:i.zero with
  |none=>rw[hz]at h;cases h
  |some z=>
   rw[hz]at h;simp only[zzcs,Option.some.injEq,Prod.mk.injEq]at h;exact⟨i,z,rfl,hz,h.1,h.2.1,h.2.2⟩
def PE{P:Program}{gl:Nat->AV}{Y:YT}{f:FuncId}{t:TypeId}{sz n:Nat}(hc:bC P f)
  (ct:n=0->∀w:World,Calls P f #[.slice none 0 0,.int .i64 (n:Nat)] w fun e w'=>e=.returned (.slice none 0 0)/\w'=w)
  (avt:0<n->∀w:World,Calls P f #[.slice none 0 0,.int .i64 (n:Nat)] w fun e w'=>∃cap cs,e=.returned (.slice (some ⟨w.heap.size,0,none⟩) 0 cap)/\w'=w.drew.alloc (.cells cs t)/\cap*sz<=cs.size)
  {m:AM}{K:AV->AM->Prop}(h0:n=0->K (.sl .nil []) m)(h1:0<n->K (.sl (.own m.lens.length sz) []) {m with lens:=m.lens++[0]}):an P gl Y f [.sl .nil [],.int .i64 (n:Nat)] m K:=by
 refine an.fU hc fun N w0 au γ w vs hm hl hr=>?_
 match vs,hr with
 |[v,u],hr=>
  have hv:v=.slice none 0 0:=by
   have h:=hr.2 0 _ v rfl rfl;cases h with
   |@sl _ _ _ a cap b off gi cv hcap hnil ha hsz hcc Rz aT=>
    have:a=none:=aT;subst this;rw[hnil rfl];rfl
  have hu:u=.int .i64 (n:Nat):=(hr.2 1 _ u rfl rfl).aH;subst hv;subst hu;rcases zzck n with hn|hn
  ·refine(ct hn w).mono fun e w'⟨he,hw⟩=>?_;subst hw;exact⟨_,γ,_,m,he,(Ev.refl _ γ).dD,hm,hl,Ci,h0 hn⟩
  refine(avt hn w).mono fun e w'⟨cap,cs,he,hw,hs⟩=>?_;subst hw;have oI:=hm.ajX;have hL:m.L m.lens.length=none:=by simp[AM.L]
  have eR:γ.own m.lens.length=none:=by
   cases h:γ.own m.lens.length with
   |none=>rfl
   |some b=>obtain⟨_,_,k,hk⟩:=hm.own _ _ h;rw[hL]at hk;cases hk
  have dz:γ.cur m.lens.length=0:=hm.cur0 _ hL;have cA:=oI.2.trans (oI.1.fO (q:=0) (id:=m.lens.length) (n:=0) (by omega) (fun _=>eR) (.cells cs t));refine⟨_,γ.renew m.lens.length w.heap.size 0 0,.sl (.own m.lens.length sz) [],{m with lens:=m.lens++[0]},he,cA.dD,?_,hl.mono' cA rfl,?_,h1 hn⟩
  ·rw[Cs];exact oI.1.renew (by omega) (fun _=>eR) _
  refine .sl (rows:=[]) w.heap.size 0 sz (fun _ _=>undef) (zzcc _) (fun h=>(by cases h)) (fun h=>absurd rfl h) (fun _ h=>by cases h) (fun i j c h=>by simp[Qt]at h) (fun i j c h=>by simp[Qt]at h) ?_;refine⟨rfl,zzcc _,fun _=>.inr ⟨w.heap.size,0,cs,t,rfl,by simp[G.renew],by show(w.heap.push _)[w.heap.size]?=_;simp,by omega,fun o' _ hr=>?_⟩⟩;obtain hr|⟨_,hr⟩:=hr
  ·have:=hm.robd _ _ hr;omega
  omega
 |[],hr=>exact absurd hr.1 (by simp)
 |[_],hr=>exact absurd hr.1 (by simp)
 |_::_::_::_,hr=>exact absurd hr.1 (by simp)
end Go.Abs
namespace Go.Proofs.YtnopaopphmjnmaaGreatDoor
open Go Go.Abs Go.Shelf Go.RowKit Go.Lib
def MP:Go.Shelf.Ren:=⟨fun|5=>198|7=>272|n=>n,fun|23=>93|25=>3|3=>3|4=>4|20=>20|n=>n,fun|n=>n⟩
def ao8:Go.Proofs.SlLaysW.n5 Tryz.prog MP:={
 mixed:=by kernel_rfl,
 f5:=⟨Tryz.f198.name,by decide,Tryz.func198.trans (congrArg some (by kernel_rfl))⟩,
 f7:=Tryz.func272.trans (congrArg some (by kernel_rfl)),
 t4:=Tryz.underlying4,
 a4:=Tryz.isAgg4,
 z4:=Tryz.sizeOf4,
 v4:=Tryz.zeroValue4,
 t20:=Tryz.underlying20,
 a20:=Tryz.isAgg20,
 z20:=Tryz.sizeOf20,
 v20:=Tryz.zeroValue20,
 t23:=Tryz.underlying93,
 a23:=Tryz.isAgg93,
 z23:=Tryz.sizeOf93,
 v23:=Tryz.zeroValue93}
def tu:Go.Shelf.Ren:=⟨fun|4=>277|n=>n,fun|22=>59|25=>3|3=>3|4=>4|9=>9|20=>20|0=>0|n=>n,fun|n=>n⟩
def PF:Go.Proofs.Lays8.n4 Tryz.prog tu:={
 mixed:=by kernel_rfl,
 f4:=⟨Tryz.f277.name,by decide,Tryz.func277.trans (congrArg some (by kernel_rfl))⟩,
 t0:=Tryz.underlying0,
 a0:=Tryz.isAgg0,
 z0:=Tryz.sizeOf0,
 v0:=Tryz.zeroValue0,
 t3:=Tryz.underlying3,
 a3:=Tryz.isAgg3,
 z3:=Tryz.sizeOf3,
 v3:=Tryz.zeroValue3,
 t4:=Tryz.underlying4,
 a4:=Tryz.isAgg4,
 z4:=Tryz.sizeOf4,
 v4:=Tryz.zeroValue4,
 t9:=Tryz.underlying9,
 a9:=Tryz.isAgg9,
 z9:=Tryz.sizeOf9,
 v9:=Tryz.zeroValue9,
 t20:=Tryz.underlying20,
 a20:=Tryz.isAgg20,
 z20:=Tryz.sizeOf20,
 v20:=Tryz.zeroValue20,
 t22:=Tryz.underlying59,
 a22:=Tryz.isAgg59,
 z22:=Tryz.sizeOf59,
 v22:=Tryz.zeroValue59}
def yR:Go.Shelf.Ren:=⟨fun|4=>358|n=>n,fun|22=>126|25=>124|3=>3|4=>4|9=>9|20=>20|0=>0|2=>3|n=>n,fun|n=>n⟩
def abN:Go.Proofs.Lays8.n4 Tryz.prog yR:={
 mixed:=by kernel_rfl,
 f4:=⟨Tryz.f358.name,by decide,Tryz.func358.trans (congrArg some (by kernel_rfl))⟩,
 t0:=Tryz.underlying0,
 a0:=Tryz.isAgg0,
 z0:=Tryz.sizeOf0,
 v0:=Tryz.zeroValue0,
 t3:=Tryz.underlying3,
 a3:=Tryz.isAgg3,
 z3:=Tryz.sizeOf3,
 v3:=Tryz.zeroValue3,
 t4:=Tryz.underlying4,
 a4:=Tryz.isAgg4,
 z4:=Tryz.sizeOf4,
 v4:=Tryz.zeroValue4,
 t9:=Tryz.underlying9,
 a9:=Tryz.isAgg9,
 z9:=Tryz.sizeOf9,
 v9:=Tryz.zeroValue9,
 t20:=Tryz.underlying20,
 a20:=Tryz.isAgg20,
 z20:=Tryz.sizeOf20,
 v20:=Tryz.zeroValue20,
 t22:=Tryz.underlying126,
 a22:=Tryz.isAgg126,
 z22:=Tryz.sizeOf126,
 v22:=Tryz.zeroValue126}
def OK{Y:YT}{m:AM}{id kn:Nat}{kvs:List (List Int×AV)}(hb:m.boxes.getD id []=[.aK kn kvs]){K:AV->AM->Prop}(hK:K (.mp m.boxes.length) {m with boxes:=m.boxes++[[.aK kn kvs]]}):an Tryz.prog aq Y 198 [.mp id] m K:=
 abM ⟨_,Tryz.func198,by kernel_rfl,by kernel_rfl⟩ (fun b es clock w h=>AnyW.maps_Clone ao8 b es clock w h) hb hK
def afW{Y:YT}{m:AM}{n:Nat}(hn:n<=1000000000){K:AV->AM->Prop}(h0:n=0->K (.sl .nil []) m)(h1:0<n->K (.sl (.own m.lens.length 1) []) {m with lens:=m.lens++[0]}):an Tryz.prog aq Y 277 [.sl .nil [],I n] m K:=by
 obtain⟨i0,z,hi0,hz0,NW,dQ,Cn⟩:=PD (P:=Tryz.prog) (t:=3) (a:=1) (b:=8) (c:=1) (by kernel_rfl);refine PE (t:=3) (sz:=1) ⟨_,Tryz.func277,by kernel_rfl,by kernel_rfl⟩ (fun eN w=>?_) (fun hp w=>?_) h0 h1
 ·subst eN;exact Any8.slices_Grow_room PF none 0 0 0 w (zzab _) (by omega) (by omega) (zzab _)
 refine(Any8.slices_Grow_grow PF i0 z hi0 hz0 (by omega) none 0 0 n [] w (zzab _) (by omega) (by rw[dQ];omega) (by omega) (by simp) (fun _=>rfl) (fun a h=>by cases h)).mono fun e w'⟨he,hw⟩=>?_;refine⟨_,_,he,hw,?_⟩;have hg:n<=grownCap w (0+n) 0 3:=by have:=grownCap_ge w (0+n) 0 3;omega
 simp only[zzen,size_zeroCells,Cn];simp;have e1:tu.t 25=3:=rfl;simp only[e1];omega
def afT{Y:YT}{m:AM}{n:Nat}(hn:n<=1000000000){K:AV->AM->Prop}(h0:n=0->K (.sl .nil []) m)(h1:0<n->K (.sl (.own m.lens.length 2) []) {m with lens:=m.lens++[0]}):an Tryz.prog aq Y 358 [.sl .nil [],I n] m K:=by
 obtain⟨i0,z,hi0,hz0,NW,dQ,Cn⟩:=PD (P:=Tryz.prog) (t:=124) (a:=2) (b:=16) (c:=2) (by kernel_rfl);refine PE (t:=124) (sz:=2) ⟨_,Tryz.func358,by kernel_rfl,by kernel_rfl⟩ (fun eN w=>?_) (fun hp w=>?_) h0 h1
 ·subst eN;exact Any8.slices_Grow_room abN none 0 0 0 w (zzab _) (by omega) (by omega) (zzab _)
 refine(Any8.slices_Grow_grow abN i0 z hi0 hz0 (by omega) none 0 0 n [] w (zzab _) (by omega) (by rw[dQ];omega) (by omega) (by simp) (fun _=>rfl) (fun a h=>by cases h)).mono fun e w'⟨he,hw⟩=>?_;refine⟨_,_,he,hw,?_⟩;have hg:n<=grownCap w (0+n) 0 124:=by have:=grownCap_ge w (0+n) 0 124;omega
 simp only[zzen,size_zeroCells,Cn];simp;have e1:yR.t 25=124:=rfl;simp only[e1];omega
end Go.Proofs.YtnopaopphmjnmaaGreatDoor
