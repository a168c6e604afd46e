import Derived.Test.YthjppoincojfkaaGreatDoorRASnA
set_option linter.all false
set_option maxRecDepth 100000
set_option maxHeartbeats 64000000
namespace Go.Proofs.YthjppoincojfkaaGreatDoor
abbrev Sp:=Int×Int
def Xv(l:List Sp)(x:Int):Prop:=∃s∈l,s.1<=x/\x<s.2
def VS(l:List Sp):Prop:=(∀s∈l,s.1<s.2)/\l.Pairwise fun a b=>a.2<b.1
@[simp] def Yr(x:Int):Xv [] x<->False:=by simp[Xv]
@[simp] def Xf(s:Sp)(l:List Sp)(x:Int):Xv (s::l) x<->(s.1<=x/\x<s.2)\/Xv l x:=by simp[Xv]
@[simp] def Yv(a b:List Sp)(x:Int):Xv (a++b) x<->Xv a x\/Xv b x:=by
 simp only[Xv,zzam,or_and_right,exists_or]
def RZ{a b:List Sp}(h:a.Perm b)(x:Int):Xv a x<->Xv b x:=by simp only[Xv,h.mem_iff]
def rY:VS []:=⟨fun _ h=>(by cases h),.nil⟩
def cW{s:Sp}{l:List Sp}:VS (s::l)<->s.1<s.2/\(∀t∈l,s.2<t.1)/\VS l:=by
 simp only[VS,zzao,forall_eq_or_imp,zzcb];constructor
 ·rintro⟨⟨h1,h2⟩,h3,h4⟩;exact⟨h1,h3,h2,h4⟩
 rintro⟨h1,h3,h2,h4⟩;exact⟨⟨h1,h2⟩,h3,h4⟩
def D3{s:Sp}{l:List Sp}:VS (l++[s])<->VS l/\s.1<s.2/\∀t∈l,t.2<s.1:=by
 simp only[VS,zzam,zzcq,List.pairwise_append,List.pairwise_singleton,true_and];constructor
 ·rintro⟨h1,h2,h3⟩;exact⟨⟨fun t ht=>h1 t (.inl ht),h2⟩,h1 s (.inr rfl),fun t ht=>h3 t ht s rfl⟩
 rintro⟨⟨h1,h2⟩,h3,h4⟩;refine⟨?_,h2,?_⟩
 ·rintro t (ht|rfl)
  ·exact h1 t ht
  exact h3
 rintro t ht u rfl;exact h4 t ht
def rZ:∀{a b:List Sp},VS a->VS b->(∀x,Xv a x<->Xv b x)->a=b
 |[],[],_,_,_=>rfl
 |[],t::b,_,hb,h=>by
  have:=(h t.1).2 (by rw[Xf];exact .inl ⟨zzbu _,(cW.1 hb).1⟩);simp at this
 |s::a,[],ha,_,h=>by
  have:=(h s.1).1 (by rw[Xf];exact .inl ⟨zzbu _,(cW.1 ha).1⟩);simp at this
 |s::a,t::b,ha,hb,h=>by
  obtain⟨s1,s2,s3⟩:=cW.1 ha;obtain⟨t1,t2,t3⟩:=cW.1 hb
  have key:∀{u v:Sp}{p q:List Sp},u.1<u.2->v.1<v.2->(∀w∈q,v.2<w.1)->(∀x,Xv (u::p) x->Xv (v::q) x)->v.1<=u.1:=by
   intro u v p q h1 mX h2 h3;obtain⟨w,hw,h4,h5⟩:=h3 u.1 (by rw[Xf];exact .inl ⟨zzbu _,h1⟩);rcases zzao.1 hw with rfl|hw
   ·exact h4
   have:=h2 w hw;omega
  have e1:s.1=t.1:=Int.le_antisymm (key t1 s1 s2 fun x hx=>(h x).2 hx) (key s1 t1 t2 fun x hx=>(h x).1 hx)
  have aai:∀{u v:Sp}{p q:List Sp},u.1<u.2->u.1=v.1->(∀w∈p,u.2<w.1)->(∀x,Xv (v::q) x->Xv (u::p) x)->¬u.2<v.2:=by
   intro u v p q h1 h2 h3 h4 h5;obtain⟨w,hw,h6,h7⟩:=h4 u.2 (by rw[Xf];exact .inl ⟨zE,h5⟩);rcases zzao.1 hw with rfl|hw
   ·omega
   have:=h3 w hw;omega
  have e2:s.2=t.2:=by
   have k1:=aai s1 e1 s2 fun x hx=>(h x).2 hx;have k2:=aai t1 e1.symm t2 fun x hx=>(h x).1 hx;omega
  have e:s=t:=Prod.ext e1 e2;subst e;congr 1;refine rZ s3 t3 fun x=>?_
  have out:∀{p:List Sp},(∀w∈p,s.2<w.1)->Xv p x->¬(s.1<=x/\x<s.2):=by
   rintro p hp ⟨w,hw,h1,_⟩ ⟨_,h2⟩;have:=hp w hw;omega
  have hx:=h x;rw[Xf,Xf]at hx;constructor
  ·intro h1;exact(hx.1 (.inr h1)).resolve_left (out s2 h1)
  intro h1;exact(hx.2 (.inr h1)).resolve_left (out t2 h1)
def QH(out:List Sp)(v:Sp):List Sp:=match out.getLast? with
 |none=>[v]
 |some u=>if v.1<=u.2 then out.dropLast++[(u.1,max u.2 v.2)]else out++[v]
def Gh:List Sp->List Sp->List Sp
 |out,[]=>out
 |out,v::r=>Gh (QH out v) r
def ano{out:List Sp}{v:Sp}(ho:VS out)(hv:v.1<v.2)(hl:∀u∈out,u.1<=v.1):
  VS (QH out v)/\(∀x,Xv (QH out v) x<->Xv (out++[v]) x)/\∀u∈QH out v,u.1<=v.1:=by
 unfold QH;cases h:out.getLast? with
 |none=>
  have:out=[]:=List.getLast?_eq_none_iff.1 h;subst this;exact⟨cW.2 ⟨hv,zd,rY⟩,zd,zd⟩
 |some u=>
  obtain⟨p,rfl⟩:∃p,out=p++[u]:=zzey.1 h;obtain⟨h1,h2,h3⟩:=D3.1 ho;have hu:=hl u zd;by_cases hc:v.1<=u.2
  ·simp only[if_pos hc,zzfq];refine⟨D3.2 ⟨h1,?_,h3⟩,fun x=>?_,?_⟩
   ·show u.1<max u.2 v.2;omega
   ·simp only[Yv,Xf,Yr,or_false];constructor
    ·rintro(h|h)
     ·exact .inl (.inl h)
     by_cases hx:x<u.2
     ·exact .inl (.inr ⟨h.1,hx⟩)
     exact .inr ⟨zE,zE⟩
    rintro((h|h)|h)
    ·exact .inl h
    ·exact .inr ⟨h.1,zE⟩
    exact .inr ⟨zE,zE⟩
   intro w hw;rcases zzam.1 hw with hw|hw
   ·exact hl w (by simp[hw])
   simp at hw;subst hw;exact hu
  simp only[if_neg hc];refine⟨D3.2 ⟨ho,hv,fun t ht=>?_⟩,fun x=>by simp only[],?_⟩
  ·rcases zzam.1 ht with ht|ht
   ·have:=h3 t ht;omega
   simp at ht;subst ht;omega
  intro w hw;rcases zzam.1 hw with hw|hw
  ·exact hl w hw
  simp at hw;subst hw;exact zzbu _
def aaT:∀{r out:List Sp},VS out->(∀v∈r,v.1<v.2)->r.Pairwise (fun a b=>a.1<=b.1)->(∀u∈out,∀v∈r,u.1<=v.1)->
  VS (Gh out r)/\∀x,Xv (Gh out r) x<->Xv (out++r) x
 |[],out,h,_,_,_=>⟨h,fun x=>by simp[Gh]⟩
 |v::r,out,h,hn,hp,hl=>by
  obtain⟨h1,h2,h3⟩:=ano h (hn v zd) fun u hu=>hl u hu v zd;obtain⟨p1,p2⟩:=zzcb.1 hp;obtain⟨h4,h5⟩:=aaT (r:=r) h1 (fun w hw=>hn w (by simp[hw])) p2 fun u hu w hw=>zzhk (h3 u hu) (p1 w hw);refine⟨h4,fun x=>?_⟩;rw[Gh,h5,Yv,h2];simp only[Yv,Xf,Yr,or_false,or_assoc]
def mA(s:Sp):Bool:=decide (s.1<s.2)
def Xl(l:List Sp):List Sp:=Gh [] ((l.filter mA).mergeSort fun a b=>decide (a.1<=b.1))
def Mh(l:List Sp)(x:Int):Xv (l.filter mA) x<->Xv l x:=by
 simp only[Xv,zzce,mA,decide_eq_true_eq];constructor
 ·rintro⟨s,⟨h1,_⟩,h2⟩;exact⟨s,h1,h2⟩
 rintro⟨s,h1,h2⟩;exact⟨s,⟨h1,zE⟩,h2⟩
def oq{l d:List Sp}(hp:d.Perm (l.filter mA))(hs:d.Pairwise fun a b=>a.1<=b.1):VS (Gh [] d)/\∀x,Xv (Gh [] d) x<->Xv l x:=by
 obtain⟨h1,h2⟩:=aaT (r:=d) rY (fun v hv=>by have:=hp.mem_iff.1 hv;simp[mA]at this;exact this.2) hs zd;exact⟨h1,fun x=>by rw[h2,zzai,RZ hp,Mh]⟩
def Zy(l:List Sp):VS (Xl l)/\∀x,Xv (Xl l) x<->Xv l x:=by
 refine oq (zzfw _ _) ?_;have:=zzgs (le:=fun a b:Sp=>decide (a.1<=b.1)) (fun a b c h1 h2=>by simp at*;omega) (fun a b=>by simp;omega) (l.filter mA);exact this.imp zd
def al6{l d:List Sp}(hp:d.Perm (l.filter mA))(hs:d.Pairwise fun a b=>a.1<=b.1):Gh [] d=Xl l:=
 rZ (oq hp hs).1 (Zy l).1 fun x=>by rw[(oq hp hs).2,(Zy l).2]
def aaU{l:List Sp}(h:VS l):Xl l=l:=rZ (Zy l).1 h (Zy l).2
def anp{P:Int->Prop}{out:List Sp}{v:Sp}(ho:∀u∈out,P u.1/\P u.2)(hv:P v.1/\P v.2):∀u∈QH out v,P u.1/\P u.2:=by
 unfold QH;cases h:out.getLast? with
 |none=>intro u hu;simp at hu;subst hu;exact hv
 |some w=>
  obtain⟨p,rfl⟩:∃p,out=p++[w]:=zzey.1 h;have hw:=ho w zd;by_cases hc:v.1<=w.2
  ·simp only[if_pos hc,zzfq];intro u hu;rcases zzam.1 hu with hu|hu
   ·exact ho u (by simp[hu])
   simp at hu;subst hu;refine⟨hw.1,?_⟩;show P (max w.2 v.2);rcases Int.le_total w.2 v.2 with h|h
   ·rw[Int.max_eq_right h];exact hv.2
   rw[Int.max_eq_left h];exact hw.2
  simp only[if_neg hc];intro u hu;rcases zzam.1 hu with hu|hu
  ·exact ho u hu
  simp at hu;subst hu;exact hv
def aaV{P:Int->Prop}:∀{r out:List Sp},(∀u∈out,P u.1/\P u.2)->(∀u∈r,P u.1/\P u.2)->∀u∈Gh out r,P u.1/\P u.2
 |[],_,h,_=>h
 |v::r,out,h,hr=>aaV (r:=r) (anp h (hr v zd)) fun u hu=>hr u (by simp[hu])
def YJ{P:Int->Prop}{l:List Sp}(h:∀u∈l,P u.1/\P u.2):∀u∈Xl l,P u.1/\P u.2:=
 aaV zd fun u hu=>h u (by
  have:=(zzfw (l.filter mA) fun a b=>decide (a.1<=b.1)).mem_iff.1 hu;exact(zzce.1 this).1)
def Mi(out:List Sp)(v:Sp):(QH out v).length<=out.length+1:=by
 unfold QH;cases h:out.getLast? with
 |none=>simp
 |some w=>
  have:out≠[]:=by rintro rfl;simp at h
  have:=zzdd.2 this;dsimp only;split<;>simp<;>omega
def y4:∀(r out:List Sp),(Gh out r).length<=out.length+r.length
 |[],out=>by simp[Gh]
 |v::r,out=>by
  have h1:=y4 r (QH out v);have h2:=Mi out v;rw[Gh];simp;omega
def Yy(l:List Sp):(Xl l).length<=l.length:=by
 have h1:=y4 ((l.filter mA).mergeSort fun a b=>decide (a.1<=b.1)) [];have h2:=zzca mA l;rw[zzer]at h1;simp at h1;unfold Xl;omega
def ue:Nat->List Sp->List Sp->List Sp
 |0,_,_=>[]
 |_,[],_=>[]
 |_,_,[]=>[]
 |n+1,s::a,t::b=>
  (if max s.1 t.1<min s.2 t.2 then[(max s.1 t.1,min s.2 t.2)]else[])++(if s.2<t.2 then ue n a (t::b)else ue n (s::a) b)
def Mj:∀(n:Nat){a b:List Sp},a.length+b.length<=n->VS a->VS b->VS (ue n a b)/\(∀x,Xv (ue n a b) x<->Xv a x/\Xv b x)/\
  ∀u∈ue n a b,(∃s∈a,s.1<=u.1)/\∃t∈b,t.1<=u.1
 |0,a,b,h,_,_=>by
  have h1:a=[]:=zzbz.1 zE;subst h1;exact⟨rY,fun x=>by simp[ue],by simp[ue]⟩
 |n+1,[],b,h,_,_=>⟨by simpa[ue]using rY,fun x=>by simp[ue],by simp[ue]⟩
 |n+1,s::a,[],h,_,_=>⟨by simpa[ue]using rY,fun x=>by simp[ue],by simp[ue]⟩
 |n+1,s::a,t::b,h,ha,hb=>by
  obtain⟨s1,s2,s3⟩:=cW.1 ha;obtain⟨t1,t2,t3⟩:=cW.1 hb;simp only[zzbd]at h
  have mem:∀{p:List Sp}{u:Sp}{x:Int},(∀w∈p,u.2<w.1)->x<=u.2->¬Xv p x:=by
   rintro p u x hp hx ⟨w,hw,h1,_⟩;have:=hp w hw;omega
  rw[ue];by_cases hc:s.2<t.2
  ·rw[if_pos hc];obtain⟨h1,h2,h3⟩:=Mj n (a:=a) (b:=t::b) (by simp;omega) s3 hb
   have hx:∀x,Xv (if max s.1 t.1<min s.2 t.2 then[(max s.1 t.1,min s.2 t.2)]else[]) x<->(s.1<=x/\x<s.2)/\Xv (t::b) x:=by
    intro x;rw[Xf];by_cases hi:max s.1 t.1<min s.2 t.2
    ·rw[if_pos hi];simp only[Xf,Yr,or_false];constructor
     ·rintro⟨h1,h2⟩;exact⟨⟨zE,zE⟩,.inl ⟨zE,zE⟩⟩
     rintro⟨h1,h2|h2⟩
     ·exact⟨zE,zE⟩
     exact absurd h2 (mem (u:=t) t2 zE)
    rw[if_neg hi];simp only[Yr,false_iff];rintro⟨h1,h2|h2⟩
    ·omega
    exact absurd h2 (mem (u:=t) t2 zE)
   refine⟨?_,fun x=>?_,?_⟩
   ·by_cases hi:max s.1 t.1<min s.2 t.2
    ·rw[if_pos hi,zzes];refine cW.2 ⟨hi,fun u hu=>?_,h1⟩;obtain⟨⟨w,hw,hwu⟩,_⟩:=h3 u hu;have:=s2 w hw;show min s.2 t.2<u.1;omega
    rw[if_neg hi];exact h1
   ·rw[Yv,hx,h2,Xf s];constructor
    ·rintro(⟨h1,h2⟩|⟨h1,h2⟩)
     ·exact⟨.inl h1,h2⟩
     exact⟨.inr h1,h2⟩
    rintro⟨h1|h1,h2⟩
    ·exact .inl ⟨h1,h2⟩
    exact .inr ⟨h1,h2⟩
   intro u hu;rcases zzam.1 hu with hu|hu
   ·split at hu
    ·simp at hu;subst hu;exact⟨⟨s,zd,by show s.1<=max s.1 t.1;omega⟩,⟨t,zd,by show t.1<=max s.1 t.1;omega⟩⟩
    cases hu
   obtain⟨⟨w,hw,hwu⟩,cN⟩:=h3 u hu;exact⟨⟨w,by simp[hw],hwu⟩,cN⟩
  rw[if_neg hc];obtain⟨h1,h2,h3⟩:=Mj n (a:=s::a) (b:=b) (by simp;omega) ha t3
  have hx:∀x,Xv (if max s.1 t.1<min s.2 t.2 then[(max s.1 t.1,min s.2 t.2)]else[]) x<->Xv (s::a) x/\(t.1<=x/\x<t.2):=by
   intro x;rw[Xf];by_cases hi:max s.1 t.1<min s.2 t.2
   ·rw[if_pos hi];simp only[Xf,Yr,or_false];constructor
    ·rintro⟨h1,h2⟩;exact⟨.inl ⟨zE,zE⟩,⟨zE,zE⟩⟩
    rintro⟨h2|h2,h1⟩
    ·exact⟨zE,zE⟩
    exact absurd h2 (mem (u:=s) s2 zE)
   rw[if_neg hi];simp only[Yr,false_iff];rintro⟨h2|h2,h1⟩
   ·omega
   exact absurd h2 (mem (u:=s) s2 zE)
  refine⟨?_,fun x=>?_,?_⟩
  ·by_cases hi:max s.1 t.1<min s.2 t.2
   ·rw[if_pos hi,zzes];refine cW.2 ⟨hi,fun u hu=>?_,h1⟩;obtain⟨_,⟨w,hw,hwu⟩⟩:=h3 u hu;have:=t2 w hw;show min s.2 t.2<u.1;omega
   rw[if_neg hi];exact h1
  ·rw[Yv,hx,h2,Xf t];constructor
   ·rintro(⟨h1,h2⟩|⟨h1,h2⟩)
    ·exact⟨h1,.inl h2⟩
    exact⟨h1,.inr h2⟩
   rintro⟨h1,h2|h2⟩
   ·exact .inl ⟨h1,h2⟩
   exact .inr ⟨h1,h2⟩
  intro u hu;rcases zzam.1 hu with hu|hu
  ·split at hu
   ·simp at hu;subst hu;exact⟨⟨s,zd,by show s.1<=max s.1 t.1;omega⟩,⟨t,zd,by show t.1<=max s.1 t.1;omega⟩⟩
   cases hu
  obtain⟨ha',⟨w,hw,hwu⟩⟩:=h3 u hu;exact⟨ha',⟨w,by simp[hw],hwu⟩⟩
def zU(a b:List Sp):List Sp:=ue ((Xl a).length+(Xl b).length) (Xl a) (Xl b)
def kR(a b:List Sp):VS (zU a b)/\∀x,Xv (zU a b) x<->Xv a x/\Xv b x:=by
 obtain⟨h1,h2,_⟩:=Mj _ (zzab _) (Zy a).1 (Zy b).1;exact⟨h1,fun x=>by rw[zU,h2,(Zy a).2,(Zy b).2]⟩
def Dh(f t:Int):List Sp:=if f<t then[(f,t)]else[]
def jM:Int->Int->List Sp->List Sp×List Sp
 |f,t,[]=>(Dh f t,[])
 |f,t,h::r=>if h.1<t then(if t<=max f h.2 then(Dh f h.1,h::r)else(Dh f h.1++(jM (max f h.2) t r).1,(jM (max f h.2) t r).2))else(Dh f t,h::r)
def uf:List Sp->List Sp->List Sp
 |[],_=>[]
 |s::a,hs=>(jM s.1 s.2 hs).1++uf a (jM s.1 s.2 hs).2
def Da(a b:List Sp):List Sp:=uf (Xl a) (Xl b)
def qn(f t:Int):Dh f t=[]<->t<=f:=by unfold Dh;split<;>simp<;>omega
def H9:∀{H:List Sp}{f t:Int},VS H->((jM f t H).1=[]<->∀x,f<=x->x<t->Xv H x)
 |[],f,t,_=>by
  simp only[jM,qn,Yr];constructor
  ·intro h x h1 h2;omega
  intro h;rcases zzff f t with hf|hf
  ·exact(h f (zzbu _) hf).elim
  exact hf
 |h::r,f,t,hV=>by
  obtain⟨h1,h2,h3⟩:=cW.1 hV
  have mem:∀{x:Int},Xv r x->h.2<x:=by
   rintro x ⟨w,hw,h4,_⟩;have:=h2 w hw;omega
  rw[jM];by_cases hc:h.1<t
  ·rw[if_pos hc];by_cases hd:t<=max f h.2
   ·rw[if_pos hd];simp only[qn,Xf];constructor
    ·intro h5 x h6 h7;exact .inl ⟨zE,zE⟩
    intro h5;by_cases hf:f<t
    ·rcases h5 f (zzbu _) hf with h6|h6
     ·exact h6.1
     have:=mem h6;omega
    omega
   rw[if_neg hd];simp only[zzgz,qn,H9 h3,Xf];constructor
   ·rintro⟨h5,h6⟩ x h7 h8;by_cases hx:x<h.2
    ·exact .inl ⟨zE,hx⟩
    exact .inr (h6 x zE h8)
   intro h5;refine⟨?_,fun x h6 h7=>?_⟩
   ·rcases h5 f (zzbu _) zE with h6|h6
    ·exact h6.1
    have:=mem h6;omega
   exact(h5 x zE h7).resolve_left zE
  rw[if_neg hc];simp only[qn,Xf];constructor
  ·intro h5 x h6 h7;omega
  intro h5;rcases zzff f t with hf|hf
  ·rcases h5 f (zzbu _) hf with h6|h6
   ·omega
   have:=mem h6;omega
  exact hf
def LZ{s:Sp}(hs:s.1<s.2)(l:List Sp):Da [s] l=[]<->∀x,s.1<=x->x<s.2->Xv l x:=by
 rw[Da,aaU (l:=[s]) (cW.2 ⟨hs,zd,rY⟩)];simp only[uf,zzar,H9 (Zy l).1,(Zy l).2]
open Go Go.Abs
def em(s:Sp):Bool:=decide (s.2<=s.1)
def Ia(s:Sp):mA s=!em s:=by simp[mA,em,<- decide_not,Int.not_le]
def nQ(s:Sp):Pure Tryz.prog aD 185 [.agg [I s.1,I s.2]] (.bool (em s)):=by
 refine Qo acH (fun _ _ _=>.junk) zd ?_;simp[ag8,ag9,em]
def BP:UV:=fun _ _ l=>match l with
 |[.agg [.int _ a,.int _ b]]=>.bool (decide (b<=a))
 |_=>.junk
def pM:List Sp->Nat->Int
 |[],_=> -1
 |s::r,i=>if em s=true then i else pM r (i+1)
def Ib:∀{l:List Sp}{i:Nat},pM l i= -1->l.filter mA=l
 |[],_,_=>rfl
 |s::r,i,h=>by
  simp only[pM]at h;split at h
  ·omega
  rename_i hn;have qt:mA s=true:=by rw[Ia];simpa using hn
  simp[zzee,qt,Ib h]
def Ic:∀{l:List Sp}{i:Nat},pM l i≠ -1->∃k:Nat,pM l i=((i+k:Nat):Int)/\k<l.length/\(l.take (k+1)).filter mA=l.take k
 |[],_,h=>absurd rfl h
 |s::r,i,h=>by
  simp only[pM]at h |-
  split
  ·rename_i hs;have qt:mA s=false:=by rw[Ia,hs];rfl
   exact⟨0,rfl,zd,by simp[zzee,qt]⟩
  rename_i hs;have qt:mA s=true:=by rw[Ia];simpa using hs
  rw[if_neg hs]at h;obtain⟨k,h1,h2,h3⟩:=Ic h;exact⟨k+1,by rw[h1];congr 1;omega,Nm h2,by simp[zzee,qt,h3]⟩
def pL(l:List Sp)(hl:l.length<=1000000000):Pure Tryz.prog aD 231 [.sl .ro (l.map Qe),.fn 185 [] []] (I (pM l 0)):=by
 refine Qo ac9 BP zd ?_;simp[ahy,ahz];refine Qk Ch (fun s m=>∃i:Nat,s 8=I i/\i<=l.length/\pM (l.drop i) i=pM l 0/\m=⟨[],[],fun _=>.gone,0⟩) (fun s m=>l.length-(numOf (s 8)).toNat) ?_ ?_
 ·exact⟨0,zd,zE,zd,rfl⟩
 rintro f m ⟨i,h8,hi,hr,rfl⟩;rcases zzaa i l.length with ai|bn
 ·obtain⟨s,hs⟩:=aV ai;have ah:=Zx hs
  have fu:l.drop i=s::l.drop (i+1):=by
   rw[zzag ai,(zza.1 hs).2]
  have hw:=bO i zE;have aa:(i:Int)<(l.length:Int):=zE
  have hp:=nQ s;rw[fu]at hr;simp only[pM]at hr;by_cases he:s.2<=s.1
  ·have GY:em s=true:=by simp[em,he]
   rw[GY]at hp;rw[if_pos GY]at hr;simp[h8,ai,aa,ah,Ch,BP,he,<- hr];exact hp
  have GY:em s=false:=by simp[em];omega
  rw[GY]at hp;rw[GY]at hr;simp only[zzbh,if_false]at hr;simp[h8,ai,aa,ah,Ch,BP,he,hw];refine⟨hp,aQ,⟨i+1,zd,zE,hr⟩,zE⟩
 have bQ:¬(i:Int)<(l.length:Int):=zE
 rw[zzal bn]at hr;simp only[pM]at hr;simp[h8,bQ,zzbk.2 bn,Ch,<- hr]
def nP(k:Int):UV:=fun _ f l=>if f=231 then I k else BP 0 0 l
def KV(Y:YT)(l:List Sp)(hl:l.length<=1000000000)(B:T5)(L:Pa)(st:Nat->LS)(n id:Nat)(aL:id<B.length)(aO:l≠[])(hB:Qj B id=cG l)(K:So)
  (hK:∀(B':T5)(z:List Sp),bB (·=id) B B'->Qj B' id=cG (l.filter mA++z)->(l.filter mA).length+z.length=l.length->K (.bs id 0 (l.filter mA).length 2) ⟨B',L,st,n⟩):
  aB Tryz.prog aD Y 184 [.bs id 0 l.length 2,.fn 185 [] []] ⟨B,L,st,n⟩ K:=by
 have Lr:=pL l hl;have gF:=Ve ⟨B,L,st,n⟩ 4 (CZ l);have fE:=Qek l;have aH:=Yf l;refine Xn MX (nP (pM l 0)) zd ?_;by_cases hk:pM l 0= -1
 ·have hf:=Ib hk;rw[hk]at Lr;have:=hK B [] (bB.refl _ _) (by rw[hf];simpa using hB) (by rw[hf];simp);rw[hf]at this;simp[Ez,MW,nP,hk,hB,gF,fE,aH];exact⟨Lr,this⟩
 obtain⟨k,dD,ee,Bh⟩:=Ic hk;rw[zzbs]at dD;have D8:¬(k:Int)= -1:=zE
 have P5:=bO k zE;rw[dD]at Lr;simp[Ez,MW,nP,dD,D8,hB,gF,fE,aH,P5];refine⟨Lr,?_⟩
 refine Qk Cf (fun f m=>∃(i j:Nat)(B':T5)(L':List Sp),f 5=I i/\f 6=I j/\i<j/\j<=l.length/\m=⟨B',L,st,n⟩/\bB (·=id) B B'/\Qj B' id=cG L'/\L'.length=l.length/\L'.take i=(l.take j).filter mA/\L'.drop j=l.drop j)
  (fun f m=>l.length-(numOf (f 6)).toNat) ?_ ?_
 ·exact⟨k,k+1,B,l,zd,zd,zE,zE,rfl,bB.refl _ _,hB,rfl,Bh.symm,rfl⟩
 rintro f m ⟨i,j,B',L',h5,h6,eH,hj,rfl,nE,eP,tV,ht,hd⟩;have cK:id<B'.length:=zzay aL nE.1;have jy:=Yf L';rcases zzaa j l.length with ai|bn
 ·obtain⟨s,hs⟩:=aV ai
  have dK:L'[j]?=some s:=by
   have:=congrArg (fun x=>x[0]?) hd;simpa[hs]using this
  have hg:=uH dK;have eE:(j:Int)<(l.length:Int):=zE
  have aa:(i:Int)<(l.length:Int):=zE
  have xb:i<l.length:=zE
  have xI:=bO j zE;have XM:=bO i zE;have hp:=nQ s;have bS:=NM L' i s zE;simp only[setA]at bS;have ic:∀x,Qj (B'++x) id=cG L':=fun x=>by rw[Qn cK,eP]
  have lK:∀x v,(B'++x).set id v=B'.set id v++x:=fun x v=>Ym v cK
  have bA:(l.take (j+1)).filter mA=(l.take j).filter mA++[s].filter mA:=by
   rw[zzax,hs,zzdi];rfl
  have hdj:L'.drop (j+1)=l.drop (j+1):=by
   have:=congrArg (List.drop 1) hd;simpa[zzdw,zzfb]using this
  by_cases he:s.2<=s.1
  ·have GY:em s=true:=by simp[em,he]
   have qt:mA s=false:=by rw[Ia,GY];rfl
   rw[GY]at hp;simp[h5,h6,eE,ai,aa,eP,ic,lK,hg,Cf,nP,BP,he,xI,XM];refine⟨hp,aQ,⟨i,rfl,j+1,zd,zE,zE,nE.app _,?_⟩,zE⟩
   ·refine⟨L',rfl,tV,?_,hdj⟩;rw[bA,ht];simp[qt]
  have GY:em s=false:=by simp[em];omega
  have qt:mA s=true:=by rw[Ia,GY];rfl
  rw[GY]at hp;simp[h5,h6,eE,ai,aa,xb,eP,ic,lK,hg,Cf,nP,BP,he,xI,XM,bS,jy,tV];refine⟨hp,zE,aQ,⟨i+1,zd,j+1,zd,zE,zE,(nE.set (.inl rfl) _).app _,?_⟩,zE⟩
  ·refine⟨L'.set i s,by rw[Qn (Nm cK),Yi _ cK],Nm tV,?_,?_⟩
   ·rw[bA,<- ht,zzax,zzbf zE,zzft zE];simp[qt]
   rw[zzfu zE];exact hdj
 obtain rfl:j=l.length:=zE
 rw[zzbx]at ht;have fM:(l.filter mA).length=i:=by rw[<- ht,zzaq];omega
 have NU:¬((l.length:Nat):Int)<(l.length:Int):=zE
 have bQ:(i:Int)<=(l.length:Int):=zE
 have aa:(i:Int)<(l.length:Int):=zE
 have xb:i<l.length:=eH
 have fJ:cG L'≠[]:=by
  intro h;have:=congrArg List.length h;rw[jy,tV]at this;simp at this;omega
 have qu:setA (cG L') (i*2) (bF (l.length-i) [I 0,I 0])=cG (l.filter mA++List.replicate (l.length-i) (0,0)):=by
  have e1:L'=L'.take i++L'.drop i:=zd
  conv=>lhs;rw[e1]
  rw[Qcj,Qcj,<- ht,P3];have e2:(cG (L'.take i)).length=i*2:=by rw[Yf,zzaq];congr 1;omega
  rw[<- e2];exact o9 _ _ _ (by rw[Yf,Yf];simp;omega)
 simp[h5,h6,NU,eP,aa,xb,bQ,Cf,cK,fJ,jy,tV,qu];refine⟨zE,?_⟩;have:=hK (B'.set id (cG (l.filter mA++List.replicate (l.length-i) (0,0)))) (List.replicate (l.length-i) (0,0)) (nE.set (.inl rfl) _) (Yi _ cK) (by simp;omega);rw[fM]at this;exact this
