import Derived.Test.YthjppoincojfkaaGreatDoorRBSnA
set_option linter.all false
set_option maxRecDepth 100000
set_option maxHeartbeats 64000000
namespace Go.Proofs.YthjppoincojfkaaGreatDoor
abbrev Sp:=Int×Int
def Xv(l:List Sp)(x:Int):Prop:=∃s∈l,s.1<=x/\x<s.2
def VS(l:List Sp):Prop:=(∀s∈l,s.1<s.2)/\l.Pairwise fun a b=>a.2<b.1
@[simp] def Yq(x:Int):Xv [] x<->False:=by simp[Xv]
@[simp] def Xf(s:Sp)(l:List Sp)(x:Int):Xv (s::l) x<->(s.1<=x/\x<s.2)\/Xv l x:=by simp[Xv]
@[simp] def Yr(a b:List Sp)(x:Int):Xv (a++b) x<->Xv a x\/Xv b x:=by
 simp only[Xv,zzam,or_and_right,exists_or]
def RY{a b:List Sp}(h:a.Perm b)(x:Int):Xv a x<->Xv b x:=by simp only[Xv,h.mem_iff]
def rQ:VS []:=⟨fun _ h=>(by cases h),.nil⟩
def cV{s:Sp}{l:List Sp}:VS (s::l)<->s.1<s.2/\(∀t∈l,s.2<t.1)/\VS l:=by
 simp only[VS,zzaq,forall_eq_or_imp,zzcc];constructor
 ·rintro⟨⟨h1,h2⟩,h3,h4⟩;exact⟨h1,h3,h2,h4⟩
 rintro⟨h1,h3,h2,h4⟩;exact⟨⟨h1,h2⟩,h3,h4⟩
def DW{s:Sp}{l:List Sp}:VS (l++[s])<->VS l/\s.1<s.2/\∀t∈l,t.2<s.1:=by
 simp only[VS,zzam,zzcf,List.pairwise_append,List.pairwise_singleton,true_and];constructor
 ·rintro⟨h1,h2,h3⟩;exact⟨⟨fun t ht=>h1 t (.inl ht),h2⟩,h1 s (.inr rfl),fun t ht=>h3 t ht s rfl⟩
 rintro⟨⟨h1,h2⟩,h3,h4⟩;refine⟨?_,h2,?_⟩
 ·rintro t (ht|rfl)
  ·exact h1 t ht
  exact h3
 rintro t ht u rfl;exact h4 t ht
def rR:∀{a b:List Sp},VS a->VS b->(∀x,Xv a x<->Xv b x)->a=b
 |[],[],_,_,_=>rfl
 |[],t::b,_,hb,h=>by
  have:=(h t.1).2 (by rw[Xf];exact .inl ⟨zzbu _,(cV.1 hb).1⟩);simp at this
 |s::a,[],ha,_,h=>by
  have:=(h s.1).1 (by rw[Xf];exact .inl ⟨zzbu _,(cV.1 ha).1⟩);simp at this
 |s::a,t::b,ha,hb,h=>by
  obtain⟨s1,s2,s3⟩:=cV.1 ha;obtain⟨t1,t2,t3⟩:=cV.1 hb
  have key:∀{u v:Sp}{p q:List Sp},u.1<u.2->v.1<v.2->(∀w∈q,v.2<w.1)->(∀x,Xv (u::p) x->Xv (v::q) x)->v.1<=u.1:=by
   intro u v p q h1 mV h2 h3;obtain⟨w,hw,h4,h5⟩:=h3 u.1 (by rw[Xf];exact .inl ⟨zzbu _,h1⟩);rcases zzaq.1 hw with rfl|hw
   ·exact h4
   have:=h2 w hw;omega
  have e1:s.1=t.1:=Int.le_antisymm (key t1 s1 s2 fun x hx=>(h x).2 hx) (key s1 t1 t2 fun x hx=>(h x).1 hx)
  have aaF:∀{u v:Sp}{p q:List Sp},u.1<u.2->u.1=v.1->(∀w∈p,u.2<w.1)->(∀x,Xv (v::q) x->Xv (u::p) x)->¬u.2<v.2:=by
   intro u v p q h1 h2 h3 h4 h5;obtain⟨w,hw,h6,h7⟩:=h4 u.2 (by rw[Xf];exact .inl ⟨zE,h5⟩);rcases zzaq.1 hw with rfl|hw
   ·omega
   have:=h3 w hw;omega
  have e2:s.2=t.2:=by
   have k1:=aaF s1 e1 s2 fun x hx=>(h x).2 hx;have k2:=aaF t1 e1.symm t2 fun x hx=>(h x).1 hx;omega
  have e:s=t:=Prod.ext e1 e2;subst e;congr 1;refine rR s3 t3 fun x=>?_
  have out:∀{p:List Sp},(∀w∈p,s.2<w.1)->Xv p x->¬(s.1<=x/\x<s.2):=by
   rintro p hp ⟨w,hw,h1,_⟩ ⟨_,h2⟩;have:=hp w hw;omega
  have hx:=h x;rw[Xf,Xf]at hx;constructor
  ·intro h1;exact(hx.1 (.inr h1)).resolve_left (out s2 h1)
  intro h1;exact(hx.2 (.inr h1)).resolve_left (out t2 h1)
def QG(out:List Sp)(v:Sp):List Sp:=match out.getLast? with
 |none=>[v]
 |some u=>if v.1<=u.2 then out.dropLast++[(u.1,max u.2 v.2)]else out++[v]
def F7:List Sp->List Sp->List Sp
 |out,[]=>out
 |out,v::r=>F7 (QG out v) r
def anC{out:List Sp}{v:Sp}(ho:VS out)(hv:v.1<v.2)(hl:∀u∈out,u.1<=v.1):
  VS (QG out v)/\(∀x,Xv (QG out v) x<->Xv (out++[v]) x)/\∀u∈QG out v,u.1<=v.1:=by
 unfold QG;cases h:out.getLast? with
 |none=>
  have:out=[]:=List.getLast?_eq_none_iff.1 h;subst this;exact⟨cV.2 ⟨hv,zd,rQ⟩,zd,zd⟩
 |some u=>
  obtain⟨p,rfl⟩:∃p,out=p++[u]:=zzfd.1 h;obtain⟨h1,h2,h3⟩:=DW.1 ho;have hu:=hl u zd;by_cases hc:v.1<=u.2
  ·simp only[if_pos hc,zzfr];refine⟨DW.2 ⟨h1,?_,h3⟩,fun x=>?_,?_⟩
   ·show u.1<max u.2 v.2;omega
   ·simp only[Yr,Xf,Yq,or_false];constructor
    ·rintro(h|h)
     ·exact .inl (.inl h)
     by_cases hx:x<u.2
     ·exact .inl (.inr ⟨h.1,hx⟩)
     exact .inr ⟨zE,zE⟩
    rintro((h|h)|h)
    ·exact .inl h
    ·exact .inr ⟨h.1,zE⟩
    exact .inr ⟨zE,zE⟩
   intro w hw;rcases zzam.1 hw with hw|hw
   ·exact hl w (by simp[hw])
   simp at hw;subst hw;exact hu
  simp only[if_neg hc];refine⟨DW.2 ⟨ho,hv,fun t ht=>?_⟩,fun x=>by simp only[],?_⟩
  ·rcases zzam.1 ht with ht|ht
   ·have:=h3 t ht;omega
   simp at ht;subst ht;omega
  intro w hw;rcases zzam.1 hw with hw|hw
  ·exact hl w hw
  simp at hw;subst hw;exact zzbu _
def aaV:∀{r out:List Sp},VS out->(∀v∈r,v.1<v.2)->r.Pairwise (fun a b=>a.1<=b.1)->(∀u∈out,∀v∈r,u.1<=v.1)->
  VS (F7 out r)/\∀x,Xv (F7 out r) x<->Xv (out++r) x
 |[],out,h,_,_,_=>⟨h,fun x=>by simp[F7]⟩
 |v::r,out,h,hn,hp,hl=>by
  obtain⟨h1,h2,h3⟩:=anC h (hn v zd) fun u hu=>hl u hu v zd;obtain⟨p1,p2⟩:=zzcc.1 hp;obtain⟨h4,h5⟩:=aaV (r:=r) h1 (fun w hw=>hn w (by simp[hw])) p2 fun u hu w hw=>zzhm (h3 u hu) (p1 w hw);refine⟨h4,fun x=>?_⟩;rw[F7,h5,Yr,h2];simp only[Yr,Xf,Yq,or_false,or_assoc]
def mz(s:Sp):Bool:=decide (s.1<s.2)
def Xm(l:List Sp):List Sp:=F7 [] ((l.filter mz).mergeSort fun a b=>decide (a.1<=b.1))
def Mf(l:List Sp)(x:Int):Xv (l.filter mz) x<->Xv l x:=by
 simp only[Xv,zzbz,mz,decide_eq_true_eq];constructor
 ·rintro⟨s,⟨h1,_⟩,h2⟩;exact⟨s,h1,h2⟩
 rintro⟨s,h1,h2⟩;exact⟨s,⟨h1,zE⟩,h2⟩
def og{l d:List Sp}(hp:d.Perm (l.filter mz))(hs:d.Pairwise fun a b=>a.1<=b.1):VS (F7 [] d)/\∀x,Xv (F7 [] d) x<->Xv l x:=by
 obtain⟨h1,h2⟩:=aaV (r:=d) rQ (fun v hv=>by have:=hp.mem_iff.1 hv;simp[mz]at this;exact this.2) hs zd;exact⟨h1,fun x=>by rw[h2,zzai,RY hp,Mf]⟩
def Zw(l:List Sp):VS (Xm l)/\∀x,Xv (Xm l) x<->Xv l x:=by
 refine og (zzfx _ _) ?_;have:=zzgu (le:=fun a b:Sp=>decide (a.1<=b.1)) (fun a b c h1 h2=>by simp at*;omega) (fun a b=>by simp;omega) (l.filter mz);exact this.imp zd
def al5{l d:List Sp}(hp:d.Perm (l.filter mz))(hs:d.Pairwise fun a b=>a.1<=b.1):F7 [] d=Xm l:=
 rR (og hp hs).1 (Zw l).1 fun x=>by rw[(og hp hs).2,(Zw l).2]
def aaW{l:List Sp}(h:VS l):Xm l=l:=rR (Zw l).1 h (Zw l).2
def anD{P:Int->Prop}{out:List Sp}{v:Sp}(ho:∀u∈out,P u.1/\P u.2)(hv:P v.1/\P v.2):∀u∈QG out v,P u.1/\P u.2:=by
 unfold QG;cases h:out.getLast? with
 |none=>intro u hu;simp at hu;subst hu;exact hv
 |some w=>
  obtain⟨p,rfl⟩:∃p,out=p++[w]:=zzfd.1 h;have hw:=ho w zd;by_cases hc:v.1<=w.2
  ·simp only[if_pos hc,zzfr];intro u hu;rcases zzam.1 hu with hu|hu
   ·exact ho u (by simp[hu])
   simp at hu;subst hu;refine⟨hw.1,?_⟩;show P (max w.2 v.2);rcases Int.le_total w.2 v.2 with h|h
   ·rw[Int.max_eq_right h];exact hv.2
   rw[Int.max_eq_left h];exact hw.2
  simp only[if_neg hc];intro u hu;rcases zzam.1 hu with hu|hu
  ·exact ho u hu
  simp at hu;subst hu;exact hv
def aaX{P:Int->Prop}:∀{r out:List Sp},(∀u∈out,P u.1/\P u.2)->(∀u∈r,P u.1/\P u.2)->∀u∈F7 out r,P u.1/\P u.2
 |[],_,h,_=>h
 |v::r,out,h,hr=>aaX (r:=r) (anD h (hr v zd)) fun u hu=>hr u (by simp[hu])
def YF{P:Int->Prop}{l:List Sp}(h:∀u∈l,P u.1/\P u.2):∀u∈Xm l,P u.1/\P u.2:=
 aaX zd fun u hu=>h u (by
  have:=(zzfx (l.filter mz) fun a b=>decide (a.1<=b.1)).mem_iff.1 hu;exact(zzbz.1 this).1)
def Mg(out:List Sp)(v:Sp):(QG out v).length<=out.length+1:=by
 unfold QG;cases h:out.getLast? with
 |none=>simp
 |some w=>
  have:out≠[]:=by rintro rfl;simp at h
  have:=zzdc.2 this;dsimp only;split<;>simp<;>omega
def yT:∀(r out:List Sp),(F7 out r).length<=out.length+r.length
 |[],out=>by simp[F7]
 |v::r,out=>by
  have h1:=yT r (QG out v);have h2:=Mg out v;rw[F7];simp;omega
def Yu(l:List Sp):(Xm l).length<=l.length:=by
 have h1:=yT ((l.filter mz).mergeSort fun a b=>decide (a.1<=b.1)) [];have h2:=zzcb mz l;rw[zzev]at h1;simp at h1;unfold Xm;omega
def tX:Nat->List Sp->List Sp->List Sp
 |0,_,_=>[]
 |_,[],_=>[]
 |_,_,[]=>[]
 |n+1,s::a,t::b=>
  (if max s.1 t.1<min s.2 t.2 then[(max s.1 t.1,min s.2 t.2)]else[])++(if s.2<t.2 then tX n a (t::b)else tX n (s::a) b)
def Mh:∀(n:Nat){a b:List Sp},a.length+b.length<=n->VS a->VS b->VS (tX n a b)/\(∀x,Xv (tX n a b) x<->Xv a x/\Xv b x)/\
  ∀u∈tX n a b,(∃s∈a,s.1<=u.1)/\∃t∈b,t.1<=u.1
 |0,a,b,h,_,_=>by
  have h1:a=[]:=zzc.1 zE;subst h1;exact⟨rQ,fun x=>by simp[tX],by simp[tX]⟩
 |n+1,[],b,h,_,_=>⟨by simpa[tX]using rQ,fun x=>by simp[tX],by simp[tX]⟩
 |n+1,s::a,[],h,_,_=>⟨by simpa[tX]using rQ,fun x=>by simp[tX],by simp[tX]⟩
 |n+1,s::a,t::b,h,ha,hb=>by
  obtain⟨s1,s2,s3⟩:=cV.1 ha;obtain⟨t1,t2,t3⟩:=cV.1 hb;simp only[zzbg]at h
  have mem:∀{p:List Sp}{u:Sp}{x:Int},(∀w∈p,u.2<w.1)->x<=u.2->¬Xv p x:=by
   rintro p u x hp hx ⟨w,hw,h1,_⟩;have:=hp w hw;omega
  rw[tX];by_cases hc:s.2<t.2
  ·rw[if_pos hc];obtain⟨h1,h2,h3⟩:=Mh n (a:=a) (b:=t::b) (by simp;omega) s3 hb
   have hx:∀x,Xv (if max s.1 t.1<min s.2 t.2 then[(max s.1 t.1,min s.2 t.2)]else[]) x<->(s.1<=x/\x<s.2)/\Xv (t::b) x:=by
    intro x;rw[Xf];by_cases hi:max s.1 t.1<min s.2 t.2
    ·rw[if_pos hi];simp only[Xf,Yq,or_false];constructor
     ·rintro⟨h1,h2⟩;exact⟨⟨zE,zE⟩,.inl ⟨zE,zE⟩⟩
     rintro⟨h1,h2|h2⟩
     ·exact⟨zE,zE⟩
     exact absurd h2 (mem (u:=t) t2 zE)
    rw[if_neg hi];simp only[Yq,false_iff];rintro⟨h1,h2|h2⟩
    ·omega
    exact absurd h2 (mem (u:=t) t2 zE)
   refine⟨?_,fun x=>?_,?_⟩
   ·by_cases hi:max s.1 t.1<min s.2 t.2
    ·rw[if_pos hi,zze];refine cV.2 ⟨hi,fun u hu=>?_,h1⟩;obtain⟨⟨w,hw,hwu⟩,_⟩:=h3 u hu;have:=s2 w hw;show min s.2 t.2<u.1;omega
    rw[if_neg hi];exact h1
   ·rw[Yr,hx,h2,Xf s];constructor
    ·rintro(⟨h1,h2⟩|⟨h1,h2⟩)
     ·exact⟨.inl h1,h2⟩
     exact⟨.inr h1,h2⟩
    rintro⟨h1|h1,h2⟩
    ·exact .inl ⟨h1,h2⟩
    exact .inr ⟨h1,h2⟩
   intro u hu;rcases zzam.1 hu with hu|hu
   ·split at hu
    ·simp at hu;subst hu;exact⟨⟨s,zd,by show s.1<=max s.1 t.1;omega⟩,⟨t,zd,by show t.1<=max s.1 t.1;omega⟩⟩
    cases hu
   obtain⟨⟨w,hw,hwu⟩,cM⟩:=h3 u hu;exact⟨⟨w,by simp[hw],hwu⟩,cM⟩
  rw[if_neg hc];obtain⟨h1,h2,h3⟩:=Mh n (a:=s::a) (b:=b) (by simp;omega) ha t3
  have hx:∀x,Xv (if max s.1 t.1<min s.2 t.2 then[(max s.1 t.1,min s.2 t.2)]else[]) x<->Xv (s::a) x/\(t.1<=x/\x<t.2):=by
   intro x;rw[Xf];by_cases hi:max s.1 t.1<min s.2 t.2
   ·rw[if_pos hi];simp only[Xf,Yq,or_false];constructor
    ·rintro⟨h1,h2⟩;exact⟨.inl ⟨zE,zE⟩,⟨zE,zE⟩⟩
    rintro⟨h2|h2,h1⟩
    ·exact⟨zE,zE⟩
    exact absurd h2 (mem (u:=s) s2 zE)
   rw[if_neg hi];simp only[Yq,false_iff];rintro⟨h2|h2,h1⟩
   ·omega
   exact absurd h2 (mem (u:=s) s2 zE)
  refine⟨?_,fun x=>?_,?_⟩
  ·by_cases hi:max s.1 t.1<min s.2 t.2
   ·rw[if_pos hi,zze];refine cV.2 ⟨hi,fun u hu=>?_,h1⟩;obtain⟨_,⟨w,hw,hwu⟩⟩:=h3 u hu;have:=t2 w hw;show min s.2 t.2<u.1;omega
   rw[if_neg hi];exact h1
  ·rw[Yr,hx,h2,Xf t];constructor
   ·rintro(⟨h1,h2⟩|⟨h1,h2⟩)
    ·exact⟨h1,.inl h2⟩
    exact⟨h1,.inr h2⟩
   rintro⟨h1,h2|h2⟩
   ·exact .inl ⟨h1,h2⟩
   exact .inr ⟨h1,h2⟩
  intro u hu;rcases zzam.1 hu with hu|hu
  ·split at hu
   ·simp at hu;subst hu;exact⟨⟨s,zd,by show s.1<=max s.1 t.1;omega⟩,⟨t,zd,by show t.1<=max s.1 t.1;omega⟩⟩
   cases hu
  obtain⟨ha',⟨w,hw,hwu⟩⟩:=h3 u hu;exact⟨ha',⟨w,by simp[hw],hwu⟩⟩
def zM(a b:List Sp):List Sp:=tX ((Xm a).length+(Xm b).length) (Xm a) (Xm b)
def kR(a b:List Sp):VS (zM a b)/\∀x,Xv (zM a b) x<->Xv a x/\Xv b x:=by
 obtain⟨h1,h2,_⟩:=Mh _ (zzab _) (Zw a).1 (Zw b).1;exact⟨h1,fun x=>by rw[zM,h2,(Zw a).2,(Zw b).2]⟩
def Db(f t:Int):List Sp:=if f<t then[(f,t)]else[]
def jL:Int->Int->List Sp->List Sp×List Sp
 |f,t,[]=>(Db f t,[])
 |f,t,h::r=>if h.1<t then(if t<=max f h.2 then(Db f h.1,h::r)else(Db f h.1++(jL (max f h.2) t r).1,(jL (max f h.2) t r).2))else(Db f t,h::r)
def tY:List Sp->List Sp->List Sp
 |[],_=>[]
 |s::a,hs=>(jL s.1 s.2 hs).1++tY a (jL s.1 s.2 hs).2
def Dc(a b:List Sp):List Sp:=tY (Xm a) (Xm b)
def qd(f t:Int):Db f t=[]<->t<=f:=by unfold Db;split<;>simp<;>omega
def HY:∀{H:List Sp}{f t:Int},VS H->((jL f t H).1=[]<->∀x,f<=x->x<t->Xv H x)
 |[],f,t,_=>by
  simp only[jL,qd,Yq];constructor
  ·intro h x h1 h2;omega
  intro h;rcases zzei f t with hf|hf
  ·exact(h f (zzbu _) hf).elim
  exact hf
 |h::r,f,t,hV=>by
  obtain⟨h1,h2,h3⟩:=cV.1 hV
  have mem:∀{x:Int},Xv r x->h.2<x:=by
   rintro x ⟨w,hw,h4,_⟩;have:=h2 w hw;omega
  rw[jL];by_cases hc:h.1<t
  ·rw[if_pos hc];by_cases hd:t<=max f h.2
   ·rw[if_pos hd];simp only[qd,Xf];constructor
    ·intro h5 x h6 h7;exact .inl ⟨zE,zE⟩
    intro h5;by_cases hf:f<t
    ·rcases h5 f (zzbu _) hf with h6|h6
     ·exact h6.1
     have:=mem h6;omega
    omega
   rw[if_neg hd];simp only[zzha,qd,HY h3,Xf];constructor
   ·rintro⟨h5,h6⟩ x h7 h8;by_cases hx:x<h.2
    ·exact .inl ⟨zE,hx⟩
    exact .inr (h6 x zE h8)
   intro h5;refine⟨?_,fun x h6 h7=>?_⟩
   ·rcases h5 f (zzbu _) zE with h6|h6
    ·exact h6.1
    have:=mem h6;omega
   exact(h5 x zE h7).resolve_left zE
  rw[if_neg hc];simp only[qd,Xf];constructor
  ·intro h5 x h6 h7;omega
  intro h5;rcases zzei f t with hf|hf
  ·rcases h5 f (zzbu _) hf with h6|h6
   ·omega
   have:=mem h6;omega
  exact hf
def L7{s:Sp}(hs:s.1<s.2)(l:List Sp):Dc [s] l=[]<->∀x,s.1<=x->x<s.2->Xv l x:=by
 rw[Dc,aaW (l:=[s]) (cV.2 ⟨hs,zd,rQ⟩)];simp only[tY,zzat,HY (Zw l).1,(Zw l).2]
open Go Go.Abs
def em(s:Sp):Bool:=decide (s.2<=s.1)
def HZ(s:Sp):mz s=!em s:=by simp[mz,em,<- decide_not,Int.not_le]
def nN(s:Sp):Pure Tryz.prog aD 185 [.agg [I s.1,I s.2]] (.bool (em s)):=by
 refine Qp acL (fun _ _ _=>.junk) zd ?_;simp[ahc,ahd,em]
def BH:UV:=fun _ _ l=>match l with
 |[.agg [.int _ a,.int _ b]]=>.bool (decide (b<=a))
 |_=>.junk
def pJ:List Sp->Nat->Int
 |[],_=> -1
 |s::r,i=>if em s=true then i else pJ r (i+1)
def H6:∀{l:List Sp}{i:Nat},pJ l i= -1->l.filter mz=l
 |[],_,_=>rfl
 |s::r,i,h=>by
  simp only[pJ]at h;split at h
  ·omega
  rename_i hn;have qi:mz s=true:=by rw[HZ];simpa using hn
  simp[zzeg,qi,H6 h]
def H7:∀{l:List Sp}{i:Nat},pJ l i≠ -1->∃k:Nat,pJ l i=((i+k:Nat):Int)/\k<l.length/\(l.take (k+1)).filter mz=l.take k
 |[],_,h=>absurd rfl h
 |s::r,i,h=>by
  simp only[pJ]at h |-
  split
  ·rename_i hs;have qi:mz s=false:=by rw[HZ,hs];rfl
   exact⟨0,rfl,zd,by simp[zzeg,qi]⟩
  rename_i hs;have qi:mz s=true:=by rw[HZ];simpa using hs
  rw[if_neg hs]at h;obtain⟨k,h1,h2,h3⟩:=H7 h;exact⟨k+1,by rw[h1];congr 1;omega,Nm h2,by simp[zzeg,qi,h3]⟩
def pI(l:List Sp)(hl:l.length<=1000000000):Pure Tryz.prog aD 231 [.sl .ro (l.map Qf),.fn 185 [] []] (I (pJ l 0)):=by
 refine Qp adf BH zd ?_;simp[ahC,ahD];refine Qk Cc (fun s m=>∃i:Nat,s 8=I i/\i<=l.length/\pJ (l.drop i) i=pJ l 0/\m=⟨[],[],fun _=>.gone,0⟩) (fun s m=>l.length-(numOf (s 8)).toNat) ?_ ?_
 ·exact⟨0,zd,zE,zd,rfl⟩
 rintro f m ⟨i,h8,hi,hr,rfl⟩;rcases zzaa i l.length with ai|bn
 ·obtain⟨s,hs⟩:=aV ai;have ah:=Zv hs
  have fk:l.drop i=s::l.drop (i+1):=by
   rw[zzah ai,(zza.1 hs).2]
  have hw:=bO i zE;have aa:(i:Int)<(l.length:Int):=zE
  have hp:=nN s;rw[fk]at hr;simp only[pJ]at hr;by_cases he:s.2<=s.1
  ·have GJ:em s=true:=by simp[em,he]
   rw[GJ]at hp;rw[if_pos GJ]at hr;simp[h8,ai,aa,ah,Cc,BH,he,<- hr];exact hp
  have GJ:em s=false:=by simp[em];omega
  rw[GJ]at hp;rw[GJ]at hr;simp only[zzbh,if_false]at hr;simp[h8,ai,aa,ah,Cc,BH,he,hw];refine⟨hp,aQ,⟨i+1,zd,zE,hr⟩,zE⟩
 have bP:¬(i:Int)<(l.length:Int):=zE
 rw[zzal bn]at hr;simp only[pJ]at hr;simp[h8,bP,zzbk.2 bn,Cc,<- hr]
def nM(k:Int):UV:=fun _ f l=>if f=231 then I k else BH 0 0 l
def KN(Y:YT)(l:List Sp)(hl:l.length<=1000000000)(B:T5)(L:Pa)(st:Nat->LS)(n id:Nat)(aL:id<B.length)(aN:l≠[])(hB:Qj B id=cF l)(K:So)
  (hK:∀(B':T5)(z:List Sp),bB (·=id) B B'->Qj B' id=cF (l.filter mz++z)->(l.filter mz).length+z.length=l.length->K (.bs id 0 (l.filter mz).length 2) ⟨B',L,st,n⟩):
  aB Tryz.prog aD Y 184 [.bs id 0 l.length 2,.fn 185 [] []] ⟨B,L,st,n⟩ K:=by
 have Lh:=pI l hl;have gE:=Va ⟨B,L,st,n⟩ 4 (CW l);have ic:=Qeh l;have aH:=Ye l;refine Xn MW (nM (pJ l 0)) zd ?_;by_cases hk:pJ l 0= -1
 ·have hf:=H6 hk;rw[hk]at Lh;have:=hK B [] (bB.refl _ _) (by rw[hf];simpa using hB) (by rw[hf];simp);rw[hf]at this;simp[Er,MV,nM,hk,hB,gE,ic,aH];exact⟨Lh,this⟩
 obtain⟨k,dB,ef,Bb⟩:=H7 hk;rw[zzbs]at dB;have D2:¬(k:Int)= -1:=zE
 have W4:=bO k zE;rw[dB]at Lh;simp[Er,MV,nM,dB,D2,hB,gE,ic,aH,W4];refine⟨Lh,?_⟩
 refine Qk B9 (fun f m=>∃(i j:Nat)(B':T5)(L':List Sp),f 5=I i/\f 6=I j/\i<j/\j<=l.length/\m=⟨B',L,st,n⟩/\bB (·=id) B B'/\Qj B' id=cF L'/\L'.length=l.length/\L'.take i=(l.take j).filter mz/\L'.drop j=l.drop j)
  (fun f m=>l.length-(numOf (f 6)).toNat) ?_ ?_
 ·exact⟨k,k+1,B,l,zd,zd,zE,zE,rfl,bB.refl _ _,hB,rfl,Bb.symm,rfl⟩
 rintro f m ⟨i,j,B',L',h5,h6,eH,hj,rfl,nB,eP,tP,ht,hd⟩;have cI:id<B'.length:=zzay aL nB.1;have jv:=Ye L';rcases zzaa j l.length with ai|bn
 ·obtain⟨s,hs⟩:=aV ai
  have dK:L'[j]?=some s:=by
   have:=congrArg (fun x=>x[0]?) hd;simpa[hs]using this
  have hg:=uB dK;have eF:(j:Int)<(l.length:Int):=zE
  have aa:(i:Int)<(l.length:Int):=zE
  have wR:i<l.length:=zE
  have rf:=bO j zE;have XO:=bO i zE;have hp:=nN s;have bR:=NN L' i s zE;simp only[setA]at bR;have gY:∀x,Qj (B'++x) id=cF L':=fun x=>by rw[Qn cI,eP]
  have lM:∀x v,(B'++x).set id v=B'.set id v++x:=fun x v=>Yk v cI
  have bA:(l.take (j+1)).filter mz=(l.take j).filter mz++[s].filter mz:=by
   rw[zzax,hs,zzdb];rfl
  have hdj:L'.drop (j+1)=l.drop (j+1):=by
   have:=congrArg (List.drop 1) hd;simpa[zzdw,zzfg]using this
  by_cases he:s.2<=s.1
  ·have GJ:em s=true:=by simp[em,he]
   have qi:mz s=false:=by rw[HZ,GJ];rfl
   rw[GJ]at hp;simp[h5,h6,eF,ai,aa,eP,gY,lM,hg,B9,nM,BH,he,rf,XO];refine⟨hp,aQ,⟨i,rfl,j+1,zd,zE,zE,nB.app _,?_⟩,zE⟩
   ·refine⟨L',rfl,tP,?_,hdj⟩;rw[bA,ht];simp[qi]
  have GJ:em s=false:=by simp[em];omega
  have qi:mz s=true:=by rw[HZ,GJ];rfl
  rw[GJ]at hp;simp[h5,h6,eF,ai,aa,wR,eP,gY,lM,hg,B9,nM,BH,he,rf,XO,bR,jv,tP];refine⟨hp,zE,aQ,⟨i+1,zd,j+1,zd,zE,zE,(nB.set (.inl rfl) _).app _,?_⟩,zE⟩
  ·refine⟨L'.set i s,by rw[Qn (Nm cI),Yg _ cI],Nm tP,?_,?_⟩
   ·rw[bA,<- ht,zzax,zzbf zE,zzfu zE];simp[qi]
   rw[zzfv zE];exact hdj
 obtain rfl:j=l.length:=zE
 rw[zzbw]at ht;have fB:(l.filter mz).length=i:=by rw[<- ht,zzap];omega
 have NV:¬((l.length:Nat):Int)<(l.length:Int):=zE
 have bP:(i:Int)<=(l.length:Int):=zE
 have aa:(i:Int)<(l.length:Int):=zE
 have wR:i<l.length:=eH
 have fI:cF L'≠[]:=by
  intro h;have:=congrArg List.length h;rw[jv,tP]at this;simp at this;omega
 have qj:setA (cF L') (i*2) (bE (l.length-i) [I 0,I 0])=cF (l.filter mz++List.replicate (l.length-i) (0,0)):=by
  have e1:L'=L'.take i++L'.drop i:=zd
  conv=>lhs;rw[e1]
  rw[Qcj,Qcj,<- ht,P6];have e2:(cF (L'.take i)).length=i*2:=by rw[Ye,zzap];congr 1;omega
  rw[<- e2];exact o6 _ _ _ (by rw[Ye,Ye];simp;omega)
 simp[h5,h6,NV,eP,aa,wR,bP,B9,cI,fI,jv,tP,qj];refine⟨zE,?_⟩;have:=hK (B'.set id (cF (l.filter mz++List.replicate (l.length-i) (0,0)))) (List.replicate (l.length-i) (0,0)) (nB.set (.inl rfl) _) (Yg _ cI) (by simp;omega);rw[fB]at this;exact this
