import Derived.Test.YtjmgelbfndnpjaaGreatDoorPPPaA
set_option linter.unusedVariables false
set_option linter.unusedSimpArgs false
set_option maxRecDepth 100000
namespace Go.Proofs.YtjmgelbfndnpjaaGreatDoor.Lw
open Go Go.Abs
def aud (l:List Pic):List (List AV):=(l.filter fun p=>decide (200<=p.power)).map fun p=>[I p.power]
def PowOK (l:List Pic):Prop:=∀ p∈l,0<=p.power/\p.power<=1000000
theorem audible_pure (s:List (List AV)):Pure Tryz.prog gl0 158 [.sl .ro s] (.fn 176 [] [.ep [.sl .ro s] 0]):=by
 refine Qn code158 (fun _ _ _=>.junk) (by simp) ?_
 simp [sc158,rs158]
theorem audible_iter (l:List Pic) (hl:l.length<=1000000000) (hp:PowOK l):Iter Tryz.prog gl0 176 [] [.ep [Uo l] 0] (aud l):=by
 intro Y lp m K hF
 refine Zb code176 (fun _ _ _=>.junk) (by simp) ?_
 simp [sc176,rs176,Uo]
 refine Ql [4,7,8,9,10,11,12,13,14,15,16,17,18,19,20,21,22] (fun s m=>∃ i:Nat,s 7=I i/\i<=l.length/\Fold (Y lp) K (aud (l.drop i)) m) (fun s m=>l.length - (numOf (s 7)).toNat) ?_ ?_
 ·exact ⟨0,by simp,by omega,hF⟩
 ·rintro s m ⟨i,hi,hle,hr⟩
  rcases Nat.lt_or_ge i l.length with hlt | hge
  ·obtain ⟨a,ha⟩:∃ a,l[i]? = some a:=⟨l[i],List.getElem?_eq_getElem hlt⟩
   have hrow:Qf (l.map fun p=>[I p.power]) i=[I a.power]:=Qv (by simp [ha])
   have hw:=wrS i (by omega)
   rw [Qz ha] at hr
   obtain ⟨b1,b2⟩:=hp a (List.mem_of_getElem? ha)
   have m1:¬ a.power < 0:=by omega
   have m2:¬ 1000000 < a.power:=by omega
   by_cases h:200<=a.power
   ·simp [aud,h] at hr
    have h':¬ a.power < 200:=by omega
    simp [hi,hrow,hlt,hw,h,h',m1,m2]
    refine hr m (Ext.refl m) _ (fun m2 h2=>?_) (fun m2 h2=>?_)
    ·simp
     refine ⟨ag ?_,⟨i+1,by simp,by omega,h2⟩,by omega⟩
     repeat (first | exact Qa _ _ | refine Qb _ rfl ?_)
    ·simp
     exact h2 m2 (Ext.refl m2)
   ·have h':a.power < 200:=by omega
    simp [aud,h] at hr
    simp [hi,hrow,hlt,hw,h,h',m1,m2]
    refine ⟨ag ?_,⟨i+1,by simp,by omega,hr⟩,by omega⟩
    repeat (first | exact Qa _ _ | refine Qb _ rfl ?_)
  ·rw [List.drop_eq_nil_of_le hge] at hr
   simp [hi,Nat.not_lt.2 hge]
   exact hr m (Ext.refl m)
def pw (l:List Pic):List Int:=(l.filter fun p=>decide (200<=p.power)).map fun p=>p.power
theorem aud_eq (l:List Pic):aud l=(pw l).map fun x=>[I x]:=by simp [aud,pw]
def Zd (q:List Int):Int:=q.sum.tdiv q.length
def loud (q:List Int):List Int:=q.filter fun x=>decide (Zd q<=10*x)
def meas (q:List Int):Int:=if q=[] then 0 else Zd (loud q)
def bd (q:List Int):Prop:=∀ x∈q,200<=x/\x<=1000000
theorem sum_bd:∀ (q:List Int),bd q->0<=q.sum/\q.sum<=1000000*q.length
 | [],_=>by simp
 | a::r,h=>by
  have:=sum_bd r (fun x hx=>h x (List.mem_cons_of_mem _ hx))
  have h2:=h a (List.mem_cons_self ..)
  simp only [List.sum_cons,List.length_cons]
  omega
theorem sum_lt (M:Int):∀ (q:List Int),(∀ x∈q,x < M)->q.sum+q.length<=M*q.length
 | [],_=>by simp
 | a::r,h=>by
  have:=sum_lt M r (fun x hx=>h x (List.mem_cons_of_mem _ hx))
  have h2:=h a (List.mem_cons_self ..)
  simp only [List.sum_cons,List.length_cons,Int.natCast_add,Int.mul_add]
  omega
theorem loud_ne (q:List Int) (h:bd q) (hq:q≠[]):loud q≠[]:=by
 intro hl
 have hlen:0 < q.length:=List.length_pos_iff.2 hq
 have hall:∀ x∈q,x < Zd q:=by
  intro x hx
  have:¬ Zd q<=10*x:=by
   intro hc
   have:x∈loud q:=by simp [loud,hx,hc]
   rw [hl] at this;cases this
  have:=(h x hx).1
  omega
 have h1:=sum_lt (Zd q) q hall
 have h2:Zd q*q.length<=q.sum:=by
  have h0:=(sum_bd q h).1
  rw [Zd,Int.tdiv_eq_ediv_of_nonneg h0]
  exact Int.ediv_mul_le _ (by omega)
 omega
theorem pw_bd (l:List Pic) (hp:PowOK l):bd (pw l):=by
 intro x hx
 simp [pw] at hx
 obtain ⟨p,⟨h1,h2⟩,rfl⟩:=hx
 exact ⟨h2,(hp p h1).2⟩
theorem pw_len (l:List Pic):(pw l).length<=l.length:=by
 simp [pw];exact List.length_filter_le _ _
theorem measure_pure (l:List Pic) (hl:l.length<=1000000000) (hp:PowOK l):Pure Tryz.prog gl0 125 [Uo l] (I (meas (pw l))):=by
 have hap:=audible_pure (l.map fun p=>[I p.power])
 have hit:=audible_iter l hl hp
 have hbd:=pw_bd l hp
 have hlen:=pw_len l
 rw [aud_eq] at hit
 generalize pw l=q at hit hbd hlen
 simp only [Uo] at hit |-
 refine Qn code125 (fun _ _ _=>.fn 176 [] [.ep [.sl .ro (l.map fun p=>[I p.power])] 0]) (by simp) ?_
 simp [sc125,rs125]
 refine ⟨hap,?_⟩
 refine Ud (xs:=q.map fun x=>[I x]) (by simp) hit (by simp) (fun i m=>∃ bx,m.boxes=[I (q.take i).sum]::[I i]::bx) (fun _ _=>False) ⟨[],by simp⟩ ?_ (fun _ _ _ h=>h.elim) ?_ ?_ (fun _ _ h=>h.elim)
 ·rintro i m m' ⟨bx,h⟩ ⟨⟨b2,h2⟩,_⟩
  exact ⟨bx++b2,by rw [h2,h];simp⟩
 ·rintro lp i m x hg hr ⟨bx,hb⟩ hx K' k1 _ _
  simp at hb
  obtain ⟨y,hy,rfl⟩:∃ y,q[i]? = some y/\[I y]=x:=by
   rw [List.getElem?_map] at hx
   cases hq:q[i]? with
   | none=>rw [hq] at hx;cases hx
   | some y=>rw [hq] at hx;exact ⟨y,rfl,Option.some.inj hx⟩
  have hlt:i < q.length:=(List.getElem?_eq_some_iff.1 hy).1
  have htk:q.take (i+1)=q.take i++[y]:=by rw [List.take_add_one,hy];rfl
  have hsb:=sum_bd (q.take (i+1)) (fun x hx=>hbd x (List.mem_of_mem_take hx))
  have hsb0:=sum_bd (q.take i) (fun x hx=>hbd x (List.mem_of_mem_take hx))
  rw [htk] at hsb
  simp at hsb hsb0
  have w1:IntKind.i64.wrap ((q.take i).sum+y)=(q.take i).sum+y:=by rw [Qe]<;>omega
  have w2:=wrS i (by omega)
  simp [hb,hr,w1,w2,Xh]
  apply k1
  exact ⟨bx,by simp [htk]⟩
 ·rintro m ⟨bx,hb⟩
  simp at hb
  by_cases hne:q=[]
  ·simp [hb,hne,meas]
  simp [hb,hne]
  refine ⟨hap,?_⟩
  have hq0:0 < q.length:=List.length_pos_iff.2 hne
  have hs0:=sum_bd q hbd
  have hm0:0<=Zd q:=Int.tdiv_nonneg hs0.1 (by omega)
  have hm1:Zd q<=1000000:=by
   rw [Zd,Int.tdiv_eq_ediv_of_nonneg hs0.1]
   exact Int.ediv_le_of_le_mul (by omega) (by omega)
  have hwm:IntKind.i64.wrap (q.sum.tdiv q.length)=Zd q:=by
   rw [Qe]
   ·rfl
   ·have:=hm0;simp only [Zd] at this;omega
   ·have:=hm1;simp only [Zd] at this;omega
  rw [hwm]
  refine Ud (xs:=q.map fun x=>[I x]) (by simp) hit (by simp) (fun i m=>∃ rest,m.boxes=[I ((q.take i).filter fun x=>decide (Zd q<=10*x)).sum]::[I ((q.take i).filter fun x=>decide (Zd q<=10*x)).length]::rest/\rest[bx.length]? = some [I (Zd q)]) (fun _ _=>False) ⟨bx++[[I (Zd q)]],by simp⟩ ?_ (fun _ _ _ h=>h.elim) ?_ ?_ (fun _ _ h=>h.elim)
  ·rintro i m m' ⟨rest,h,hr⟩ ⟨⟨b2,h2⟩,_⟩
   exact ⟨rest++b2,by rw [h2,h];simp,by rw [List.getElem?_append_left (List.getElem?_eq_some_iff.1 hr).1];exact hr⟩
  ·rintro lp i m x hg hr ⟨rest,hb,hrest⟩ hx K' k1 _ _
   simp at hb
   obtain ⟨y,hy,rfl⟩:∃ y,q[i]? = some y/\[I y]=x:=by
    rw [List.getElem?_map] at hx
    cases hq:q[i]? with
    | none=>rw [hq] at hx;cases hx
    | some y=>rw [hq] at hx;exact ⟨y,rfl,Option.some.inj hx⟩
   have hlt:i < q.length:=(List.getElem?_eq_some_iff.1 hy).1
   have htk:q.take (i+1)=q.take i++[y]:=by rw [List.take_add_one,hy];rfl
   have hyb:=hbd y (List.mem_of_getElem? hy)
   have hrow:Qf rest bx.length=[I (Zd q)]:=Qv hrest
   have hsb:=sum_bd ((q.take i).filter fun x=>decide (Zd q<=10*x)) (fun x hx=>hbd x (List.mem_of_mem_take (List.mem_filter.1 hx).1))
   have hll:((q.take i).filter fun x=>decide (Zd q<=10*x)).length<=i:=Nat.le_trans (List.length_filter_le _ _) (by simp;omega)
   have w0:IntKind.i64.wrap (10*y)=10*y:=by rw [Qe]<;>omega
   have w1:IntKind.i64.wrap (((q.take i).filter fun x=>decide (Zd q<=10*x)).sum+y)=((q.take i).filter fun x=>decide (Zd q<=10*x)).sum+y:=by rw [Qe]<;>omega
   have w2:IntKind.i64.wrap ((((q.take i).filter fun x=>decide (Zd q<=10*x)).length:Int)+1)=((((q.take i).filter fun x=>decide (Zd q<=10*x)).length+1:Nat):Int):=by rw [Qe]<;>omega
   by_cases hc:Zd q<=10*y
   ·simp [hb,hr,w0,w1,w2,hrow,hc,Xh]
    apply k1
    exact ⟨rest,by simp [htk,List.filter_append,hc],hrest⟩
   ·simp [hb,hr,w0,w1,w2,hrow,hc,Xh]
    apply k1
    exact ⟨rest,by simp [htk,List.filter_append,hc,hb],hrest⟩
  ·rintro m ⟨rest,hb,hrest⟩
   simp at hb
   have hlq:=loud_ne q hbd hne
   have hl0:0 < (loud q).length:=List.length_pos_iff.2 hlq
   have hs1:=sum_bd (loud q) (fun x hx=>hbd x (List.mem_filter.1 hx).1)
   have hw:IntKind.i64.wrap (Zd (loud q))=Zd (loud q):=by
    have h1:0<=Zd (loud q):=Int.tdiv_nonneg hs1.1 (by omega)
    have h2:Zd (loud q)<=1000000:=by
     rw [Zd,Int.tdiv_eq_ediv_of_nonneg hs1.1]
     exact Int.ediv_le_of_le_mul (by omega) (by omega)
    rw [Qe]<;>omega
   have e1:(q.filter fun x=>decide (Zd q<=10*x))=loud q:=rfl
   rw [e1] at hb
   have e2:meas q=Zd (loud q):=by simp [meas,hne]
   have e3:IntKind.i64.wrap ((loud q).sum.tdiv (loud q).length)=Zd (loud q):=hw
   simp [hb,hlq,e2,e3]
end Go.Proofs.YtjmgelbfndnpjaaGreatDoor.Lw
