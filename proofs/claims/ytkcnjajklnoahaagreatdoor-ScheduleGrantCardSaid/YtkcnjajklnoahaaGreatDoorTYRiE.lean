import Derived.Test.YtkcnjajklnoahaaGreatDoorTYRiB
set_option linter.unusedVariables false
set_option linter.unusedSimpArgs false
set_option maxRecDepth 100000
set_option maxHeartbeats 64000000
namespace Go.Proofs.YtkcnjajklnoahaaGreatDoor
open Go Go.Abs
theorem within6_pure (n lo hi:Int):Pure Tryz.prog gl0 95 [I n,I lo,I hi] (.bool (wi n lo hi)):=by
 refine Ql code95 (fun _ _ _=>.junk) (by simp) ?_
 by_cases h1:lo<=n<;>by_cases h2:n<=hi<;>simp [sc95,rs95,wi,h1,h2]
theorem Qay (c:Cl):Pure Tryz.prog gl0 63 [.agg (Qi c)] (.bool (Xc c)):=by
 have kw:=within6_pure
 refine Ql code63 Qcj (by simp) ?_
 by_cases h1:c.ki=1
 ·simp [sc63,rs63,Qi,Qcj,h1]
  refine ⟨kw _ _ _,fun _=>kw _ _ _,?_⟩
  clear kw
  rcases c with ⟨ki,it,fr,to,re,n,a,b⟩
  simp only at h1
  rw [Bool.eq_iff_iff]
  simp [Xc,Jo,Yi,Zu,Vs,wi,h1]
  omega
 ·by_cases h2:c.ki=2
  ·simp [sc63,rs63,Qi,Qcj,h2]
   refine ⟨kw _ _ _,fun _=>kw _ _ _,?_⟩
   clear kw
   rcases c with ⟨ki,it,fr,to,re,n,a,b⟩
   simp only at h2
   rw [Bool.eq_iff_iff]
   simp [Xc,Jo,Yi,Zu,Vs,wi,h2]
   omega
  ·by_cases h3:c.ki=3
   ·simp [sc63,rs63,Qi,Qcj,h3]
    refine ⟨kw _ _ _,fun _=>kw _ _ _,fun _ _=>kw _ _ _,?_⟩
    clear kw
    rcases c with ⟨ki,it,fr,to,re,n,a,b⟩
    simp only at h3
    rw [Bool.eq_iff_iff]
    simp [Xc,Jo,Yi,Zu,Vs,wi,h3]
    omega
   ·by_cases h4:c.ki=4
    ·simp [sc63,rs63,Qi,Qcj,h4]
     refine ⟨kw _ _ _,fun _=>kw _ _ _,fun _ _=>kw _ _ _,?_⟩
     clear kw
     rcases c with ⟨ki,it,fr,to,re,n,a,b⟩
     simp only at h4
     rw [Bool.eq_iff_iff]
     simp [Xc,Jo,Yi,Zu,Vs,wi,h4]
     omega
    ·by_cases h5:c.ki=5
     ·simp [sc63,rs63,Qi,Qcj,h5]
      refine ⟨kw _ _ _,fun _=>kw _ _ _,kw _ _ _,fun _=>kw _ _ _,fun _ _ _=>kw _ _ _,?_⟩
      clear kw
      rcases c with ⟨ki,it,fr,to,re,n,a,b⟩
      simp only at h5
      rw [Bool.eq_iff_iff]
      simp [Xc,Jo,Yi,Zu,Vs,wi,h5]
      omega
     ·by_cases h6:c.ki=6
      ·simp [sc63,rs63,Qi,Qcj,h6]
       refine ⟨kw _ _ _,fun _=>kw _ _ _,kw _ _ _,fun _=>kw _ _ _,fun _ _ _ _ _=>kw _ _ _,?_⟩
       clear kw
       rcases c with ⟨ki,it,fr,to,re,n,a,b⟩
       simp only at h6
       rw [Bool.eq_iff_iff]
       simp [Xc,Jo,Yi,Zu,Vs,wi,h6]
       omega
      ·have hv:Xc c=false:=by simp [Xc,Yi,h1,h2,h3,h4,h5,h6]
       rw [hv]
       simp [sc63,rs63,Qi,Qcj,h1,h2,h3,h4,h5,h6]
       exact ⟨kw _ _ _,fun _=>kw _ _ _⟩
def has6 (s r:Int):Bool:=if 0<=r/\r < 8 then decide ((s / 2 ^ r.toNat) % 2=1) else false
def InvH (s r:Int) (f:Nat->AV) (mm:AM):Prop:=∃ (i:Nat),f 5=I i/\i<=8/\f 0=I (s / 2 ^ i)/\(∀ j:Nat,j < i->(j:Int)≠r)/\mm=⟨[],[],fun _=>.gone,0⟩
theorem has6_pure (s r:Int) (hs:0<=s/\s < 256):Pure Tryz.prog gl0 129 [I s,I r] (.bool (has6 s r)):=by
 refine Ql code129 (fun _ _ _=>.junk) (by simp) ?_
 simp [sc129]
 refine Qg w129_0 (InvH s r) (fun f _=>8 - (numOf (f 5)).toNat) ?_ ?_
 ·exact ⟨0,by simp,by omega,by simp,fun j h=>by omega,rfl⟩
 ·rintro f mm ⟨i,h5,hi,h0,hne,rfl⟩
  rcases Nat.lt_or_ge i 8 with hlt | hge
  ·have hilt:(i:Int) < 8:=by omega
   have hw:=wrS i (by omega)
   have q0:0<=s / 2 ^ i:=Int.ediv_nonneg hs.1 (Int.le_of_lt (Int.pow_pos (by omega)))
   have q1:s / 2 ^ i<=s:=Int.ediv_le_self _ hs.1
   have q2:s / 2 ^ i / 2=s / 2 ^ (i+1):=by rw [Int.ediv_ediv_of_nonneg (Int.le_of_lt (Int.pow_pos (by omega))),Int.pow_succ]
   by_cases c:(i:Int)=r
   ·have hh:has6 s r=decide ((s / 2 ^ i) % 2=1):=by
     rw [has6,if_pos (by omega),<- c];simp
    have q3:(s / 2 ^ i).tmod 2=(s / 2 ^ i) % 2:=Int.tmod_eq_emod_of_nonneg q0
    rw [hh]
    generalize s / 2 ^ i=v at *
    have c8:r < 8:=by omega
    simp [h5,h0,w129_0,hlt,hilt,c,c8,rs129,q3]
    rw [Bool.eq_iff_iff];simp
   ·have q4:(s / 2 ^ i).tdiv 2=s / 2 ^ (i+1):=by rw [Int.tdiv_eq_ediv_of_nonneg q0,q2]
    have hw2:IntKind.i64.wrap (s / 2 ^ (i+1))=s / 2 ^ (i+1):=by rw [<- q2,Qh]<;>omega
    simp [h5,h0,w129_0,hlt,hilt,c,hw,q4,hw2]
    refine ⟨ag ?_,⟨i+1,by simp,by omega,by simp,?_,rfl⟩,by omega⟩
    ·repeat (first | exact Qb _ _ | refine Qc _ rfl ?_)
    ·intro j hj
     rcases Nat.lt_or_ge j i with h | h
     ·exact hne j h
     ·obtain rfl:j=i:=by omega
      exact c
  ·obtain rfl:i=8:=by omega
   have hh:has6 s r=false:=by
    rw [has6,if_neg]
    rintro ⟨h1,h2⟩
    exact hne r.toNat (by omega) (by omega)
   simp [h5,h0,w129_0,rs129,hh]
def cntK (c:Cl) (k item region:Int):Bool:=decide (c.ki=k)&&(Xc c&&(decide (c.it=item)&&has6 c.re region))
theorem validC_re {c:Cl} (h:Xc c=true):0<=c.re/\c.re < 256:=by
 rcases c with ⟨ki,it,fr,to,re,n,a,b⟩
 simp only [Xc,Bool.and_eq_true,decide_eq_true_eq] at h
 obtain ⟨h1,h2⟩:=h
 unfold Yi at h2
 unfold Jo at h1
 simp only at h1 h2
 split at h2
 ·simp [Zu,wi] at h2;simp only;omega
 ·split at h2
  ·simp [Zu,wi] at h2;simp only;omega
  ·split at h2
   ·simp [Zu,wi] at h2;simp only;omega
   ·split at h2
    ·rename_i k1 k2 k3 k4
     rw [if_neg k1,if_neg (by omega),if_pos k4] at h1
     simp at h1;simp only;omega
    ·split at h2
     ·rename_i k1 k2 k3 k4 k5
      rw [if_neg k1,if_neg (by omega),if_neg k4,if_pos k5] at h1
      simp at h1;simp only;omega
     ·cases h2
def orcC6 (c:Cl) (region:Int):Nat->FuncId->List AV->AV:=fun _ f _=>if f=63 then .bool (Xc c) else .bool (has6 c.re region)
theorem counts_pure (c:Cl) (k item region:Int):Pure Tryz.prog gl0 100 [.agg (Qi c),I k,I item,I region] (.bool (cntK c k item region)):=by
 have k1:=Qay c
 refine Ql code100 (orcC6 c region) (by simp) ?_
 by_cases h1:c.ki=k
 ·cases hv:Xc c with
  | false =>
   rw [hv] at k1
   simp [sc100,rs100,Qi,orcC6,h1,hv,cntK]
   simp only [Qi,h1] at k1
   exact k1
  | true =>
   rw [hv] at k1
   have k2:=has6_pure c.re region (validC_re hv)
   by_cases h2:c.it=item
   ·simp [sc100,rs100,Qi,orcC6,h1,hv,h2,cntK]
    simp only [Qi,h1,h2] at k1
    exact ⟨k1,k2⟩
   ·simp [sc100,rs100,Qi,orcC6,h1,hv,h2,cntK]
    simp only [Qi,h1] at k1
    exact k1
 ·simp [sc100,rs100,Qi,orcC6,h1,cntK]
open Go Go.Abs
def hasB (l:List Sp) (x:Int):Bool:=l.any fun s=>decide (s.1<=x)&&decide (x < s.2)
theorem hasB_iff (l:List Sp) (x:Int):hasB l x=true<->Xm l x:=by
 simp [hasB,Xm]
def InvHs (l:List Sp) (x:Int) (f:Nat->AV) (mm:AM):Prop:=∃ (i:Nat),f 5=I i/\i<=l.length/\hasB (l.drop i) x=hasB l x/\mm=⟨[],[],fun _=>.gone,0⟩
theorem has5_pure (l:List Sp) (x:Int) (hl:l.length<=1000000000):Pure Tryz.prog gl0 131 [.sl .ro (l.map Qe),I x] (.bool (hasB l x)):=by
 refine Ql code131 (fun _ _ _=>.junk) (by simp) ?_
 simp [sc131]
 refine Qg w131_0 (InvHs l x) (fun f _=>l.length - (numOf (f 5)).toNat) ?_ ?_
 ·exact ⟨0,by simp,Nat.zero_le _,rfl,rfl⟩
 ·rintro f mm ⟨i,h5,hi,hh,rfl⟩
  rcases Nat.lt_or_ge i l.length with hlt | hge
  ·obtain ⟨s,hs⟩:=getS hlt
   have hrow:=Xu hs
   have hilt:(i:Int) < (l.length:Int):=by omega
   have hw:=wrS i (by omega)
   rw [Qr hs] at hh
   simp only [hasB,List.any_cons] at hh
   by_cases c1:s.1<=x
   ·by_cases c2:x < s.2
    ·have:hasB l x=true:=by rw [hasB,<- hh];simp [c1,c2]
     rw [this]
     simp [h5,w131_0,hlt,hilt,hrow,c1,c2,rs131]
    ·simp [h5,w131_0,hlt,hilt,hrow,c1,c2,hw]
     refine ⟨ag ?_,⟨i+1,by simp,by omega,by simp only [hasB];rw [<- hh];simp [c2],rfl⟩,by omega⟩
     repeat (first | exact Qb _ _ | refine Qc _ rfl ?_)
   ·simp [h5,w131_0,hlt,hilt,hrow,c1,hw]
    refine ⟨ag ?_,⟨i+1,by simp,by omega,by simp only [hasB];rw [<- hh];simp [c1],rfl⟩,by omega⟩
    repeat (first | exact Qb _ _ | refine Qc _ rfl ?_)
  ·obtain rfl:i=l.length:=by omega
   rw [List.drop_length] at hh
   have:hasB l x=false:=by rw [<- hh];rfl
   rw [this]
   simp [h5,w131_0,rs131]
def InvWs (cs:List Cl) (ra:Int) (f:Nat->AV) (mm:AM):Prop:=∃ (i:Nat) (G:List Sp) (rt:Rt) (Lm:List Nat),f 6=I i/\i<=cs.length/\f 5=.sl rt (G.map Qe)/\G.length<=i/\(G=[]/\rt=.nil\/G≠[]/\∃ k,rt=.own k 2/\Lm[k]? = some G.length)/\G++Vo (cs.drop i) ra=Vo cs ra/\mm=⟨[],Lm,fun _=>.gone,0⟩
def orcWs:Nat->FuncId->List AV->AV:=fun _ f l=>if f=999999 then .junk else (match l with
 | [.agg [.int _ a,.int _ b,.int _ c,.int _ d,.int _ e,.int _ f,.int _ g,.int _ h]]=>.bool (Xc ⟨a,b,c,d,e,f,g,h⟩)
 | _=>.junk)
theorem wshS_cons (c:Cl) (r:List Cl) (ra:Int):Vo (c::r) ra=(if Qce ra c=true then [(c.fr,c.to)] else [])++Vo r ra:=by
 simp only [Vo,List.filter_cons]
 split<;>simp
theorem wsh6_pure0 (cs:List Cl) (ra:Int) (hl:cs.length<=1000000):∃ rt,Pure Tryz.prog gl0 133 [.sl .ro (cs.map Qi),I ra] (.sl rt ((Vo cs ra).map Qe)):=by
 refine ⟨if Vo cs ra=[] then .nil else .ro,Ql code133 orcWs (by simp) ?_⟩
 simp [sc133]
 refine Qg w133_0 (InvWs cs ra) (fun f _=>cs.length - (numOf (f 6)).toNat) ?_ ?_
 ·exact ⟨0,[],.nil,[],by simp,Nat.zero_le _,by simp,by simp,.inl ⟨rfl,rfl⟩,rfl,rfl⟩
 ·rintro f mm ⟨i,G,rt,Lm,h6,hi,h5,hGl,hrt,hI,rfl⟩
  rcases Nat.lt_or_ge i cs.length with hlt | hge
  ·obtain ⟨c,hc⟩:=getS hlt
   have hrow:Qk (cs.map Qi) i=Qi c:=Qv (by simp [hc])
   have hilt:(i:Int) < (cs.length:Int):=by omega
   have hw:=wrS i (by omega)
   have kv:=Qay c
   rw [Qr hc,wshS_cons] at hI
   have hG2:∀ row:List AV,((∃ a b,(a,b)∈G/\Qe (a,b)=row)\/row=[I c.fr,I c.to])->row.length=2:=by
    rintro row (⟨a,b,_,rfl⟩ | rfl)<;>rfl
   by_cases c1:c.ki=6
   ·have hce:(⟨6,c.it,c.fr,c.to,c.re,c.n,c.a,c.b⟩:Cl)=c:=by cases c;simp at c1;subst c1;rfl
    simp only [Qi,c1] at kv
    cases hv:Xc c with
    | false =>
     have hb:Qce ra c=false:=by simp [Qce,hv]
     rw [hb] at hI
     rw [hv] at kv
     simp [h6,h5,w133_0,hlt,hilt,hrow,Qi,c1,orcWs,hce,hv,hw]
     refine ⟨kv,ag ?_,⟨i+1,G,rt,Lm,by simp,by omega,by simp [h5],by omega,hrt,by simpa using hI,rfl⟩,by omega⟩
     repeat (first | exact Qb _ _ | refine Qc _ rfl ?_)
    | true =>
     rw [hv] at kv
     by_cases c2:c.a<=ra
     ·have hb:Qce ra c=true:=by simp [Qce,hv,c1,c2]
      rw [hb] at hI
      rcases hrt with ⟨g1,rfl⟩ | ⟨g1,k,rfl,hk⟩
      ·subst g1
       simp [h6,h5,w133_0,hlt,hilt,hrow,Qi,c1,c2,orcWs,hce,hv,hw]
       refine ⟨kv,ag ?_,⟨i+1,[(c.fr,c.to)],.own Lm.length 2,Lm++[1],by simp,by omega,by simp [Qe],by simp,.inr ⟨by simp,_,rfl,by simp⟩,by simpa using hI,rfl⟩,by omega⟩
       repeat (first | exact Qb _ _ | refine Qc _ rfl ?_)
      ·simp [h6,h5,w133_0,hlt,hilt,hrow,Qi,c1,c2,orcWs,hce,hv,hw,hk]
       refine ⟨kv,⟨hG2,by omega⟩,ag ?_,⟨i+1,G++[(c.fr,c.to)],.own k 2,Lm.set k (G.length+1),by simp,by omega,by simp [Qe],by simp;omega,.inr ⟨by simp,k,rfl,by simp [(List.getElem?_eq_some_iff.1 hk).1]⟩,by simpa using hI,rfl⟩,by omega⟩
       repeat (first | exact Qb _ _ | refine Qc _ rfl ?_)
     ·have hb:Qce ra c=false:=by simp [Qce,c2]
      rw [hb] at hI
      simp [h6,h5,w133_0,hlt,hilt,hrow,Qi,c1,c2,orcWs,hce,hv,hw]
      refine ⟨kv,ag ?_,⟨i+1,G,rt,Lm,by simp,by omega,by simp [h5],by omega,hrt,by simpa using hI,rfl⟩,by omega⟩
      repeat (first | exact Qb _ _ | refine Qc _ rfl ?_)
   ·have hb:Qce ra c=false:=by simp [Qce,c1]
    rw [hb] at hI
    simp [h6,h5,w133_0,hlt,hilt,hrow,Qi,c1,orcWs,hw]
    refine ⟨ag ?_,⟨i+1,G,rt,Lm,by simp,by omega,by simp [h5],by omega,hrt,by simpa using hI,rfl⟩,by omega⟩
    repeat (first | exact Qb _ _ | refine Qc _ rfl ?_)
  ·obtain rfl:i=cs.length:=by omega
   have:Vo [] ra=[]:=rfl
   rw [List.drop_length,this,List.append_nil] at hI
   subst hI
   rcases hrt with ⟨g1,rfl⟩ | ⟨g1,k,rfl,hk⟩
   ·simp [h6,h5,w133_0,rs133,g1]
   ·simp [h6,h5,w133_0,rs133,g1]
theorem wsh6_pure (cs:List Cl) (ra:Int) (hl:cs.length<=1000000):Pure Tryz.prog gl0 133 [.sl .ro (cs.map Qi),I ra] (.sl .ro ((Vo cs ra).map Qe)):=by
 obtain ⟨rt,h⟩:=wsh6_pure0 cs ra hl
 exact Vg h (Wk.sl _ _)
open Go Go.Abs
def Qam (a:Int):List AV:=[I a]
theorem rowN_in {l:List Int} {i:Nat} {s:Int} (h:l[i]? = some s):Qk (l.map Qam) i=[I s]:=Qv (by simp [h,Qam])
def Jb:List Int->Int->List Int
 | [],x=>[x]
 | a::r,x=>if a < x then a::Jb r x else if a=x then a::r else x::a::r
theorem putS_len:∀ (l:List Int) (x:Int),(Jb l x).length<=l.length+1
 | [],x=>by simp [Jb]
 | a::r,x=>by
  have:=putS_len r x
  rw [Jb]
  split
  ·simp;omega
  ·split<;>simp
def InvPu (l:List Int) (x:Int) (f:Nat->AV) (mm:AM):Prop:=∃ (k:Nat),f 5=I k/\k<=l.length/\l.take k++Jb (l.drop k) x=Jb l x/\mm=⟨[],[],fun _=>.gone,0⟩
theorem put_pure0 (l:List Int) (x:Int) (hl:l.length<=1000000):∃ rt,Pure Tryz.prog gl0 158 [.sl .ro (l.map Qam),I x] (.sl rt ((Jb l x).map Qam)):=by
 refine ⟨.ro,Ql code158 (fun _ _ _=>.junk) (by simp) ?_⟩
 simp [sc158]
 refine Qg w158_0 (InvPu l x) (fun f _=>l.length - (numOf (f 5)).toNat) ?_ ?_
 ·exact ⟨0,by simp,Nat.zero_le _,by simp,rfl⟩
 ·rintro f mm ⟨k,h5,hk,hI,rfl⟩
  have hr1:∀ row∈l.map Qam,row.length=1:=by
   intro row h
   obtain ⟨a,_,rfl⟩:=List.mem_map.1 h
   rfl
  have h1a:∀ a∈l,(Qam a).length=1:=fun _ _=>rfl
  have h1t:∀ row∈List.take k (l.map Qam),row.length=1:=fun row h=>hr1 row (List.mem_of_mem_take h)
  have h1d:∀ row∈List.take (l.length - k) (List.drop k (l.map Qam)),row.length=1:=fun row h=>hr1 row (List.mem_of_mem_drop (List.mem_of_mem_take h))
  rcases Nat.lt_or_ge k l.length with hlt | hge
  ·obtain ⟨s,hs⟩:=getS hlt
   have hrow:=rowN_in hs
   have hilt:(k:Int) < (l.length:Int):=by omega
   have hw:=wrS k (by omega)
   have hd:=Qr hs
   rw [hd,Jb] at hI
   by_cases c1:s < x
   ·rw [if_pos c1] at hI
    simp [h5,w158_0,hlt,hilt,hrow,c1,hw]
    refine ⟨ag ?_,⟨k+1,by simp,by omega,by rw [List.take_add_one,hs];simpa using hI,rfl⟩,by omega⟩
    repeat (first | exact Qb _ _ | refine Qc _ rfl ?_)
   ·rw [if_neg c1] at hI
    by_cases c2:s=x
    ·rw [if_pos c2,<- hd,List.take_append_drop] at hI
     rw [<- hI]
     simp [h5,w158_0,hlt,hilt,hrow,c1,c2,rs158]
    ·rw [if_neg c2,<- hd] at hI
     rw [<- hI]
     simp [h5,w158_0,hlt,hilt,hrow,c1,c2,rs158]
     exact ⟨⟨by omega,h1a⟩,⟨h1d,by omega⟩,⟨by omega,h1a⟩,⟨h1t,by omega⟩,⟨by rintro row (h | rfl | h);exact h1t row h;rfl;exact h1d row h,by omega⟩,rfl,List.take_of_length_le (by simp)⟩
  ·obtain rfl:k=l.length:=by omega
   rw [List.drop_length,List.take_length,Jb] at hI
   rw [<- hI]
   simp [h5,w158_0,rs158]
   exact ⟨h1a,⟨fun row h=>hr1 row (List.mem_of_mem_take h),by omega⟩,⟨by rintro row (h | rfl);exact hr1 row (List.mem_of_mem_take h);rfl,by omega⟩,List.take_of_length_le (by simp),rfl⟩
theorem put_pure (l:List Int) (x:Int) (hl:l.length<=1000000):Pure Tryz.prog gl0 158 [.sl .ro (l.map Qam),I x] (.sl .ro ((Jb l x).map Qam)):=by
 obtain ⟨rt,h⟩:=put_pure0 l x hl
 exact Vg h (Wk.sl _ _)
theorem grX_snoc (C:List Cl) (c:Cl) (x:Int):grX (C++[c]) x=if covB x c=true then decide (c.ki=1) else grX C x:=by
 unfold grX
 rw [List.reverse_append]
 simp only [List.reverse_cons,List.reverse_nil,List.nil_append,List.singleton_append,List.find?_cons]
 cases covB x c<;>rfl
def InvGr (C:List Cl) (x:Int) (f:Nat->AV) (mm:AM):Prop:=∃ (n:Nat),f 5=I ((n:Int) - 1)/\n<=C.length/\grX (C.take n) x=grX C x/\mm=⟨[],[],fun _=>.gone,0⟩
theorem granted_pure (C:List Cl) (x:Int) (hl:C.length<=1000000):Pure Tryz.prog gl0 159 [.sl .ro (C.map Qi),I x] (.bool (grX C x)):=by
 refine Ql code159 (fun _ _ _=>.junk) (by simp) ?_
 have hw0:IntKind.i64.wrap ((C.length:Int) - 1)=(C.length:Int) - 1:=by rw [Qh]<;>omega
 simp [sc159,hw0]
 refine Qg w159_0 (InvGr C x) (fun f _=>(numOf (f 5)+1).toNat) ?_ ?_
 ·exact ⟨C.length,by simp,Nat.le_refl _,by simp,rfl⟩
 ·rintro f mm ⟨n,h5,hn,hg,rfl⟩
  cases n with
  | zero =>
   have:grX C x=false:=by rw [<- hg];rfl
   rw [this]
   simp [h5,w159_0,rs159]
  | succ n =>
   obtain ⟨c,hc⟩:∃ c,C[n]? = some c:=⟨_,List.getElem?_eq_getElem (by omega)⟩
   have hrow:Qk (C.map Qi) n=Qi c:=Qv (by simp [hc])
   have h5':f 5=I (n:Int):=by rw [h5];congr 1;omega
   have hnl:n < C.length:=by omega
   have hnl':(n:Int) < (C.length:Int):=by omega
   have hw:IntKind.i64.wrap ((n:Int) - 1)=(n:Int) - 1:=by rw [Qh]<;>omega
   rw [List.take_add_one,hc] at hg
   simp only [Option.toList] at hg
   rw [grX_snoc] at hg
   by_cases c1:c.fr<=x
   ·by_cases c2:x < c.to
    ·rw [if_pos (by simp [covB,c1,c2])] at hg
     rw [<- hg]
     simp [h5',w159_0,hnl,hnl',hrow,Qi,c1,c2,rs159]
     rw [Bool.eq_iff_iff];simp
    ·rw [if_neg (by simp [covB,c2])] at hg
     simp [h5',w159_0,hnl,hnl',hrow,Qi,c1,c2,hw]
     refine ⟨ag ?_,n,by simp,by omega,hg,rfl⟩
     repeat (first | exact Qb _ _ | refine Qc _ rfl ?_)
   ·rw [if_neg (by simp [covB,c1])] at hg
    simp [h5',w159_0,hnl,hnl',hrow,Qi,c1,hw]
    refine ⟨ag ?_,n,by simp,by omega,hg,rfl⟩
    repeat (first | exact Qb _ _ | refine Qc _ rfl ?_)
end Go.Proofs.YtkcnjajklnoahaaGreatDoor
