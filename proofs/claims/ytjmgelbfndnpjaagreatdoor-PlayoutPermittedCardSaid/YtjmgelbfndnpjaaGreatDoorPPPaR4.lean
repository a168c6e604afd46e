import Derived.Test.YtjmgelbfndnpjaaGreatDoorPPPaR2
set_option linter.unusedVariables false
set_option linter.unusedSimpArgs false
set_option maxRecDepth 100000
set_option maxHeartbeats 64000000
namespace Go.Proofs.YtjmgelbfndnpjaaGreatDoor.Lw
open Go Go.Abs
theorem offers_al (f:Int) (l:List Ev2) (hs:∀ e∈l,Zw e):∀ o,offers f l=some o->o.al.length<=8796093022208:=by
 have gen:∀ (l:List Ev2) (b:Option Opt),(∀ e∈l,Zw e)->(∀ o,b=some o->o.al.length<=8796093022208)->∀ o,l.foldl (offE f) b=some o->o.al.length<=8796093022208:=by
  intro l
  induction l with
  | nil=>intro b _ hb o h;exact hb o h
  | cons e r ih =>
   intro b hs hb o h
   refine ih (offE f b e) (fun x hx=>hs x (by simp [hx])) (fun o' h'=>?_) o h
   have he:=(hs e (by simp)).2.2.2
   unfold offE at h'
   split at h'
   ·cases b with
    | none=>simp only [offS,Option.some.injEq] at h';subst h';exact he
    | some p =>
     simp only [offS] at h'
     split at h'
     ·simp only [Option.some.injEq] at h';subst h';exact he
     ·simp only [Option.some.injEq] at h';subst h';exact hb p rfl
   ·exact hb o' h'
 exact gen l none hs (fun _ h=>by cases h)
theorem second30 (l:List Ev2) (f:Int) (hl:l.length<=1000000000) (hs:∀ e∈l,Zw e) (m:AM) (rest:List (List AV)) (hm:m.boxes=[I f]::zrow::rest) (E:List (Nat×AV)) (h0:Abs.look E 0=.sl .ro (l.map Qj)) (h3:Abs.look E 3=.ptr 0 0) (h4:Abs.look E 4=.ptr 1 0) (Q:Exit->AS->Prop) (hQ:∀ s,Q .ret s=post Tryz.prog gl0 (Jg l f) rs30 (.agg (Qw ((offers f (plc l)).getD zO))) .ret s) :
  vc Tryz.prog gl0 (Jg l f) Y0 tl30 ⟨Vd 48 E,m⟩ Q:=by
 have ho:=optionals_pure (l.map Qj)
 have hsm:∀ e∈plc l,Zw e/\1<=e.fr:=fun e h=>⟨hs e (plc_mem h).1,(plc_mem h).2⟩
 obtain ⟨mb,mlens,mst,mln⟩:=m
 simp only at hm
 subst hm
 simp [tl30,h0,h3,h4,Jg]
 refine ⟨ho,vc_rf (f:=115) (first:=[]) (cap:=[.ep [.sl .ro (l.map Qj)] 0]) (by simp) ?_⟩
 rintro l1 rfl hg1
 simp only at hg1
 have hpre:([I f]::zrow::rest).length=rest.length+2:=rfl
 refine opt62 l f hl hs _ _ l1 _ (fun i m=>m.st l1=.ready/\∃ rest',m.boxes=([I f]::zrow::rest)++(Vh (offers f ((plc l).take i))::[.bool (offers f ((plc l).take i)).isSome]::[.fn 75 [] [.ptr (rest.length+3) 0,.ptr (rest.length+2) 0]]::[.yld l1]::rest')) ?_ ?_ ?_ ?_ ?_ ?_ ?_
 ·exact ⟨by simp [AM.begin_],[],by simp [AM.begin_,offers,Vh]⟩
 ·rintro i m ⟨h1,rest',h2⟩
  refine ⟨?_,h1⟩
  rw [h2]
  simp [AM.begin_]
 ·rintro i m m' ⟨h1,rest',h2⟩ ⟨⟨b2,e2⟩,_,e3⟩
  exact ⟨by rw [e3 l1 (by rw [h1];simp),h1],rest'++b2,by rw [e2,h2];simp⟩
 ·rintro i m l2 x ⟨h1,h2⟩ hne
  exact ⟨by simp [upd,Ne.symm hne,h1],h2⟩
 ·rintro i e m hy hv ⟨h1,rest',h2⟩ K' hK
  have htk:(plc l).take (i+1)=(plc l).take i++[e]:=by rw [List.take_add_one,hy];rfl
  obtain ⟨hsme,hfr⟩:=hsm e (List.mem_of_getElem? hy)
  have hfo:=follows_pure e f hsme
  generalize hbb:offers f ((plc l).take i)=b at h2
  have hnb:offers f ((plc l).take (i+1))=offE f b e:=by rw [htk,<- hbb];simp [offers,List.foldl_append]
  simp only [Yin,if_true]
  refine ⟨h1,rfl,?_⟩
  rw [hnb] at hK
  clear hbb hnb htk ho
  obtain ⟨mb,mlens,mst,mln⟩:=m
  simp only at h2 h1
  subst h2
  simp only [Qj] at hfo
  by_cases hi:e.i=0
  ·cases hf':folB f e with
   | true =>
    have hf2:f < e.st/\e.st - 20<=f:=by simpa [folB] using hf'
    rw [hf'] at hfo
    simp only [offE,hv,hi,hf',and_self,if_true] at hK
    simp [Xh,Qj,Qw,Jz,Jg,h1,h3,hi,hf2]
    have hoe:Jz e=⟨e.st,e.fr,e.al⟩:=by simp [Jz,hi]
    rw [hoe] at hK
    rw [hi] at hfo
    refine ⟨hfo,offer_eff Y0 ⟨e.st,e.fr,e.al⟩ b _ ([I f]::zrow::rest) _ rfl _ ?_⟩
    exact hK _ ⟨by simp,rest'++[[I e.id,I e.it,I e.st,I e.fr,I 0,I e.re,.sl .ro (e.al.map Qd),I e.st,I e.fr,.sl .ro (e.al.map Qd)],Qw ⟨e.st,e.fr,e.al⟩],by simp [Qw]⟩
   | false =>
    have hf2:¬ (f < e.st/\e.st - 20<=f):=by simpa [folB] using hf'
    rw [hf'] at hfo
    simp only [offE,hv,hi,hf',and_self,and_false,Bool.false_eq_true,if_false] at hK
    have hd:(decide (f < e.st)&&decide (e.st - 20<=f))=false:=by simpa using hf2
    rw [hi] at hfo
    simp [Xh,Qj,Qw,Jz,Jg,h1,h3,hi,hf2,hd]
    refine ⟨hfo,?_⟩
    exact hK _ ⟨by simp,rest'++[[I e.id,I e.it,I e.st,I e.fr,I 0,I e.re,.sl .ro (e.al.map Qd),I e.st,I e.fr,.sl .ro (e.al.map Qd)]],by simp [Qw]⟩
  ·simp only [offE,hi,and_false,false_and,if_false] at hK
   simp [Xh,Qj,Qw,Jz,Jg,h1,h3,hi]
   exact hK _ ⟨by simp,rest'++[[I e.id,I e.it,I e.st,I e.fr,I e.i,I e.re,.sl .ro (e.al.map Qd),I (e.st - e.i),I (e.fr+e.i),.sl .ro (e.al.map Qd)]],by simp [Qw]⟩
 ·rintro i e m hy hv ⟨h1,rest',h2⟩
  have htk:(plc l).take (i+1)=(plc l).take i++[e]:=by rw [List.take_add_one,hy];rfl
  refine ⟨h1,rest',?_⟩
  rw [h2,htk]
  have:offers f ((plc l).take i++[e])=offers f ((plc l).take i):=by simp [offers,List.foldl_append,offE,hv]
  rw [this]
 ·rintro m ⟨h1,rest',h2⟩
  rw [List.take_length] at h2
  have how:=ownZ_pure (offers f (plc l)) (offers_al f _ fun e he=>(hsm e he).1)
  simp only [h1,Qend]
  obtain ⟨mb,mlens,mst,mln⟩:=m
  simp only at h2
  subst h2
  generalize offers f (plc l)=w at how hQ |-
  cases w with
  | none =>
   simp only [Qw,Vh,Option.getD_none,zO,List.map_nil] at how hQ
   simp [Qw,Vh,Jg,h4,zrow,rs30,hQ,zO]
   exact how
  | some w =>
   simp only [Qw,Vh,Option.getD_some] at how hQ
   simp [Qw,Vh,Jg,h4,zrow,rs30,hQ]
   exact how
end Go.Proofs.YtjmgelbfndnpjaaGreatDoor.Lw
namespace Go.Proofs.YtjmgelbfndnpjaaGreatDoor.Lw
open Go Go.Abs
theorem find_take {q:List Ev2} {p:Ev2->Bool} {i:Nat} {e:Ev2} (h:∀ x∈q.take i,p x=false) (hy:q[i]? = some e) (he:p e=true):q.find? p=some e:=by
 have hlt:=(List.getElem?_eq_some_iff.1 hy).1
 have hsp:q=q.take i++e::q.drop (i+1):=by
  have:=List.take_append_drop i q
  rw [Qz hy] at this
  exact this.symm
 rw [hsp,List.find?_append]
 have hn:(q.take i).find? p=none:=List.find?_eq_none.2 fun x hx=>by simp [h x hx]
 rw [hn]
 simp [he]
theorem next30_pure (l:List Ev2) (f:Int) (hl:l.length<=1000000000) (hs:∀ e∈l,Zw e):Pure Tryz.prog gl0 30 [.sl .ro (l.map Qj),I f] (.agg (Qw (nextS f l))):=by
 have he:=oevents_pure (l.map Qj)
 have hit:=oevents_iter l hl hs
 have hsm:∀ e∈plc l,Zw e/\1<=e.fr:=fun e h=>⟨hs e (plc_mem h).1,(plc_mem h).2⟩
 refine Qn code30 (Jg l f) (by simp) ?_
 rw [sc30_eq]
 simp [hd30,Jg]
 refine ⟨he,?_⟩
 refine Ud (xs:=(plc l).map fun e=>[.agg (Qj e)]) (by simp) hit (by intro x hx;simp at hx;obtain ⟨a,_,rfl⟩:=hx;rfl)
  (fun i m=>(∃ rest,m.boxes=[I f]::zrow::rest)/\∀ x∈(plc l).take i,Uf f x=false)
  (fun ex m=>∃ e rest,(plc l).find? (Uf f)=some e/\((ex=.ret/\Kr e=true/\m.boxes=[I f]::Qw (Jz e)::rest)\/(ex=.exit 0/\Kr e=false/\m.boxes=[I f]::zrow::rest))) ?_ ?_ ?_ ?_ ?_ ?_
 ·exact ⟨⟨[],by simp [zrow]⟩,by simp⟩
 ·rintro i m m' ⟨⟨rest,h2⟩,h3⟩ ⟨⟨b2,e2⟩,_,_⟩
  exact ⟨⟨rest++b2,by rw [e2,h2];simp⟩,h3⟩
 ·rintro ex m m' ⟨e,rest,h1,h2⟩ ⟨⟨b2,e2⟩,_,_⟩
  refine ⟨e,rest++b2,h1,?_⟩
  rcases h2 with ⟨a1,a2,a3⟩ | ⟨a1,a2,a3⟩
  ·exact .inl ⟨a1,a2,by rw [e2,a3];simp⟩
  ·exact .inr ⟨a1,a2,by rw [e2,a3];simp⟩
 ·rintro l1 i m x hg hr ⟨⟨rest,hb⟩,hno⟩ hx K' k1 k2 k3
  obtain ⟨e,hy,rfl⟩:∃ e,(plc l)[i]? = some e/\[.agg (Qj e)]=x:=by
   rw [List.getElem?_map] at hx
   cases hq:(plc l)[i]? with
   | none=>rw [hq] at hx;cases hx
   | some y=>rw [hq] at hx;exact ⟨y,rfl,Option.some.inj hx⟩
  have htk:(plc l).take (i+1)=(plc l).take i++[e]:=by rw [List.take_add_one,hy];rfl
  obtain ⟨hsme,hfr⟩:=hsm e (List.mem_of_getElem? hy)
  have hru:=runs_pure e f hsme
  have hop:=opt_pure e hsme hfr
  have how:=own_pure (Jz e) hsme.2.2.2
  have hve:valO ⟨e.st - e.i,e.fr+e.i,e.al⟩=Kr e:=rfl
  rw [Vw] at hb
  obtain ⟨mb,mlens,mst,mln⟩:=m
  simp only at hb hr
  subst hb
  simp only [Qj,Qw,Jz] at hru hop how
  cases hon:Uf f e with
  | false =>
   have h2:(decide (e.st<=f)&&decide (f < e.st+e.fr))=false:=by simpa [Uf] using hon
   have h2':¬ (e.st<=f/\f < e.st+e.fr):=by simpa [Uf] using hon
   rw [hon] at hru
   have hno':∀ x∈(plc l).take (i+1),Uf f x=false:=by
    rw [htk]
    intro x hx
    rcases List.mem_append.1 hx with h | h
    ·exact hno x h
    ·simp at h;subst h;exact hon
   simp [Xh,Qj,Jg,hr,h2,h2',zrow]
   exact ⟨hru,k1 _ ⟨⟨_,rfl⟩,hno'⟩⟩
  | true =>
   have h2:(decide (e.st<=f)&&decide (f < e.st+e.fr))=true:=by simpa [Uf] using hon
   have h2':e.st<=f/\f < e.st+e.fr:=by simpa [Uf] using hon
   have hfind:=find_take hno hy hon
   rw [hon] at hru
   cases hv:Kr e with
   | false =>
    rw [hv] at hop hve
    simp [Xh,Qj,Jg,hr,h2,h2',zrow,hve]
    exact ⟨hru,hop,k3 0 _ ⟨e,_,hfind,.inr ⟨rfl,hv,rfl⟩⟩⟩
   | true =>
    rw [hv] at hop hve
    simp [Xh,Qj,Jg,hr,h2,h2',zrow,hve]
    exact ⟨hru,hop,how,k2 _ ⟨e,rest++[[I e.id,I e.it,I e.st,I e.fr,I e.i,I e.re,.sl .ro (e.al.map Qd)],[I (e.st - e.i),I (e.fr+e.i),.sl .ro (e.al.map Qd)]],hfind,.inl ⟨rfl,hv,by simp [Qw,Jz]⟩⟩⟩
 ·rintro m ⟨⟨rest,hb⟩,hno⟩
  have hfn:(plc l).find? (Uf f)=none:=List.find?_eq_none.2 fun x hx=>by
   have:=hno x (by simpa using hx)
   simp [this]
  have hnx:nextS f l=(offers f (plc l)).getD zO:=by simp only [nextS,hfn]
  rw [hnx]
  simp
  exact second30 l f hl hs m rest hb _ (by simp) (by simp) (by simp) _ (fun s=>by simp)
 ·rintro ex m ⟨e,rest,h1,h2⟩
  rcases h2 with ⟨rfl,hv,hb⟩ | ⟨rfl,hv,hb⟩
  ·have hnx:nextS f l=Jz e:=by simp only [nextS,h1,hv,if_true]
   rw [hnx]
   simp [rs30,hb,Qw]
  ·have hnx:nextS f l=(offers f (plc l)).getD zO:=by simp only [nextS,h1,hv,Bool.false_eq_true,if_false]
   rw [hnx]
   simp
   exact second30 l f hl hs m rest hb _ (by simp) (by simp) (by simp) _ (fun s=>by simp)
end Go.Proofs.YtjmgelbfndnpjaaGreatDoor.Lw
