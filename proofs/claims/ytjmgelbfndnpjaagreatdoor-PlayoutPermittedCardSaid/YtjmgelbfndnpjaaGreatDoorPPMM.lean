import Derived.Test.YtjmgelbfndnpjaaGreatDoorPPML
set_option linter.unusedVariables false
set_option linter.unusedSimpArgs false
set_option maxRecDepth 100000
set_option maxHeartbeats 64000000
namespace Go.Proofs.YtjmgelbfndnpjaaGreatDoor
open Go Go.Abs
theorem intS_inR {lo hi:Int} {a b:List Sp} (h:InB lo hi b):InB lo hi (Wp a b):=by
 obtain ⟨⟨h1,_⟩,h2⟩:=intS_ok a b
 intro w hw
 have hlt:=h1 w hw
 obtain ⟨s,hs,s1,s2⟩:=((h2 w.1).1 ⟨w,hw,by omega,hlt⟩).2
 obtain ⟨t,ht,t1,t2⟩:=((h2 (w.2 - 1)).1 ⟨w,hw,by omega,by omega⟩).2
 have:=h s hs;have:=h t ht
 omega
theorem Wy (p:Pl) (id region:Int) (s:Sp):(Zr p id region s).length<=1000000:=by
 unfold Zr
 simp only
 generalize Qap s=c
 cases Xe id p.its with
 | none=>simp
 | some x =>
  simp only
  split
  ·simp
  ·rename_i hb
   simp only [not_or] at hb
   split
   ·simp
   ·split
    ·simp
    ·have hin:InB c.1 c.2 [c]:=by intro w hw;simp at hw;subst hw;omega
     have:=VS_len _ c.1 c.2 (intS_ok ((curS p x region (uS p c) (limL p x region (uS p c)).length).map (frS p)) [c]).1 (fun w hw=>by have:=intS_inR hin w hw;omega)
     omega
def frB (f:Int):Bool:=decide (0<=f/\f<=100000000)
def Xo (p:Pl) (id region f n:Int):Bool :=
 if n < 1\/1000000 < n\/frB f=false\/frB (f+n - 1)=false then false else (subS [(f,f+n)] (Zr p id region (f,f+n))).isEmpty
def orcAl (p:Pl) (id region f n:Int):Nat->FuncId->List AV->AV:=fun d g l =>
 if g=31 then (match l with | [.int _ n]=>.bool (frB n) | _=>.junk) else
 if g=33 then .sl .ro ((Zr p id region (f,f+n)).map Qd) else
 if g=32 then .bool (subS [(f,f+n)] (Zr p id region (f,f+n))).isEmpty else .junk
theorem allowed_pure (p:Pl) (id region f n:Int) (hc:p.cls.length<=1000000) (hsh:p.sh.length<=1000000000) (hit:p.its.length<=1000000000) :
  Pure Tryz.prog gl0 10 [.agg (Qc p),I id,I region,I f,I n] (.bool (Xo p id region f n)):=by
 have k34:=pframe_pure f
 have k34':=pframe_pure (f+n - 1)
 refine Qn code10 (orcAl p id region f n) (by simp) ?_
 by_cases b1:n < 1
 ·simp [sc10,Qc,orcAl,rs10,b1,Xo]
 ·by_cases b2:1000000 < n
  ·simp [sc10,Qc,orcAl,rs10,b1,b2,Xo]
  ·by_cases b3:frB f=true
   ·have b3':0<=f/\f<=100000000:=by simpa [frB] using b3
    have hw1:IntKind.i64.wrap (f+n)=f+n:=by rw [Qe]<;>omega
    have hw2:IntKind.i64.wrap (f+n - 1)=f+n - 1:=by rw [Qe]<;>omega
    rw [show decide (0<=f/\f<=100000000)=true from b3] at k34
    by_cases b4:frB (f+n - 1)=true
    ·rw [show decide (0<=f+n - 1/\f+n - 1<=100000000)=true from b4] at k34'
     have k36:=permS_pure p id region (f,f+n) hc hsh hit (by simp only;omega) (by simp only;omega)
     have k35:=covers_pure (Zr p id region (f,f+n)) (f,f+n) (by have:=Wy p id region (f,f+n);omega)
     simp [sc10,Qc,orcAl,rs10,b1,b2,b3,b4,hw1,hw2,Xo]
     exact ⟨k34,k34',k36,k35⟩
    ·have b4':frB (f+n - 1)=false:=by simpa using b4
     rw [show decide (0<=f+n - 1/\f+n - 1<=100000000)=false from b4'] at k34'
     simp [sc10,Qc,orcAl,rs10,b1,b2,b3,b4',hw1,hw2,Xo]
     exact ⟨k34,k34'⟩
   ·have b3':frB f=false:=by simpa using b3
    rw [show decide (0<=f/\f<=100000000)=false from b3'] at k34
    simp [sc10,Qc,orcAl,rs10,b1,b2,b3',Xo]
    exact k34
open Go Go.Abs
def Ko (id:Int):List En->Option En
 | []=>none
 | x::r=>if x.id=id then some x else Ko id r
def enAV:Option En->AV
 | some x=>.tup [.agg (Qi x),.bool true]
 | none=>.tup [.agg [I 0,I 0,I 0,I 0,I 0,I 0,.sl .nil []],.bool false]
theorem enKey_pure (e:En):Pure Tryz.prog gl0 57 [.agg (Qi e)] (I e.id):=by
 refine Qn code57 (fun _ _ _=>.junk) (by simp) ?_
 simp [sc57,Qi,rs57]
theorem findN_pure (L:List En) (id:Int) (hl:L.length<=1000000000):Pure Tryz.prog gl0 56 [.sl .ro (L.map Qi),I id,.fn 57 [] []] (enAV (Ko id L)):=by
 refine Qn code56 (fun _ f l=>if f=57 then (match l with | [.agg (c::_)]=>c | _=>.junk) else .junk) (by simp) ?_
 simp [sc56]
 refine Ql w56_0 (fun f m=>∃ (i:Nat) (bx:List (List AV)),f 13=I i/\i<=L.length/\Ko id (L.drop i)=Ko id L/\m=⟨[I 0,I 0,I 0,I 0,I 0,I 0,.sl .nil []]::bx,[],fun _=>.gone,0⟩) (fun f _=>L.length - (numOf (f 13)).toNat) ?_ ?_
 ·exact ⟨0,[],by simp,by omega,rfl,rfl⟩
 ·rintro f m ⟨i,bx,h13,hi,hf,rfl⟩
  rcases Nat.lt_or_ge i L.length with hlt | hge
  ·obtain ⟨x,hx⟩:=getS hlt
   have hrow:Qf (L.map Qi) i=Qi x:=Qv (by simp [hx])
   have hilt:(i:Int) < (L.length:Int):=by omega
   have hw:=wrS i (by omega)
   have hd:L.drop i=x::L.drop (i+1):=by rw [List.drop_eq_getElem_cons hlt,(List.getElem?_eq_some_iff.1 hx).2]
   have hk:=enKey_pure x
   rw [hd,Ko] at hf
   by_cases hid:x.id=id
   ·rw [if_pos hid] at hf
    simp [h13,hlt,hilt,hrow,Qi,hid,w56_0,rs56,<- hf,enAV]
    simpa [Qi,hid] using hk
   ·rw [if_neg hid] at hf
    simp [h13,hlt,hilt,hrow,Qi,hid,w56_0,hw]
    refine ⟨hk,ag ?_,⟨i+1,by simp,by omega,hf⟩,by omega⟩
    repeat (first | exact Qa _ _ | refine Qb _ rfl ?_)
  ·rw [List.drop_eq_nil_of_le hge] at hf
   have hin:¬ (i:Int) < (L.length:Int):=by omega
   simp [h13,Nat.not_lt.2 hge,hin,w56_0,rs56,<- hf,enAV,Ko]
open Go Go.Abs
theorem rep_nil_or {w:World} {γ:G} {rows:List (List AV)} {v:Value} (h:Rep w γ (.sl .ro rows) v):Rep w γ (.sl .nil rows) v\/Rep w γ (.sl .nn rows) v:=by
 cases h with
 | sl b off sz cv hcap hnil ha hsz hc hr hrt =>
  rename_i a cap
  by_cases e:a=none
  ·exact .inl (.sl b off sz cv hcap hnil ha hsz hc hr e)
  ·exact .inr (.sl b off sz cv hcap hnil ha hsz hc hr e)
theorem pure_nil_or {P:Program} {gl:Nat->AV} {f:FuncId} {rows:List (List AV)} {r:AV} (h:Pure P gl f [.sl .nil rows] r) (k:Pure P gl f [.sl .nn rows] r):Pure P gl f [.sl .ro rows] r :=
 ⟨h.1,fun ro w vs hgl hr=>by
  match vs,hr with
  | [v],hr =>
   rcases rep_nil_or (hr.2 0 _ v rfl rfl) with h1 | h1
   ·exact h.2 ro w [v] hgl ⟨rfl,fun i x y hx hy=>by
     cases i with
     | zero=>cases hx;cases hy;exact h1
     | succ i=>cases hx⟩
   ·exact k.2 ro w [v] hgl ⟨rfl,fun i x y hx hy=>by
     cases i with
     | zero=>cases hx;cases hy;exact h1
     | succ i=>cases hx⟩
  | [],hr=>exact absurd hr.1 (by simp)
  | _::_::_,hr=>exact absurd hr.1 (by simp)⟩
theorem cloneNN_pure:Pure Tryz.prog gl0 58 [.sl .nn []] (.sl .ro []):=by
 have:∃ rt,Pure Tryz.prog gl0 58 [.sl .nn []] (.sl rt []):=by
  refine ⟨.ro,Qn code58 (fun _ _ _=>.junk) (by simp) ?_⟩
  simp [sc58,rs58]
 obtain ⟨rt,h⟩:=this
 exact Yc h (Wk.sl _ _)
theorem cloneS_pure (l:List Sp) (hl:l.length<=8796093022208):Pure Tryz.prog gl0 58 [.sl .ro (l.map Qd)] (.sl .ro (l.map Qd)):=by
 cases l with
 | nil=>exact pure_nil_or (Yc cloneN_pure (Wk.sl _ _)) cloneNN_pure
 | cons x r =>
  refine Qn code58 (fun _ _ _=>.junk) (by simp) ?_
  simp [sc58,rs58]
  simp at hl
  refine ⟨⟨rfl,?_⟩,by omega⟩
  rintro row a b _ rfl
  rfl
theorem entry_pure (p:Pl) (id:Int) (hl:p.ens.length<=1000000000) (ha:∀ e∈p.ens,e.al.length<=8796093022208):Pure Tryz.prog gl0 22 [.agg (Qc p),I id] (enAV (Ko id p.ens)):=by
 have h59:=findN_pure p.ens id hl
 refine Qn code22 (fun _ f l=>if f=56 then enAV (Ko id p.ens) else l.headD .junk) (by simp) ?_
 cases hf:Ko id p.ens with
 | none =>
  rw [hf] at h59
  simp [sc22,rs22,Qc,enAV,hf]
  exact ⟨h59,cloneN_pure⟩
 | some x =>
  rw [hf] at h59
  have hx:x∈p.ens:=by
   have:∀ l:List En,Ko id l=some x->x∈l:=by
    intro l
    induction l with
    | nil=>intro h;cases h
    | cons y r ih =>
     intro h
     simp only [Ko] at h
     split at h
     ·cases h;simp
     ·simp [ih h]
   exact this _ hf
  have hc:=cloneS_pure x.al (ha x hx)
  simp [sc22,rs22,Qc,enAV,Qi,hf]
  exact ⟨h59,hc⟩
open Go Go.Abs
theorem itKey_pure (e:It):Pure Tryz.prog gl0 42 [.agg (Qg e)] (I e.id):=by
 refine Qn code42 (fun _ _ _=>.junk) (by simp) ?_
 simp [sc42,Qg,rs42]
theorem findI_pure (L:List It) (id:Int) (hl:L.length<=1000000000):Pure Tryz.prog gl0 109 [.sl .ro (L.map Qg),I id,.fn 42 [] []] (Zo (Xe id L)):=by
 refine Qn code109 (fun _ f l=>if f=42 then (match l with | [.agg (c::_)]=>c | _=>.junk) else .junk) (by simp) ?_
 simp [sc109]
 refine Ql w109_0 (fun f m=>∃ (i:Nat) (bx:List (List AV)),f 13=I i/\i<=L.length/\Xe id (L.drop i)=Xe id L/\m=⟨[I 0,I 0,I 0,I 0,I 0]::bx,[],fun _=>.gone,0⟩) (fun f _=>L.length - (numOf (f 13)).toNat) ?_ ?_
 ·exact ⟨0,[],by simp,by omega,rfl,rfl⟩
 ·rintro f m ⟨i,bx,h13,hi,hf,rfl⟩
  rcases Nat.lt_or_ge i L.length with hlt | hge
  ·obtain ⟨x,hx⟩:=getS hlt
   have hrow:Qf (L.map Qg) i=Qg x:=Qv (by simp [hx])
   have hilt:(i:Int) < (L.length:Int):=by omega
   have hw:=wrS i (by omega)
   have hd:L.drop i=x::L.drop (i+1):=by rw [List.drop_eq_getElem_cons hlt,(List.getElem?_eq_some_iff.1 hx).2]
   have hk:=itKey_pure x
   rw [hd,Xe] at hf
   by_cases hid:x.id=id
   ·rw [if_pos hid] at hf
    simp [h13,hlt,hilt,hrow,Qg,hid,w109_0,rs109,<- hf,Zo]
    simpa [Qg,hid] using hk
   ·rw [if_neg hid] at hf
    simp [h13,hlt,hilt,hrow,Qg,hid,w109_0,hw]
    refine ⟨hk,ag ?_,⟨i+1,by simp,by omega,hf⟩,by omega⟩
    repeat (first | exact Qa _ _ | refine Qb _ rfl ?_)
  ·rw [List.drop_eq_nil_of_le hge] at hf
   have hin:¬ (i:Int) < (L.length:Int):=by omega
   simp [h13,Nat.not_lt.2 hge,hin,w109_0,rs109,<- hf,Zo,Xe]
theorem item_pure (p:Pl) (id:Int) (hl:p.its.length<=1000000000):Pure Tryz.prog gl0 60 [.agg (Qc p),I id] (Zo (Xe id p.its)):=by
 have h:=findI_pure p.its id hl
 refine Qn code60 (fun _ f l=>if f=109 then Zo (Xe id p.its) else .junk) (by simp) ?_
 cases hf:Xe id p.its with
 | none =>
  rw [hf] at h
  simp [sc60,rs60,Qc,Zo,hf]
  exact h
 | some x =>
  rw [hf] at h
  simp [sc60,rs60,Qc,Zo,Qg,hf]
  exact h
theorem fills_pure (p:Pl) (f t:Int):Pure Tryz.prog gl0 23 [.agg (Qc p),I f,I t] (.fn 59 [] [.ep (Qc p) 0,.ep [I f] 0,.ep [I t] 0]):=by
 refine Qn code23 (fun _ _ _=>.junk) (by simp) ?_
 simp [sc23,rs23,Qc]
open Go Go.Abs
def Ug (b:Nat->Bool):Nat->Int
 | 0=>0
 | n+1=>Ug b n+if b n then 2 ^ n else 0
theorem mskS_bd (b:Nat->Bool):∀ n,0<=Ug b n/\Ug b n < 2 ^ n
 | 0=>by simp [Ug]
 | n+1=>by
  have:=mskS_bd b n
  have h2:(2:Int) ^ (n+1)=2*2 ^ n:=by rw [Int.pow_succ];omega
  rw [Ug,h2]
  split<;>omega
theorem or_msk:∀ i:Nat,i < 8->∀ x:Nat,x < 2 ^ i->IntKind.i64.wrap (((((x:Int) % 2 ^ IntKind.i64.bits).toNat ||| (IntKind.i64.wrap (2 ^ min i IntKind.i64.bits) % 2 ^ IntKind.i64.bits).toNat:Nat)):Int)=(x:Int)+2 ^ i:=by
 decide +kernel
theorem collect_eff (Y:YT) (p:Pl) (h:FuncId) (cap:List AV) (b:Nat->Bool) (m:AM) (K:AV->AM->Prop)
  (hg:∀ (i:Nat) (mm:AM),i < 8->(i:Int) < p.rg->(∃ bx,mm=⟨m.boxes++bx,m.lens,m.st,m.ln⟩)->∀ K':AV->AM->Prop,K' (.bool (b i)) mm->EffY Tryz.prog gl0 Y h ([I i]++cap) mm K')
  (hK:∀ bx,K (I (Ug b (min p.rg 8).toNat)) ⟨m.boxes++bx,m.lens,m.st,m.ln⟩):EffY Tryz.prog gl0 Y 61 [.agg (Qc p),.fn h [] cap] m K:=by
 refine Zb code61 (fun _ _ _=>.gd false .junk) (by simp) ?_
 obtain ⟨n,hn⟩:∃ n,(min p.rg 8).toNat=n:=⟨_,rfl⟩
 have hr0:Qf (m.boxes++[Qc p]) m.boxes.length=Qc p:=by
  simp
 rw [hn] at hK
 have hmn:(if 8 < p.rg then 8 else p.rg)=min p.rg 8:=by omega
 simp only [Qc] at hr0
 simp [sc61,Qc,hr0]
 refine Ql w61_0 (fun f mm=>∃ (i:Nat) (bx:List (List AV)),f 10=I i/\(i=0\/i<=n)/\mm=⟨m.boxes++bx,m.lens,m.st,m.ln⟩/\f 5=I (Ug b i)) (fun f _=>n - (numOf (f 10)).toNat) ?_ ?_
 ·exact ⟨0,_,by simp,.inl rfl,rfl,by simp [Ug]⟩
 ·rintro f mm ⟨i,bx,h10,hi,rfl,h5⟩
  by_cases hlt:(i:Int) < min p.rg 8
  ·have hin:i < n:=by omega
   have hw:=wrS i (by omega)
   have hmb:=mskS_bd b i
   have hg':=hg i ⟨m.boxes++bx,m.lens,m.st,m.ln⟩ (by omega) (by omega) ⟨_,rfl⟩
   have hor:IntKind.i64.wrap ((((Ug b i % 2 ^ IntKind.i64.bits).toNat ||| (IntKind.i64.wrap (2 ^ min i IntKind.i64.bits) % 2 ^ IntKind.i64.bits).toNat:Nat)):Int)=Ug b i+2 ^ i:=by
    obtain ⟨x,hx⟩:∃ x:Nat,Ug b i=(x:Int):=⟨(Ug b i).toNat,by omega⟩
    have hx2:x < 2 ^ i:=by
     have h2:=hmb.2
     rw [hx] at h2
     exact_mod_cast h2
    rw [hx]
    exact or_msk i (by omega) x hx2
   have hms:Ug b (i+1)=Ug b i+if b i then 2 ^ i else 0:=rfl
   simp [h10,h5,w61_0,hmn,hlt]
   refine hg' _ ?_
   cases hb:b i with
   | true =>
    rw [hb] at hms
    simp [hor,hw]
    refine ⟨ag ?_,⟨i+1,by omega,by omega,by rw [hms];rfl⟩,by omega⟩
    repeat (first | exact Qa _ _ | refine Qb _ rfl ?_)
   | false =>
    rw [hb] at hms
    simp [hw]
    refine ⟨ag ?_,⟨i+1,by omega,by omega,by rw [hms];simp⟩,by omega⟩
    repeat (first | exact Qa _ _ | refine Qb _ rfl ?_)
  ·have hin:i=n:=by omega
   subst hin
   simp [h10,h5,w61_0,hmn,hlt,rs61]
   exact hK _
open Go Go.Abs
def Vl (fr t a:Int):Int:=if 1<=fr then min (t - a) fr else t - a
def Vp (fr t a:Int):List (Int×Int):=if a < t then (a,Vl fr t a)::Vp fr t (a+Vl fr t a) else []
termination_by (t - a).toNat
decreasing_by simp only [Vl];split<;>omega
def Xq (p:Pl):Int:=match Xe p.fi p.its with | some x=>x.fr | none=>0
def filM (p:Pl):Int:=Ug (fun _=>true) (min p.rg 8).toNat
def Ke (p:Pl) (x:Int×Int):List AV:=[.agg [I 0,I p.fi,I x.1,I x.2,I 0,I (filM p),.sl .nil []]]
def orcF (p:Pl):Nat->FuncId->List AV->AV:=fun _ f _=>if f=60 then Zo (Xe p.fi p.its) else .gd false .junk
theorem fills_iter (p:Pl) (f t:Int) (hl:p.its.length<=1000000000) (hb : -1000000000<=f/\t<=1000000000) (hf:f<=1000000000 /\ -1000000000<=t) :
  IterO Tryz.prog gl0 59 [] [.ep (Qc p) 0,.ep [I f] 0,.ep [I t] 0] ((Vp (Xq p) t f).map (Ke p)):=by
 intro Y l m K hF
 have k62:=item_pure p p.fi hl
 refine Zb code59 (orcF p) (by simp) ?_
 obtain ⟨b,row,hitv,hrow⟩:∃ (b:Bool) (y:It),Zo (Xe p.fi p.its)=.tup [.agg (Qg y),.bool b]/\y.fr=Xq p:=by
  unfold Xq
  cases Xe p.fi p.its with
  | none=>exact ⟨false,⟨0,0,0,0,0⟩,rfl,rfl⟩
  | some x=>exact ⟨true,x,rfl,rfl⟩
 rw [hitv] at k62
 simp [sc59,Qc,orcF,hitv,Qg]
 refine ⟨k62,collect_eff Y p 62 [] (fun _=>true) _ _ (fun i mm _ _ _ K' h=>by
  show EffY _ _ _ _ [I (i:Int)] _ _
  refine Zb code62 (fun _ _ _=>.junk) (by simp) ?_
  simp [sc62,rs62]
  exact h) fun bx=>?_⟩
 obtain ⟨B0,hB0⟩:∃ B0,m.boxes.length=B0:=⟨_,rfl⟩
 have hF1:=hF.ext (m':=⟨m.boxes++[[I row.id,I row.ki,I row.fr,I row.sp,I row.ra]]++bx,m.lens,m.st,m.ln⟩) ⟨by simp,fun j hj _=>by rw [List.append_assoc];exact Qh hj,⟨[],by simp⟩,fun _ _=>rfl⟩
 simp only [hB0]
 refine Ql w59_0 (fun g mm=>∃ (a:Int) (O:Nat->Prop),g 8=I a /\ -1000000000<=a/\a<=1000000000/\B0 < mm.boxes.length/\Qf mm.boxes B0=[I row.id,I row.ki,I row.fr,I row.sp,I row.ra]/\O B0/\FoldO (Y l) K ((Vp (Xq p) t a).map (Ke p)) O mm) (fun g _=>(t - numOf (g 8)).toNat) ?_ ?_
 ·refine ⟨f,_,by simp,by omega,by omega,by simp [hB0],?_,.inr ⟨by omega,by simp;omega⟩,hF1⟩
  show Qf (m.boxes++[_]++bx) B0=_
  rw [Qh (by simp;omega)]
  subst hB0
  simp
 ·rintro g mm ⟨a,O,h8,a1,a2,hlm,hrw,hOb,hFo⟩
  by_cases hlt:a < t
  ·rw [Vp,if_pos hlt] at hFo
   simp only [List.map_cons,Ke] at hFo
   have hw1:IntKind.i64.wrap (t - a)=t - a:=by rw [Qe]<;>omega
   have hfn:Vl (Xq p) t a=if 1<=row.fr then min (t - a) row.fr else t - a:=by rw [Vl,hrow]
   have hfb:1<=Vl (Xq p) t a/\Vl (Xq p) t a<=t - a:=by rw [hfn];split<;>omega
   have hw2:IntKind.i64.wrap (a+Vl (Xq p) t a)=a+Vl (Xq p) t a:=by rw [Qe]<;>omega
   have hmn:(if row.fr < t - a then row.fr else t - a)=min (t - a) row.fr:=by omega
   have hM:Ug (fun _=>true) (min p.rg 8).toNat=filM p:=rfl
   generalize hN:Vl (Xq p) t a=N at *
   have key:∀ g1,(1<=row.fr->g1=min (t - a) row.fr)->True:=fun _ _=>trivial
   have hwN:IntKind.i64.wrap N=N:=by rw [Qe]<;>omega
   by_cases hfr:1<=row.fr
   ·rw [if_pos hfr] at hfn
    simp [h8,w59_0,hlt,hrw,hfr,hw1,hmn,<- hfn,hwN,hM,hlm]
    refine hFo _ (ExtO.refl _ _) _ (fun m2 hS2 hF2=>?_) (fun m2 hK=>?_)
    ·have q1:Qf m2.boxes B0=[I row.id,I row.ki,I row.fr,I row.sp,I row.ra]:=by rw [hS2.2 B0 (.inl hOb)];exact hrw
     have hl2:=hS2.1
     simp [hw2]
     refine ⟨ag ?_,⟨by omega,by omega,by omega,q1,_,.inl hOb,hF2⟩,by omega⟩
     repeat (first | exact Qa _ _ | refine Qb _ rfl ?_)
    ·simp [rs59]
     exact hK _ (ExtO.refl _ _)
   ·rw [if_neg hfr] at hfn
    simp [h8,w59_0,hlt,hrw,hfr,hw1,<- hfn,hwN,hM,hlm]
    refine hFo _ (ExtO.refl _ _) _ (fun m2 hS2 hF2=>?_) (fun m2 hK=>?_)
    ·have q1:Qf m2.boxes B0=[I row.id,I row.ki,I row.fr,I row.sp,I row.ra]:=by rw [hS2.2 B0 (.inl hOb)];exact hrw
     have hl2:=hS2.1
     simp [hw2]
     refine ⟨ag ?_,⟨by omega,by omega,by omega,q1,_,.inl hOb,hF2⟩,by omega⟩
     repeat (first | exact Qa _ _ | refine Qb _ rfl ?_)
    ·simp [rs59]
     exact hK _ (ExtO.refl _ _)
  ·rw [Vp,if_neg hlt] at hFo
   simp only [List.map_nil] at hFo
   simp [h8,w59_0,hlt,rs59]
   exact hFo _ (ExtO.refl _ _)
open Go Go.Abs
theorem evt1_eff (Y:YT) (p:Pl) (e:En) (a r fr:Int) (m:AM) (bp bf be:Nat) (hc:p.cls.length<=1000000) (hsh:p.sh.length<=1000000000) (hit:p.its.length<=1000000000)
  (h1:Qf m.boxes bp=Qc p) (h2:Qf m.boxes bf=[I fr]) (h3:Qf m.boxes be=Qi e) (K:AV->AM->Prop) (hK:K (.bool (Xo p a r fr e.fr)) m) :
  EffY Tryz.prog gl0 Y 63 [I a,I r,.ptr bp 0,.ptr bf 0,.ptr be 0] m K:=by
 have k:=allowed_pure p a r fr e.fr hc hsh hit
 refine Zb code63 (fun _ f _=>if f=10 then .bool (Xo p a r fr e.fr) else .junk) (by simp) ?_
 simp only [Qc] at h1
 simp only [Qi] at h3
 simp [sc63,rs63,h1,h2,h3]
 exact ⟨k,hK⟩
theorem evt2_eff (Y:YT) (p:Pl) (e:En) (r fr:Int) (m:AM) (bp bf be bg:Nat) (hc:p.cls.length<=1000000) (hsh:p.sh.length<=1000000000) (hit:p.its.length<=1000000000)
  (h1:Qf m.boxes bp=Qc p) (h2:Qf m.boxes bf=[I fr]) (h3:Qf m.boxes be=Qi e) (h4:Qf m.boxes bg=[.fn 63 [] [.ptr bp 0,.ptr bf 0,.ptr be 0]]) (K:AV->AM->Prop) (hK:K (.bool (Xo p e.it r fr e.fr)) m) :
  EffY Tryz.prog gl0 Y 64 [I r,.ptr bg 0,.ptr be 0] m K:=by
 have k:=evt1_eff Y p e e.it r fr m bp bf be hc hsh hit h1 h2 h3
 refine Zb code64 (fun _ _ _=>.gd false .junk) (by simp) ?_
 simp only [Qi] at h3
 simp [sc64,h4,h3]
 refine k _ ?_
 simp [rs64]
 exact hK
end Go.Proofs.YtjmgelbfndnpjaaGreatDoor
