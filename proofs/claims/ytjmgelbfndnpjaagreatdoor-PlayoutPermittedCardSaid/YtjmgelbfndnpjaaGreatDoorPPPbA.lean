import Derived.Test.YtjmgelbfndnpjaaGreatDoorPPUaA
import Derived.Test.YtjmgelbfndnpjaaGreatDoorPPPaT
set_option linter.unusedVariables false
set_option linter.unusedSimpArgs false
namespace Go.Proofs.YtjmgelbfndnpjaaGreatDoor
open Go Go.Abs
theorem filFr_pos {p:Pl} (h:VP p):1<=Xq p:=by
 obtain ⟨y,hy,_,hy1,_⟩:=h.fill
 simp only [Xq,hy];exact hy1
theorem vch_cons {p:Pl} {a:Int} {e:Ev2} {r:List Ev2} (h1:e.st=a) (h2:Wl p e=true) (h3:IntKind.i64.wrap (a+e.fr)=a+e.fr) (h4:Uc p (a+e.fr) r=true):Uc p a (e::r)=true:=by
 rw [Uc,if_neg (by rw [h2];simp [h1]),h3];exact h4
theorem vch_fill {p:Pl} (h:VP p) (hl:p.ln<=1000000) (rest:List Ev2):∀ (n:Nat) (a t:Int),(t - a).toNat<=n->0<=a->a<=t->t<=p.ln->Uc p t rest=true->Uc p a ((Vp (Xq p) t a).map (Xu p)++rest)=true:=by
 have hp:=filFr_pos h
 intro n
 induction n with
 | zero =>
  intro a t h1 h2 h3 h4 h5
  obtain rfl:a=t:=by omega
  rw [Vp,if_neg (by omega)];exact h5
 | succ n ih =>
  intro a t h1 h2 h3 h4 h5
  rw [Vp]
  split
  ·rename_i hlt
   have hN:1<=Vl (Xq p) t a/\Vl (Xq p) t a<=t - a/\Vl (Xq p) t a<=Xq p:=by
    unfold Vl
    rw [if_pos hp];omega
   rw [List.map_cons,List.cons_append]
   refine vch_cons rfl (Ut h hl _ ⟨h2,hN.1,hN.2.2,by simp only;omega⟩) ?_ ?_
   ·show IntKind.i64.wrap (a+Vl (Xq p) t a)=a+Vl (Xq p) t a
    rw [Qe]<;>omega
   ·exact ih _ t (by show (t - (a+Vl (Xq p) t a)).toNat<=n;omega) (by show 0<=a+Vl (Xq p) t a;omega) (by show a+Vl (Xq p) t a<=t;omega) h4 h5
  ·obtain rfl:a=t:=by omega
   exact h5
theorem bld_chain {p:Pl} (h:VP p) (hl:p.ln<=1000000):∀ (l:List Sp) (a:Int),0<=a->a<=p.ln->schOK p l a->Uc p a (Uw p l a)=true/\∀ s∈l,∃ e,Ko s.1 p.ens=some e/\1<=e.fr/\evtE p e s.2∈Uw p l a/\0<=s.2/\s.2+e.fr<=p.ln
 | [],a,h0,h1,_=>by
  refine ⟨?_,fun s hs=>(by cases hs)⟩
  rw [Uw]
  have:=vch_fill h hl [] _ a p.ln (Nat.le_refl _) h0 h1 (Int.le_refl _) (by simp [Uc])
  rwa [List.append_nil] at this
 | s::r,a,h0,h1,hs=>by
  obtain ⟨e,he,hf,h2,h3,h4,h5,h6,h7,h8,h9⟩:=hs
  obtain ⟨he1,he2⟩:=fndN_mem he
  have hid:=(h.ens e he1).1
  have hsk:skipB p s a=some e:=by
   unfold skipB
   rw [he]
   simp only
   rw [if_neg (by omega)]
  obtain ⟨i1,i2⟩:=bld_chain h hl r (s.2+e.fr) (by omega) (by omega) h9
  have hb:Uw p (s::r) a=(Vp (Xq p) s.2 a).map (Xu p)++(evtE p e s.2::Uw p r (s.2+e.fr)):=by
   rw [Uw,hsk]
   simp
  rw [hb]
  refine ⟨vch_fill h hl _ _ a s.2 (Nat.le_refl _) h0 h2 (by omega) ?_,fun t ht=>?_⟩
  ·refine vch_cons rfl (evt_sound h he1 _ h8) ?_ i1
   show IntKind.i64.wrap (s.2+e.fr)=s.2+e.fr
   rw [Qe]<;>omega
  ·rcases List.mem_cons.1 ht with rfl | ht
   ·exact ⟨e,he,hf.1,by simp,h3,h7⟩
   ·obtain ⟨x,x1,x2,x3,x4⟩:=i2 t ht
    exact ⟨x,x1,x2,by simp [x3],x4⟩
theorem vch_valid {p:Pl} {b:List Ev2} (h:Uc p 0 b=true) (hln:1<=p.ln):validB p b=true:=by
 cases b with
 | nil =>
  simp only [Uc,decide_eq_true_eq] at h
  omega
 | cons e r =>
  have hst:e.st=0:=by
   rw [Uc] at h
   split at h
   ·cases h
   ·rename_i hn
    simp only [not_or] at hn
    omega
  rw [validB,hst,if_neg (by omega)]
  exact h
end Go.Proofs.YtjmgelbfndnpjaaGreatDoor
namespace Go.Proofs.YtjmgelbfndnpjaaGreatDoor.Lw
open Go Go.Abs
theorem bit_form0:∀ r:Nat,r < 8->∀ x:Nat,x < 256->IntKind.i64.wrap (((((x:Int).fdiv (2 ^ min r IntKind.i64.bits) % 2 ^ IntKind.i64.bits).toNat &&& (1 % 2 ^ IntKind.i64.bits):Nat)):Int)=if x.testBit r then 1 else 0:=by
 decide +kernel
theorem bit_form {x:Int} (h:0<=x/\x < 256) {r:Nat} (hr:r < 8):IntKind.i64.wrap ((((x.fdiv (2 ^ min r IntKind.i64.bits) % 2 ^ IntKind.i64.bits).toNat &&& (1 % 2 ^ IntKind.i64.bits):Nat)):Int)=if bitI x r then 1 else 0:=by
 have:=bit_form0 r hr x.toNat (by omega)
 rw [Int.toNat_of_nonneg h.1] at this
 exact this
def cutP (p:Pl):Pl:={ p with its:=p.its.take 20,ens:=p.ens.take 16,cls:=p.cls.take 20 }
def picZ:Pic:=⟨false,⟨#[]⟩,0⟩
def Yx (n:Nat):List Pic:=⟨true,⟨#[]⟩,0⟩::List.replicate (n - 1) picZ
def itN (x:It):Nat:=(if 200 < x.fr then 200 else x.fr).toNat
def itA (x:It):Zz:=⟨x.id,Yx (itN x)⟩
def pcs:List Pic->List AV
 | []=>[]
 | p::r=>.bool p.key::.str p.data::I p.power::pcs r
theorem pcs_len:∀ l,(pcs l).length=l.length*3
 | []=>rfl
 | p::r=>by simp [pcs,pcs_len r];omega
theorem pcs_map (m:AM) (d:Nat):∀ l,(pcs l).map (cvn m (d+1))=pcs l
 | []=>rfl
 | p::r=>by simp [pcs,pcs_map m d r]
theorem pcs_chunk:∀ (l:List Pic),chunk 3 l.length (pcs l)=l.map Vr
 | []=>rfl
 | p::r=>by simp [pcs,Vr,pcs_chunk r]
theorem fills_pcs (n:Nat):fills n [.bool false,.str ⟨#[]⟩,I 0]=pcs (List.replicate n picZ):=by
 induction n with
 | zero=>rfl
 | succ n ih=>rw [fills,ih];rfl
theorem pics_set (n:Nat) (h:1<=n):(fills n [.bool false,.str ⟨#[]⟩,I 0]).set 0 (.bool true)=pcs (Yx n):=by
 obtain ⟨k,rfl⟩:∃ k,n=k+1:=⟨n - 1,by omega⟩
 rw [fills_pcs];rfl
theorem picsN_len (n:Nat) (h:1<=n):(Yx n).length=n:=by simp [Yx];omega
def Kb:List (It×Nat)->List AV
 | []=>[]
 | y::r=>I y.1.id::.bs (y.2+2) 0 (itN y.1) 3::Kb r
theorem libC_len:∀ q,(Kb q).length=q.length*2
 | []=>rfl
 | y::r=>by simp [Kb,libC_len r];omega
theorem libC_app:∀ a b,Kb (a++b)=Kb a++Kb b
 | [],_=>rfl
 | y::r,b=>by simp [Kb,libC_app r b]
theorem lib_cvn (m:AM):∀ (q:List (It×Nat)),(∀ y∈q,Qf m.boxes (y.2+2)=pcs (Yx (itN y.1))/\1<=itN y.1)->chunk 2 q.length ((Kb q).map (cvn m 5))=(q.map fun y=>itA y.1).map Xa
 | [],_=>rfl
 | y::r,h=>by
  obtain ⟨h1,h2⟩:=h y (by simp)
  have hl:=pcs_len (Yx (itN y.1))
  rw [picsN_len _ h2] at hl
  have hc:=pcs_chunk (Yx (itN y.1))
  rw [picsN_len _ h2] at hc
  have ih:=lib_cvn m r fun z hz=>h z (by simp [hz])
  have hb:cvn m 5 (.bs (y.2+2) 0 (itN y.1) 3)=.sl .ro ((Yx (itN y.1)).map Vr):=by
   rw [cvn_bs,Zq,h1,if_pos (by omega),pcs_map,List.drop_zero,hc]
  simp only [Kb,List.map_cons,List.length_cons,chunk_succ,hb,cvn_int]
  simp [ih,Xa,itA]
def InvL (P:Pl) (pg:List AV) (f:Nat->AV) (m:AM):Prop:=∃ (i:Nat) (q:List (It×Nat)) (rest:List (List AV)),f 11=I i/\i<=P.its.length/\q.map (·.1)=P.its.take i/\q.length=i /\
 (∀ y∈q,y.2 < rest.length/\Qf rest y.2=pcs (Yx (itN y.1)))/\((i=0/\f 10=.sl .nil [])\/(0 < i/\∃ k,f 10=.bs (k+2) 0 i 2/\k < rest.length/\Qf rest k=Kb q/\∀ y∈q,y.2≠k))/\m=⟨Qc P::pg::rest,[],fun _=>.gone,0⟩
def InvR (m0:AM) (rg:Int) (f:Nat->AV) (m:AM):Prop:=∃ r:Nat,f 15=I r/\(r:Int)<=rg/\m=m0
def Wn (P:Pl) (b:List Ev2) (g:Int) (U:List AV):Nat->FuncId->List AV->AV:=fun d f x =>
 if f=999999 then (if d=92\/d=93 then .mobj 0 [] else .junk) else
 if f=4 then .bool true else if f=5 then .bool (pvB P) else if f=6 then compR P else if f=7 then .sl .ro (b.map Qj) else if f=8 then I g else if f=9 then .gd false .junk else
 if f=10 then (match x with | [_,.int _ a,.int _ r,.int _ f,.int _ n]=>.bool (Xo P a r f n) | _=>.junk) else .bool true
theorem contains_pure (e:Ev2) (h0:e.st=0) (h1:1<=e.fr/\e.fr<=1000000):Pure Tryz.prog gl0 11 [.agg (Qj e),I 0] (.bool true):=by
 refine Qn code11 (fun _ _ _=>.junk) (by simp) ?_
 have w0:=wu 0 (by omega) (by omega)
 have w1:=wu e.fr (by omega) (by omega)
 have e1:0 < e.fr:=by omega
 simp [sc11,rs11,Qj,h0,e1,w0,w1]
theorem sh_le {p:Pl} (h:pvB p=true):p.sh.length<=40:=by
 simp only [pvB,Bool.and_eq_true] at h
 have h1:=h.1
 simp only [Yf,Bool.and_eq_true,Vf,decide_eq_true_eq] at h1
 exact h1.2.2.1.1.1
theorem unit_shows (p:Pl) (ev:List Ev2) (L:List Zz) (f:Int):∃ (it ix:Int) (key:Bool) (data:ByteArray) (re ga:Int) (cap:ByteArray) (os of:Int) (rt:Rt) (rows:List (List AV)),
  Jn p ev L f=[I p.ch,I f,I 0,I it,I ix,.bool key,.str data,I re,I ga,.str cap,I os,I of,.sl rt rows]/\(it=0\/∃ e∈ev,e.it=it/\e.re=re/\Uf f e=true):=by
 have hs:∃ (it ix:Int) (key:Bool) (data:ByteArray) (re ga:Int) (cap:ByteArray) (os of:Int) (rt:Rt) (rows:List (List AV)),
  Zi p f=[I p.ch,I f,I 0,I it,I ix,.bool key,.str data,I re,I ga,.str cap,I os,I of,.sl rt rows]/\(it=0\/∃ e∈ev,e.it=it/\e.re=re/\Uf f e=true) :=
  ⟨0,0,true,eB,255,1000,Qao 1 0 0 0,0,0,.nil,[],rfl,.inl rfl⟩
 unfold Jn
 cases hf:fnd2 f ev with
 | none=>exact hs
 | some e =>
  obtain ⟨h1,h2⟩:=fndE_on hf
  cases hn:fnd e.it L with
  | none=>simp only;rw [hn];exact hs
  | some a =>
   simp only
   rw [hn]
   simp only
   cases hp:a.pics[(Wq f e).toNat]? with
   | none=>exact hs
   | some x=>exact ⟨e.it,Wq f e,x.key,x.data,e.re,Js L (begs f ev) 1000,capN (orgI e) f,_,_,.ro,_,rfl,.inr ⟨e,h1,rfl,rfl,h2⟩⟩
theorem libOK_of (l:List It) (h:l.length<=20):LibOK (l.map itA):=by
 refine ⟨⟨by simp;omega,fun a ha=>?_⟩,fun a ha=>?_⟩
 ·simp only [List.mem_map] at ha
  obtain ⟨x,_,rfl⟩:=ha
  have:itN x<=200:=by unfold itN;split<;>omega
  simp [itA,Yx];omega
 ·simp only [List.mem_map] at ha
  obtain ⟨x,_,rfl⟩:=ha
  intro y hy
  simp only [itA,Yx,List.mem_cons,List.mem_replicate] at hy
  rcases hy with rfl | ⟨_,rfl⟩
  ·exact ⟨by simp,by simp⟩
  ·exact ⟨by simp [picZ],by simp [picZ]⟩
end Go.Proofs.YtjmgelbfndnpjaaGreatDoor.Lw
