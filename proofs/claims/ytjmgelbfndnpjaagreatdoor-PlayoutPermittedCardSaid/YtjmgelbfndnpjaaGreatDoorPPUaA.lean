import Derived.Test.YtjmgelbfndnpjaaGreatDoorPPRhC
import Derived.Test.YtjmgelbfndnpjaaGreatDoorPPMT
set_option linter.unusedVariables false
set_option linter.unusedSimpArgs false
namespace Go.Proofs.YtjmgelbfndnpjaaGreatDoor
open Go Go.Abs
theorem andN_self {x:Int} (h:0<=x/\x < 256):andN x x=0:=by
 have key:∀ n:Nat,n < 256->andN (n:Int) (n:Int)=0:=by decide +kernel
 have:=key x.toNat (by omega)
 rwa [Int.toNat_of_nonneg h.1] at this
theorem mskS_congr {b c:Nat->Bool}:∀ (n:Nat),(∀ i,i < n->b i=c i)->Ug b n=Ug c n
 | 0,_=>rfl
 | n+1,h=>by rw [Ug,Ug,mskS_congr n (fun i hi=>h i (by omega)),h n (by omega)]
theorem and1_msk {b:Nat->Bool} {n:Nat} (hn:1<=n/\n<=8) (h0:b 0=true):and1X (Ug b n)=1:=by
 have hb:=Qad b n hn.2
 rw [and1X_eq _ hb]
 have h1:=mskS_bit b n 0
 rw [h0] at h1
 have h2:decide (0 < n)=true:=by simp;omega
 rw [h2] at h1
 simp only [bitI,Nat.testBit_zero,Bool.and_true,decide_eq_true_eq] at h1
 omega
structure VP (p:Pl):Prop where
 rg:1<=p.rg/\p.rg<=8
 ln:1<=p.ln/\p.ln<=100000000
 fill:∃ y,Xe p.fi p.its=some y/\y.ki=5/\1<=y.fr/\y.fr<=100000000
 its:∀ y∈p.its,itB y=true
 ens:∀ e∈p.ens,1<=e.id/\fitsB p e=true/\altsB p e=true
theorem allE_mem {p:Pl}:∀ {l:List En} {seen:List Int},allE p seen l=true->∀ e∈l,1<=e.id/\fitsB p e=true/\altsB p e=true
 | x::r,seen,h,e,he=>by
  rw [allE,Bool.and_eq_true] at h
  rcases List.mem_cons.1 he with rfl | he
  ·have h1:=h.1
   simp only [entB,Bool.and_eq_true,wi,decide_eq_true_eq] at h1
   exact ⟨h1.1.1,h1.2.2.1,h1.2.2.2.1⟩
  ·exact allE_mem h.2 e he
theorem pvB_VP {p:Pl} (h:pvB p=true):VP p:=by
 simp only [pvB,Bool.and_eq_true] at h
 obtain ⟨h1,h2,h3,h4,h5⟩:=h
 simp only [Yf,Bool.and_eq_true,wi,decide_eq_true_eq] at h1
 simp only [Jm,Bool.and_eq_true,decide_eq_true_eq] at h2
 simp only [entsB,Bool.and_eq_true,decide_eq_true_eq] at h4
 refine ⟨h1.2.2.2.2.1,h1.2.2.2.2.2,?_,allI_mem h2.2.2.1,allE_mem h4.2⟩
 have hf:=h2.2.2.2
 unfold fillB at hf
 cases hx:Xe p.fi p.its with
 | none=>rw [hx] at hf;cases hf
 | some y =>
  rw [hx] at hf
  have hb:=itB_bd (allI_mem h2.2.2.1 y (fndI_mem hx).1)
  exact ⟨y,rfl,by simpa using hf,by omega,by omega⟩
theorem fill_allow {p:Pl} (h:VP p) (r f n:Int) (hr:0<=r/\r < 8) (hn:1<=n/\n<=1000000) (hf:0<=f/\f+n - 1<=100000000):Xo p p.fi r f n=true:=by
 obtain ⟨y,hy,hk,_⟩:=h.fill
 exact (allowB_iff _ _ _ _ _).2 ⟨⟨by omega,by omega,by omega,by omega⟩,fun x h1 h2=>⟨y,hy,hr,by omega,.inl hk⟩⟩
theorem Ut {p:Pl} (h:VP p) (hl:p.ln<=1000000) (x:Int×Int) (hx:0<=x.1/\1<=x.2/\x.2<=Xq p/\x.1+x.2<=p.ln):Wl p (Xu p x)=true:=by
 obtain ⟨y,hy,hk,hy1,hy2⟩:=h.fill
 have hff:Xq p=y.fr:=by simp only [Xq,hy]
 rw [hff] at hx
 have hre:(Xu p x).re=filM p:=rfl
 have hm:alwM p (Xu p x)=filM p:=by
  refine mskS_congr _ fun i hi=>?_
  exact fill_allow h i x.1 x.2 (by omega) (by omega) (by omega)
 have hrg:=h.rg
 have h1:and1X (filM p)=1:=and1_msk (n:=(min p.rg 8).toNat) (by omega) rfl
 have h2:andN (filM p) (filM p)=0:=andN_self (Qad _ _ (by omega))
 have hw:IntKind.i64.wrap (y.fr - x.2)=y.fr - x.2:=by rw [Qe]<;>omega
 have hit:(Xu p x).it=p.fi:=rfl
 have hfr:(Xu p x).fr=x.2:=rfl
 have hi0:(Xu p x).i=0:=rfl
 have hal:(Xu p x).al=[]:=rfl
 rw [Wl,hit,hy]
 simp only
 rw [hm,hre,hfr,hi0,hal,hw,h1,h2,if_neg (by omega),if_neg (by omega)]
 simp [altOK]
theorem ascK_all {lo up:Int} {ks:List Int} (h:Ul lo up none ks=true):ks.Pairwise (· < ·)/\∀ k∈ks,lo<=k/\k<=up:=by
 obtain ⟨h1,h2⟩:=ascK_spec h
 exact ⟨h1,fun k hk=>⟨(h2 k hk).1,(h2 k hk).2.1⟩⟩
theorem altOK_ok {p:Pl} {ev:Ev2} (hi:ev.i=0) (hf:0<=ev.fr/\ev.fr<=100000000):∀ {l:List Sp} {last:Int},(l.map (·.1)).Pairwise (· < ·)->(∀ a∈l,last < a.1/\a.1 < p.rg/\(∃ y,Xe a.2 p.its=some y/\y.fr=ev.fr)/\Xo p a.2 a.1 ev.st ev.fr=true)->altOK p ev last l=true
 | [],_,_,_=>rfl
 | a::r,last,h1,h2=>by
  obtain ⟨a1,a2,⟨y,hy,hyf⟩,a4⟩:=h2 a (by simp)
  simp only [List.map_cons,List.pairwise_cons] at h1
  have hw:IntKind.i64.wrap (0+ev.fr)=ev.fr:=by rw [Qe]<;>omega
  rw [altOK,hy]
  simp only
  rw [hi,hw,hyf,if_neg (by omega),a4]
  simp only [Bool.true_eq_false,if_false]
  refine altOK_ok hi hf h1.2 fun b hb=>?_
  obtain ⟨b1,b2,b3,b4⟩:=h2 b (by simp [hb])
  exact ⟨h1.1 b.1 (List.mem_map_of_mem (f:=fun x:Sp=>x.1) hb),b2,b3,b4⟩
theorem fitsB_spec {p:Pl} {e:En} (h:fitsB p e=true):∃ y,Xe e.it p.its=some y/\1<=e.fr/\e.fr<=y.fr:=by
 unfold fitsB at h
 cases hf:Xe e.it p.its with
 | none=>rw [hf] at h;cases h
 | some y =>
  rw [hf] at h
  simp only at h
  split at h
  ·cases h
  ·split at h
   ·cases h
   ·rename_i h2
    have h2:wi e.fr 1 y.fr=true:=by simpa using h2
    simp only [wi,decide_eq_true_eq] at h2
    exact ⟨y,rfl,h2⟩
theorem evt_sound {p:Pl} (h:VP p) {e:En} (he:e∈p.ens) (s:Int) (ha:Xo p e.it 0 s e.fr=true):Wl p (evtE p e s)=true:=by
 obtain ⟨e1,e2,e3⟩:=h.ens e he
 obtain ⟨y,hy,hf1,hf2⟩:=fitsB_spec e2
 have hyb:=itB_bd (h.its y (fndI_mem hy).1)
 have hrg:=h.rg
 have hm:alwM p (evtE p e s)=evM p e s:=rfl
 have h1:and1X (evM p e s)=1:=and1_msk (n:=(min p.rg 8).toNat) (by omega) ha
 have h2:andN (evM p e s) (evM p e s)=0:=andN_self (Qad _ _ (by omega))
 have hw:IntKind.i64.wrap (y.fr - e.fr)=y.fr - e.fr:=by rw [Qe]<;>omega
 simp only [altsB,Bool.and_eq_true,Bool.not_eq_true'] at e3
 obtain ⟨g1,g2⟩:=ascK_all e3.1
 have hall:∀ a∈e.al,Kq p e a=true:=fun a ha=>by
  have:=e3.2.2
  rw [List.any_eq_false] at this
  simpa using this a ha
 have halt:altOK p (evtE p e s) 0 (e.al.filter (altB p e s))=true:=by
  refine altOK_ok rfl ⟨by show 0<=e.fr;omega,by show e.fr<=100000000;omega⟩ ?_ fun a ha=>?_
  ·exact List.Pairwise.sublist (List.Sublist.map _ List.filter_sublist) g1
  ·obtain ⟨ha1,ha2⟩:=List.mem_filter.1 ha
   simp only [altB,Bool.and_eq_true,decide_eq_true_eq] at ha2
   have hfa:=hall a ha1
   unfold Kq at hfa
   cases hx:Xe a.2 p.its with
   | none=>rw [hx] at hfa;cases hfa
   | some z =>
    rw [hx] at hfa
    simp only [Bool.and_eq_true,decide_eq_true_eq] at hfa
    exact ⟨by omega,ha2.1.2,⟨z,rfl,hfa.1⟩,ha2.2⟩
 have hre:(evtE p e s).re=evM p e s:=rfl
 have hit:(evtE p e s).it=e.it:=rfl
 have hfr:(evtE p e s).fr=e.fr:=rfl
 have hi0:(evtE p e s).i=0:=rfl
 have hal:(evtE p e s).al=e.al.filter (altB p e s):=rfl
 have hid:(evtE p e s).id=e.id:=rfl
 rw [Wl,hit,hy]
 simp only
 rw [hm,hre,hfr,hi0,hal,hid,hw,h1,h2,halt,if_neg (by omega),if_neg (by omega)]
 simp;omega
end Go.Proofs.YtjmgelbfndnpjaaGreatDoor
