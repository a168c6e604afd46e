import Derived.Test.YtjmgelbfndnpjaaGreatDoorPPMK
import Derived.Test.YtjmgelbfndnpjaaGreatDoorPPMJ
set_option linter.unusedVariables false
set_option linter.unusedSimpArgs false
set_option maxRecDepth 100000
set_option maxHeartbeats 64000000
namespace Go.Proofs.YtjmgelbfndnpjaaGreatDoor
open Go Go.Abs
theorem secR_bd (nu de f:Int) : -1<=Vu nu de f/\Vu nu de f<=100000000:=by
 unfold Vu
 split
 ·rename_i h
  obtain ⟨h1,h2,h3⟩:=h
  obtain ⟨b1,b2,b3,b4,b5⟩:=Yu h1
  have q0:0<=f*de:=Int.mul_nonneg h2 (by omega)
  have q1:f*de<=f*nu:=Int.mul_le_mul_of_nonneg_left (by omega) h2
  have q2:0<=(f*de).tdiv nu:=Int.tdiv_nonneg q0 (by omega)
  have q3:(f*de).tdiv nu<=f:=by
   rw [Int.tdiv_eq_ediv_of_nonneg q0]
   exact Int.ediv_le_of_le_mul (by omega) q1
  omega
 ·omega
theorem second_pure (p:Pl) (f:Int) (ht:0<=p.ep/\p.ep<=9000000000):Pure Tryz.prog gl0 81 [.agg (Qc p),I f] (I (p.ep+Vu p.nu p.de f)):=by
 have h:=secs_pure p.nu p.de f
 have hb:=secR_bd p.nu p.de f
 have hw:IntKind.i64.wrap (p.ep+Vu p.nu p.de f)=p.ep+Vu p.nu p.de f:=by rw [Qe]<;>omega
 refine Qn code81 (fun _ f' l=>if f'=118 then I (Vu p.nu p.de f) else .junk) (by simp) ?_
 simp [sc81,Qc,rs81,hw]
 exact h
theorem frame_pure (p:Pl) (n:Int) (hn : -1000000000000<=n - p.ep/\n - p.ep<=1000000000000) (Y:YT) (m:AM) (b:Nat) (hb:b < m.boxes.length) (hr:Qf m.boxes b=Qc p) (K:AV->AM->Prop) (hK:K (I (Kv p.nu p.de (n - p.ep))) m) :
  EffY Tryz.prog gl0 Y 84 [I n,.ptr b 0] m K:=by
 have h:=frms_pure p.nu p.de (n - p.ep)
 have hw:IntKind.i64.wrap (n - p.ep)=n - p.ep:=by rw [Qe]<;>omega
 refine Zb code84 (fun _ f' l=>if f'=85 then I (Kv p.nu p.de (n - p.ep)) else .junk) (by simp) ?_
 simp [sc84,hr,Qc,rs84,hw,hb]
 exact ⟨h,hK⟩
def limL (p:Pl) (x:It) (region:Int) (s:Sp):List (List Sp):=Wj p.cls x.id region::(Kh p.cls x.ra).map fun w=>calS p.of p.sh s w.1 w.2
def slAV (l:List Sp):List AV:=[.sl .ro (l.map Qd)]
theorem limits_pure (p:Pl) (x:It) (region:Int) (s:Sp):Pure Tryz.prog gl0 82 [.agg (Qc p),.agg (Qg x),I region,.agg [I s.1,I s.2]] (.fn 119 [] [.ep (Qc p) 0,.ep (Qg x) 0,.ep [I region] 0,.ep [I s.1,I s.2] 0]):=by
 refine Qn code82 (fun _ _ _=>.junk) (by simp) ?_
 simp [sc82,rs82,Qc,Qg]
theorem limits_iter (p:Pl) (x:It) (region:Int) (s:Sp) (hc:p.cls.length<=1000000) (hsh:p.sh.length<=1000000000) (h1 : -9223372036854775808<=s.1/\s.1<=9223372036854775807) (h2 : -9223372036854775808<=s.2/\s.2<=9223372036854775807) :
  Iter Tryz.prog gl0 119 [] [.ep (Qc p) 0,.ep (Qg x) 0,.ep [I region] 0,.ep [I s.1,I s.2] 0] ((limL p x region s).map slAV):=by
 intro Y l m K hF
 have k119:=spans_pure p.cls x.id region hc
 have k120:=watersheds_pure p.cls x.ra (by omega)
 have hwl:(Kh p.cls x.ra).length<=1000000:=by
  unfold Kh
  rw [List.length_map]
  exact Nat.le_trans (List.length_filter_le _ _) hc
 refine Zb code119 (fun d f' l=>if f'=120 then .sl .ro ((Wj p.cls x.id region).map Qd) else if f'=121 then .sl .ro ((Kh p.cls x.ra).map Qd) else
  if f'=122 then (match l with | [_,_,.int _ a,.int _ b]=>.sl .ro ((calS p.of p.sh s a b).map Qd) | _=>.junk) else .junk) (by simp) ?_
 unfold limL at hF
 generalize hS:Wj p.cls x.id region=S at hF k119
 generalize hW:Kh p.cls x.ra=W at hF k120 hwl
 simp only [List.map_cons,slAV] at hF
 simp [sc119,Qc,Qg,hS,hW]
 refine ⟨k119,?_⟩
 refine hF _ (Ext.refl _) _ (fun m2 hF2=>?_) (fun m2 hK=>?_)
 ·rw [List.map_map] at hF2
  simp [hW]
  refine ⟨k120,?_⟩
  refine Ql w119_0 (fun f mm=>∃ i:Nat,f 23=I i/\i<=W.length/\Fold (Y l) K ((W.drop i).map (slAV ∘ fun w=>calS p.of p.sh s w.1 w.2)) mm) (fun f _=>W.length - (numOf (f 23)).toNat) ?_ ?_
  ·exact ⟨0,by simp,by omega,by simpa using hF2⟩
  ·rintro f mm ⟨i,h23,hi,hF3⟩
   rcases Nat.lt_or_ge i W.length with hlt | hge
   ·obtain ⟨w,hw⟩:=getS hlt
    have hrs:=Zm hw
    have hilt:(i:Int) < (W.length:Int):=by omega
    have hwr:=wrS i (by omega)
    have hd:W.drop i=w::W.drop (i+1):=by rw [List.drop_eq_getElem_cons hlt,(List.getElem?_eq_some_iff.1 hw).2]
    rw [hd,List.map_cons] at hF3
    simp only [Function.comp_apply,slAV] at hF3
    have k121:=calSpans_pure p.of p.sh s w.1 w.2 hsh h1 h2
    have hrd:∀ x,Qf (mm.boxes++[x]) mm.boxes.length=x:=fun x=>by
     simp
    simp [h23,w119_0,hlt,hilt,hrs,hrd]
    refine ⟨k121,?_⟩
    refine hF3 _ (Ext.box mm [[I w.1,I w.2]]) _ (fun m3 hF4=>?_) (fun m3 hK=>?_)
    ·simp [hwr]
     refine ⟨ag ?_,⟨i+1,by omega,by omega,by rw [<- List.map_drop];exact hF4⟩,by omega⟩
     repeat (first | exact Qa _ _ | refine Qb _ rfl ?_)
    ·simp [rs119]
     exact hK _ (Ext.refl _)
   ·obtain rfl:i=W.length:=by omega
    rw [List.drop_length,List.map_nil] at hF3
    simp [h23,w119_0,rs119]
    exact hF3 _ (Ext.refl _)
 ·simp [rs119]
  exact hK _ (Ext.refl _)
open Go Go.Abs
def tl33:SC:=(.block 2 (.loop (.seq (.ops [⟨(some 88),(.bin .lss (.tmp 87) (.tmp 86)),none,[]⟩]) (.seq (.cond (.tmp 88) .skip (.exit 2)) (.seq (.block 3 (.seq (.ops [⟨(some 89),(.iaddr 2 (.tmp 85) (.tmp 87)),none,[]⟩,⟨(some 90),(.load true 2 (.tmp 89)),none,[]⟩,⟨(some 17),(.alloc [(.int .i64 0),(.int .i64 0)]),none,[]⟩,⟨none,(.store 2 (.tmp 17) (.tmp 90)),none,[]⟩]) (.drawE [.oth,.pre,.pre,.pre,.eff,.oth,.oth,.oth,.eff,.oth,.oth,.eff] [⟨(some 91),(.mv (.tmp 15)),none,[]⟩,⟨(some 92),(.mv (.tmp 14)),none,[]⟩,⟨(some 93),(.faddr 0 (.tmp 17)),none,[]⟩,⟨(some 94),(.load false 1 (.tmp 93)),none,[]⟩,⟨(some 95),(.call (.tmp 92) [(.tmp 94)]),none,[]⟩,⟨(some 96),(.mv (.tmp 14)),none,[]⟩,⟨(some 97),(.faddr 1 (.tmp 17)),none,[]⟩,⟨(some 98),(.load false 1 (.tmp 97)),none,[]⟩,⟨(some 99),(.call (.tmp 96) [(.tmp 98)]),none,[]⟩,⟨(some 100),(.build [(.int .i64 0),(.int .i64 0)] [(0,(1,(.tmp 95))),(1,(1,(.tmp 99)))]),none,[]⟩,⟨(some 101),(.bsl 2 1 [(0,(.tmp 100))]),none,[]⟩] [⟨(some 102),(.app 2 16 (.tmp 91) (.tmp 101)),none,[]⟩,⟨(some 15),(.mv (.tmp 102)),none,[]⟩]))) (.ops [⟨(some 103),(.bin .add (.tmp 87) (.const (.int .i64 1))),none,[]⟩,⟨(some 87),(.mv (.tmp 103)),none,[]⟩]))))))
def hd33 (t:SC):SC:=(.seq (.ops [⟨(some 4),(.box (.tmp 0)),none,[]⟩,⟨(some 7),(.box (.tmp 3)),none,[]⟩,⟨(some 8),(.mv (.const (.sl .nil []))),none,[]⟩]) (.seq (.ops [⟨(some 18),(.faddr 0 (.tmp 7)),none,[]⟩,⟨(some 19),(.load false 1 (.tmp 18)),none,[]⟩,⟨(some 20),(.mx (.tmp 19) (.const (.int .i64 0))),none,[]⟩,⟨(some 21),(.faddr 1 (.tmp 7)),none,[]⟩,⟨(some 22),(.load false 1 (.tmp 21)),none,[]⟩,⟨(some 23),(.mn (.tmp 22) (.const (.int .i64 100000001))),none,[]⟩,⟨(some 24),(.build [(.int .i64 0),(.int .i64 0)] [(0,(1,(.tmp 20))),(1,(1,(.tmp 23)))]),none,[]⟩,⟨none,(.store 2 (.tmp 7) (.tmp 24)),none,[]⟩]) (.seq (.ops [⟨(some 26),(.load true 13 (.tmp 4)),none,[]⟩,⟨(some 27),(.mv (.tmp 1)),none,[]⟩,⟨(some 28),(.call (.func 79) [(.tmp 26),(.tmp 27)]),none,[]⟩,⟨(some 25),(.mv (.tmp 28)),none,[]⟩,⟨(some 29),(.ext (.tmp 25) 0),none,[]⟩,⟨(some 30),(.ext (.tmp 25) 1),none,[]⟩,⟨(some 9),(.alloc [(.int .i64 0),(.int .i64 0),(.int .i64 0),(.int .i64 0),(.int .i64 0)]),none,[]⟩,⟨none,(.store 5 (.tmp 9) (.tmp 29)),none,[]⟩,⟨(some 10),(.mv (.tmp 30)),none,[]⟩]) (.seq (.seq (.ops [⟨(some 31),(.mv (.tmp 10)),none,[]⟩,⟨(some 32),(.un .not (.tmp 31)),none,[]⟩,⟨(some 33),(.mv (.tmp 32)),none,[]⟩,⟨(some 34),(.mv (.tmp 2)),(some ((some 33),false)),[(.tmp 2)]⟩,⟨(some 35),(.bin .lss (.tmp 34) (.const (.int .i64 0))),(some ((some 33),false)),[(.tmp 34),(.const (.int .i64 0))]⟩,⟨(some 36),(.pick (.tmp 33) (.const (.bool true)) (.tmp 35)),none,[]⟩,⟨(some 37),(.mv (.tmp 36)),none,[]⟩,⟨(some 38),(.mv (.tmp 2)),(some ((some 37),false)),[(.tmp 2)]⟩,⟨(some 39),(.bin .geq (.tmp 38) (.const (.int .i64 8))),(some ((some 37),false)),[(.tmp 38),(.const (.int .i64 8))]⟩,⟨(some 40),(.pick (.tmp 37) (.const (.bool true)) (.tmp 39)),none,[]⟩]) (.cond (.tmp 40) (.seq (.ops [⟨(some 8),(.mv (.const (.sl .nil []))),none,[]⟩]) .ret) .skip)) (.seq (.seq (.ops [⟨(some 41),(.faddr 0 (.tmp 7)),none,[]⟩,⟨(some 42),(.load false 1 (.tmp 41)),none,[]⟩,⟨(some 43),(.faddr 1 (.tmp 7)),none,[]⟩,⟨(some 44),(.load false 1 (.tmp 43)),none,[]⟩,⟨(some 45),(.bin .geq (.tmp 42) (.tmp 44)),none,[]⟩,⟨(some 46),(.mv (.tmp 45)),none,[]⟩,⟨(some 47),(.faddr 1 (.tmp 7)),(some ((some 46),false)),[(.tmp 7)]⟩,⟨(some 48),(.load false 1 (.tmp 47)),(some ((some 46),false)),[(.tmp 47)]⟩,⟨(some 49),(.faddr 0 (.tmp 7)),(some ((some 46),false)),[(.tmp 7)]⟩,⟨(some 50),(.load false 1 (.tmp 49)),(some ((some 46),false)),[(.tmp 49)]⟩,⟨(some 51),(.bin .sub (.tmp 48) (.tmp 50)),(some ((some 46),false)),[(.tmp 48),(.tmp 50)]⟩,⟨(some 52),(.bin .gtr (.tmp 51) (.const (.int .i64 1000000))),(some ((some 46),false)),[(.tmp 51),(.const (.int .i64 1000000))]⟩,⟨(some 53),(.pick (.tmp 46) (.const (.bool true)) (.tmp 52)),none,[]⟩]) (.cond (.tmp 53) (.seq (.ops [⟨(some 8),(.mv (.const (.sl .nil []))),none,[]⟩]) .ret) .skip)) (.seq (.seq (.ops [⟨(some 54),(.faddr 1 (.tmp 9)),none,[]⟩,⟨(some 55),(.load false 1 (.tmp 54)),none,[]⟩,⟨(some 56),(.bin .eql (.tmp 55) (.const (.int .i64 5))),none,[]⟩]) (.cond (.tmp 56) (.seq (.ops [⟨(some 57),(.load true 2 (.tmp 7)),none,[]⟩,⟨(some 58),(.bsl 2 1 [(0,(.tmp 57))]),none,[]⟩,⟨(some 8),(.mv (.tmp 58)),none,[]⟩]) .ret) .skip)) (.seq (.seq (.ops [⟨(some 59),(.load true 13 (.tmp 4)),none,[]⟩,⟨(some 60),(.call (.func 80) [(.tmp 59)]),none,[]⟩,⟨(some 61),(.un .not (.tmp 60)),none,[]⟩]) (.cond (.tmp 61) (.seq (.ops [⟨(some 8),(.mv (.const (.sl .nil []))),none,[]⟩]) .ret) .skip)) (.seq (.draw [⟨(some 62),(.load true 13 (.tmp 4)),none,[]⟩,⟨(some 63),(.faddr 0 (.tmp 7)),none,[]⟩,⟨(some 64),(.load false 1 (.tmp 63)),none,[]⟩,⟨(some 65),(.call (.func 81) [(.tmp 62),(.tmp 64)]),none,[]⟩,⟨(some 66),(.load true 13 (.tmp 4)),none,[]⟩,⟨(some 67),(.faddr 1 (.tmp 7)),none,[]⟩,⟨(some 68),(.load false 1 (.tmp 67)),none,[]⟩,⟨(some 69),(.bin .sub (.tmp 68) (.const (.int .i64 1))),none,[]⟩,⟨(some 70),(.call (.func 81) [(.tmp 66),(.tmp 69)]),none,[]⟩,⟨(some 71),(.bin .add (.tmp 70) (.const (.int .i64 1))),none,[]⟩,⟨(some 72),(.build [(.int .i64 0),(.int .i64 0)] [(0,(1,(.tmp 65))),(1,(1,(.tmp 71)))]),none,[]⟩,⟨(some 11),(.alloc [(.int .i64 0),(.int .i64 0)]),none,[]⟩] [⟨none,(.store 2 (.tmp 11) (.tmp 72)),none,[]⟩]) (.seq (.ops [⟨(some 73),(.load true 2 (.tmp 11)),none,[]⟩,⟨(some 74),(.bsl 2 1 [(0,(.tmp 73))]),none,[]⟩,⟨(some 12),(.alloc [(.sl .nil [])]),none,[]⟩,⟨none,(.store 1 (.tmp 12) (.tmp 74)),none,[]⟩]) (.seq (.seq (.ops [⟨(some 75),(.load true 13 (.tmp 4)),none,[]⟩,⟨(some 76),(.load true 5 (.tmp 9)),none,[]⟩,⟨(some 77),(.mv (.tmp 2)),none,[]⟩,⟨(some 78),(.load true 2 (.tmp 11)),none,[]⟩,⟨(some 79),(.call (.func 82) [(.tmp 75),(.tmp 76),(.tmp 77),(.tmp 78)]),none,[]⟩]) (.block 0 (.rfunc (.tmp 79) [80] (.ops [⟨(some 13),(.mv (.tmp 80)),none,[]⟩]) (.block 1 (.ops [⟨(some 81),(.load false 1 (.tmp 12)),none,[]⟩,⟨(some 82),(.mv (.tmp 13)),none,[]⟩,⟨(some 83),(.call (.func 83) [(.tmp 81),(.tmp 82)]),none,[]⟩,⟨none,(.store 1 (.tmp 12) (.tmp 83)),none,[]⟩]))))) (.seq (.ops [⟨(some 84),(.mkfn 84 [] [(.tmp 4)]),none,[]⟩,⟨(some 14),(.mv (.tmp 84)),none,[]⟩]) (.seq (.ops [⟨(some 15),(.mv (.const (.sl .nil []))),none,[]⟩]) (.seq (.seq (.ops [⟨(some 85),(.load false 1 (.tmp 12)),none,[]⟩,⟨(some 86),(.len (.tmp 85)),none,[]⟩,⟨(some 87),(.mv (.const (.int .i64 0))),none,[]⟩]) t) (.seq (.ops [⟨(some 104),(.mv (.tmp 15)),none,[]⟩,⟨(some 105),(.load true 2 (.tmp 7)),none,[]⟩,⟨(some 106),(.bsl 2 1 [(0,(.tmp 105))]),none,[]⟩,⟨(some 107),(.call (.func 83) [(.tmp 104),(.tmp 106)]),none,[]⟩,⟨(some 8),(.mv (.tmp 107)),none,[]⟩]) .ret))))))))))))))
theorem sc33_eq:sc33=hd33 tl33:=rfl
def frS (p:Pl) (w:Sp):Sp:=(Kv p.nu p.de (w.1 - p.ep),Kv p.nu p.de (w.2 - p.ep))
theorem frames_vc (Y:YT) (p:Pl) (orc:Nat->FuncId->List AV->AV) (ho:∀ d l,orc d 74 l=.gd false .junk) (ho9:∀ d l,orc d 999999 l=.junk) (E:List (Nat×AV)) (m:AM) (U:List Sp) (rt:Rt) (Q:Exit->AS->Prop)
  (h85:Abs.look E 85=.sl rt (U.map Qd)) (h86:Abs.look E 86=I U.length) (h87:Abs.look E 87=I 0) (h14:Abs.look E 14=.fn 84 [] [.ptr 0 0]) (h15:Abs.look E 15=.sl .nil [])
  (h0:0 < m.boxes.length) (hr:Qf m.boxes 0=Qc p) (hU:U.length<=10000000) (hUb:∀ w∈U,(-1000000000000<=w.1 - p.ep/\w.1 - p.ep<=1000000000000)/\(-1000000000000<=w.2 - p.ep/\w.2 - p.ep<=1000000000000))
  (hQ:∀ E' bx Lm rt',Agree w33_0 E' E->Abs.look E' 15=.sl rt' ((U.map (frS p)).map Qd)->(rt'=.nil/\U=[]\/U≠[]/\∃ k,rt'=.own k 2)->Q .normal ⟨Vd 108 E',⟨m.boxes++bx,Lm,m.st,m.ln⟩⟩) :
  vc Tryz.prog gl0 orc Y tl33 ⟨Vd 108 E,m⟩ Q:=by
 simp [tl33]
 refine Ql w33_0 (fun f mm=>∃ (i:Nat) (bx:List (List AV)) (Lm:List Nat) (rt':Rt),f 87=I i/\i<=U.length/\mm=⟨m.boxes++bx,Lm,m.st,m.ln⟩/\f 15=.sl rt' ((U.map (Qd ∘ frS p)).take i)/\(i=0/\rt'=.nil\/i≠0/\∃ k,rt'=.own k 2/\Lm[k]? = some i)) (fun f _=>U.length - (numOf (f 87)).toNat) ?_ ?_
 ·exact ⟨0,[],m.lens,.nil,by simp [h87],by omega,by simp,by simp [h15],.inl ⟨rfl,rfl⟩⟩
 ·rintro f mm ⟨i,bx,Lm,rt',h87',hi,rfl,h15',hrt⟩
  rcases Nat.lt_or_ge i U.length with hlt | hge
  ·obtain ⟨w,hw⟩:=getS hlt
   have hrs:=Zm hw
   obtain ⟨c1,c2⟩:=hUb w (List.mem_of_getElem? hw)
   have hilt:(i:Int) < (U.length:Int):=by omega
   have hwr:=wrS i (by omega)
   have hw1:IntKind.i64.wrap 1=1:=by rw [Qe]<;>omega
   have htk:U.take (i+1)=U.take i++[w]:=by rw [List.take_add_one,hw];rfl
   have htl:(U.take i).length=i:=by rw [List.length_take];omega
   have hrb:∀ x,Qf (m.boxes++(bx++[x])) (m.boxes.length+bx.length)=x:=fun x=>by
    simp
   have hr0:∀ x,Qf (m.boxes++x) 0=Qc p:=fun x=>by rw [Qh h0];exact hr
   have e1:=fun m' h1 h2 K hK=>frame_pure p w.1 c1 Y m' 0 h1 h2 K hK
   have e2:=fun m' h1 h2 K hK=>frame_pure p w.2 c2 Y m' 0 h1 h2 K hK
   have hG:(U.map (Qd ∘ frS p)).take (i+1)=(U.map (Qd ∘ frS p)).take i++[[I (Kv p.nu p.de (w.1 - p.ep)),I (Kv p.nu p.de (w.2 - p.ep))]]:=by rw [List.take_add_one,List.getElem?_map,hw];rfl
   have hGl:((U.map (Qd ∘ frS p)).take i).length=i:=by rw [List.length_take,List.length_map];omega
   have hG2:∀ row∈(U.map (Qd ∘ frS p)).take i,row.length=2:=by
    intro row h
    obtain ⟨a,_,rfl⟩:=List.mem_map.1 (List.mem_of_mem_take h)
    rfl
   generalize hGG:(U.map (Qd ∘ frS p)).take i=G at *
   rcases hrt with ⟨rfl,rfl⟩ | ⟨hne,k,rfl,hk⟩
   ·simp [h87',h85,h86,h14,h15',w33_0,hlt,hilt,hrs,hrb,ho,ho9]
    refine Jb [(I (Kv p.nu p.de (w.1 - p.ep)),⟨m.boxes++(bx++[[I w.1,I w.2]]),Lm,m.st,m.ln⟩),(I (Kv p.nu p.de (w.2 - p.ep)),⟨m.boxes++(bx++[[I w.1,I w.2]]),Lm,m.st,m.ln⟩)] ?_
    simp [h87',h85,h86,h14,h15',hlt,hilt,hrs,hrb,ho,ho9,hwr,hw1]
    refine ⟨e1 _ (by simp;omega) (hr0 _) _ ⟨rfl,rfl⟩,e2 _ (by simp;omega) (hr0 _) _ ⟨rfl,rfl⟩,⟨by rintro row (h | rfl);exact hG2 row h;rfl,by omega⟩,ag ?_,?_,by omega⟩
    ·repeat (first | exact Qa _ _ | refine Qb _ rfl ?_)
    ·exact ⟨1,rfl,by omega,_,_,⟨rfl,rfl⟩,_,⟨rfl,hG.symm⟩,.inr ⟨by omega,Lm.length,rfl,by simp [hGl]⟩⟩
   ·simp [h87',h85,h86,h14,h15',w33_0,hlt,hilt,hrs,hrb,ho,ho9]
    refine Jb [(I (Kv p.nu p.de (w.1 - p.ep)),⟨m.boxes++(bx++[[I w.1,I w.2]]),Lm,m.st,m.ln⟩),(I (Kv p.nu p.de (w.2 - p.ep)),⟨m.boxes++(bx++[[I w.1,I w.2]]),Lm,m.st,m.ln⟩)] ?_
    simp [h87',h85,h86,h14,h15',hlt,hilt,hrs,hrb,ho,ho9,hwr,hk]
    refine ⟨e1 _ (by simp;omega) (hr0 _) _ ⟨rfl,rfl⟩,e2 _ (by simp;omega) (hr0 _) _ ⟨rfl,rfl⟩,⟨hGl.symm,by rintro row (h | rfl);exact hG2 row h;rfl,by omega⟩,ag ?_,?_,by omega⟩
    ·repeat (first | exact Qa _ _ | refine Qb _ rfl ?_)
    ·exact ⟨i+1,by omega,by omega,_,_,⟨rfl,rfl⟩,_,⟨rfl,hG.symm⟩,.inr ⟨by omega,k,rfl,by simp [hGl,(List.getElem?_eq_some_iff.1 hk).1]⟩⟩
  ·obtain rfl:i=U.length:=by omega
   rw [List.take_of_length_le (by simp)] at h15'
   simp [h87',h86,w33_0]
   refine hQ _ bx Lm rt' ?_ ?_ ?_
   ·repeat (first | exact Qa _ _ | refine Qb _ rfl ?_)
   ·simp [h15']
   ·rcases hrt with ⟨h1,h2⟩ | ⟨h1,k,h2,h3⟩
    ·exact .inl ⟨h2,List.length_eq_zero_iff.1 h1⟩
    ·exact .inr ⟨fun h=>h1 (by rw [h];rfl),k,h2⟩
open Go Go.Abs
theorem VS_len:∀ (l:List Sp) (lo hi:Int),VS l->(∀ w∈l,lo<=w.1/\w.2<=hi)->(l.length:Int)<=max 0 (hi - lo)
 | [],lo,hi,_,_=>by simp only [List.length_nil];omega
 | s::l,lo,hi,h,hb=>by
  obtain ⟨h1,h2,h3⟩:=VS_cons.1 h
  have:=VS_len l (s.2+1) hi h3 (fun w hw=>⟨by have:=h2 w hw;omega,(hb w (by simp [hw])).2⟩)
  have b:=hb s (by simp)
  simp only [List.length_cons];omega
def InB (lo hi:Int) (l:List Sp):Prop:=∀ w∈l,lo<=w.1/\w.1<=hi/\lo<=w.2/\w.2<=hi
theorem intS_in {lo hi:Int} {a b:List Sp} (h:InB lo hi a):InB lo hi (Wp a b):=by
 obtain ⟨⟨h1,_⟩,h2⟩:=intS_ok a b
 intro w hw
 have hlt:=h1 w hw
 obtain ⟨s,hs,s1,s2⟩:=((h2 w.1).1 ⟨w,hw,by omega,hlt⟩).1
 obtain ⟨t,ht,t1,t2⟩:=((h2 (w.2 - 1)).1 ⟨w,hw,by omega,by omega⟩).1
 have:=h s hs;have:=h t ht
 omega
theorem intS_len {lo hi:Int} {a b:List Sp} (h:InB lo hi a):((Wp a b).length:Int)<=max 0 (hi - lo) :=
 VS_len _ _ _ (intS_ok a b).1 (fun w hw=>⟨(intS_in h w hw).1,(intS_in h w hw).2.2.2⟩)
theorem secR_diff {nu de f g:Int} (hv:Zh nu de=true) (h0:0<=f) (hfg:f<=g) (hg:g<=100000000):Vu nu de f<=Vu nu de g/\Vu nu de g<=Vu nu de f+(g - f):=by
 obtain ⟨b1,b2,b3,b4,b5⟩:=Yu hv
 rw [Vu,Vu,if_pos ⟨hv,h0,by omega⟩,if_pos ⟨hv,by omega,hg⟩]
 have q0:0<=f*de:=Int.mul_nonneg h0 (by omega)
 have q1:0<=g*de:=Int.mul_nonneg (by omega) (by omega)
 rw [Int.tdiv_eq_ediv_of_nonneg q0,Int.tdiv_eq_ediv_of_nonneg q1]
 have m1:f*de<=g*de:=Int.mul_le_mul_of_nonneg_right hfg (by omega)
 have m2:(g - f)*de<=(g - f)*nu:=Int.mul_le_mul_of_nonneg_left (by omega) (by omega)
 have m3:g*de<=f*de+(g - f)*nu:=by
  have:g*de=f*de+(g - f)*de:=by rw [<- Int.add_mul];congr 1;omega
  omega
 constructor
 ·exact Int.ediv_le_ediv (by omega) m1
 ·have:=Int.ediv_le_ediv (c:=nu) (by omega) m3
  rw [Int.add_mul_ediv_right _ _ (by omega)] at this
  exact this
def Qap (s:Sp):Sp:=(max s.1 0,min s.2 100000001)
def uS (p:Pl) (c:Sp):Sp:=(p.ep+Vu p.nu p.de c.1,p.ep+Vu p.nu p.de (c.2 - 1)+1)
def curS (p:Pl) (x:It) (region:Int) (u:Sp) (i:Nat):List Sp:=((limL p x region u).take i).foldl Wp [u]
def Zr (p:Pl) (id region:Int) (s:Sp):List Sp :=
 let c:=Qap s
 match Xe id p.its with
 | none=>[]
 | some x=>if region < 0\/8<=region\/c.2<=c.1\/1000000 < c.2 - c.1 then [] else if x.ki=5 then [c] else if Jk p=false then [] else
  Wp ((curS p x region (uS p c) (limL p x region (uS p c)).length).map (frS p)) [c]
def unSp:List AV->Sp
 | [.int _ a,.int _ b]=>(a,b)
 | _=>(0,0)
@[simp] theorem unSp_sp (l:List Sp):(l.map Qd).map unSp=l:=by
 induction l with
 | nil=>rfl
 | cons a l ih=>simp only [List.map_cons,ih];rfl
@[simp] theorem unSp_sp' (l:List Sp):l.map (unSp ∘ Qd)=l:=by rw [<- List.map_map];exact unSp_sp l
@[simp] theorem unSp_one (a b:Int):unSp [I a,I b]=(a,b):=rfl
def Wm (p:Pl) (id region:Int) (s:Sp):Nat->FuncId->List AV->AV:=fun d f l =>
 if f=999999 then .junk else
 if f=79 then Zo (Xe id p.its) else
 if f=80 then .bool (Jk p) else
 if f=81 then (match l with | [_,.int _ n]=>I (p.ep+Vu p.nu p.de n) | _=>.junk) else
 if f=82 then (match l with | [_,.agg x,_,.agg u]=>.fn 119 [] [.ep (Qc p) 0,.ep x 0,.ep [I region] 0,.ep u 0] | _=>.junk) else
 if f=83 then (match l with | [.sl _ A,.sl _ B]=>.sl .ro ((Wp (A.map unSp) (B.map unSp)).map Qd) | _=>.junk) else .gd false .junk
theorem spansR_len (cs:List Cl) (item region:Int) (h:cs.length<=1000000):(Wj cs item region).length<=2000000:=by
 have h1:=Vs (outC (bdC (Uv cs item region)) (finC (Uv cs item region)) (bdC (Uv cs item region)).length)
 have h2:=outC_len (bdC (Uv cs item region)) (finC (Uv cs item region)) (bdC (Uv cs item region)).length
 have h3:=bdC_len (Uv cs item region)
 have h4:(Uv cs item region).length<=cs.length:=List.length_filter_le _ _
 unfold Wj;omega
theorem limL_len (p:Pl) (x:It) (region:Int) (u:Sp) (h:p.cls.length<=1000000):∀ l∈limL p x region u,l.length<=2000000:=by
 intro l hl
 rw [limL,List.mem_cons,List.mem_map] at hl
 rcases hl with rfl | ⟨w,_,rfl⟩
 ·exact spansR_len _ _ _ h
 ·have:=calS_len p.of p.sh u w.1 w.2;omega
theorem fold_in {lo hi:Int}:∀ (ls:List (List Sp)) (a:List Sp),InB lo hi a->InB lo hi (ls.foldl Wp a)
 | [],a,h=>h
 | l::r,a,h=>fold_in r _ (intS_in h)
theorem foldI_len {lo hi:Int}:∀ (ls:List (List Sp)) (a:List Sp),InB lo hi a->(a.length:Int)<=max 1 (hi - lo)->((ls.foldl Wp a).length:Int)<=max 1 (hi - lo)
 | [],a,_,h=>h
 | l::r,a,h,hl=>foldI_len r _ (intS_in h) (by have:=intS_len (b:=l) h;omega)
theorem permS_pure0 (p:Pl) (id region:Int) (s:Sp) (hc:p.cls.length<=1000000) (hsh:p.sh.length<=1000000000) (hit:p.its.length<=1000000000) (h1 : -9223372036854775808<=s.1/\s.1<=9223372036854775807) (h2 : -9223372036854775808<=s.2/\s.2<=9223372036854775807) :
  ∃ rt,Pure Tryz.prog gl0 33 [.agg (Qc p),I id,I region,.agg [I s.1,I s.2]] (.sl rt ((Zr p id region s).map Qd)):=by
 have k69:=Us p id hit
 have k70:=timed_pure p hsh
 obtain ⟨c,hcS⟩:∃ c,Qap s=c:=⟨_,rfl⟩
 have hcb:0<=c.1/\c.2<=100000001/\c.1<=9223372036854775807 /\ -9223372036854775808<=c.2:=by rw [<- hcS,Qap];simp only;omega
 have hmx:max s.1 0=c.1:=by rw [<- hcS];rfl
 have hmn:min s.2 100000001=c.2:=by rw [<- hcS];rfl
 have hmx':(if s.1 < 0 then 0 else s.1)=c.1:=by omega
 have hmn':(if 100000001 < s.2 then 100000001 else s.2)=c.2:=by omega
 cases hfx:Xe id p.its with
 | none =>
  have hP:Zr p id region s=[]:=by simp [Zr,hfx]
  rw [hP]
  refine ⟨.nil,Qn code33 (Wm p id region s) (by simp) ?_⟩
  rw [sc33_eq]
  simp [hd33,Qc,Wm,hfx,Zo,rs33,hmx',hmn']
  simpa [hfx,Zo,Qc] using k69
 | some x =>
  rw [hfx] at k69
  by_cases hb:region < 0\/8<=region\/c.2<=c.1\/1000000 < c.2 - c.1
  ·have hP:Zr p id region s=[]:=by simp only [Zr,hfx,hcS,if_pos hb]
   rw [hP]
   refine ⟨.nil,Qn code33 (Wm p id region s) (by simp) ?_⟩
   have k69':Abs.Pure Tryz.prog gl0 79 [.agg (Qc p),I id] (.tup [.agg (Qg x),.bool true]):=k69
   rw [sc33_eq]
   by_cases b1:region < 0
   ·simp [hd33,Qc,Wm,hfx,Zo,Qg,rs33,hmx',hmn',b1,Qd]
    exact k69'
   ·by_cases b2:8<=region
    ·simp [hd33,Qc,Wm,hfx,Zo,Qg,rs33,hmx',hmn',b1,b2,Qd]
     exact k69'
    ·by_cases b3:c.2<=c.1
     ·simp [hd33,Qc,Wm,hfx,Zo,Qg,rs33,hmx',hmn',b1,b2,b3,Qd]
      exact k69'
     ·have b4:1000000 < c.2 - c.1:=by omega
      have hw:IntKind.i64.wrap (c.2 - c.1)=c.2 - c.1:=by rw [Qe]<;>omega
      simp [hd33,Qc,Wm,hfx,Zo,Qg,rs33,hmx',hmn',b1,b2,b3,b4,hw,Qd]
      exact k69'
  ·simp only [not_or] at hb
   obtain ⟨b1,b2,b3,b4⟩:=hb
   have hw:IntKind.i64.wrap (c.2 - c.1)=c.2 - c.1:=by rw [Qe]<;>omega
   by_cases hk:x.ki=5
   ·have hP:Zr p id region s=[c]:=by simp only [Zr,hfx,hcS,if_neg (show ¬ (region < 0\/8<=region\/c.2<=c.1\/1000000 < c.2 - c.1) by omega),if_pos hk]
    rw [hP]
    refine ⟨.full,Qn code33 (Wm p id region s) (by simp) ?_⟩
    rw [sc33_eq]
    simp [hd33,Qc,Wm,hfx,Zo,Qg,rs33,hmx',hmn',b1,b2,b3,b4,hw,hk,Qd]
    rw [Zo,Qg,hk] at k69
    exact k69
   ·have hsmall:=secR_bd p.nu p.de c.1
    have hsmall2:=secR_bd p.nu p.de (c.2 - 1)
    have hw1:IntKind.i64.wrap (c.2 - 1)=c.2 - 1:=by rw [Qe]<;>omega
    have k69':Abs.Pure Tryz.prog gl0 79 [.agg (Qc p),I id] (.tup [.agg (Qg x),.bool true]):=k69
    by_cases ht:Jk p=true
    ·have hte:Zh p.nu p.de=true/\0<=p.ep/\p.ep<=9000000000:=by
      simp only [Jk,Bool.and_eq_true,decide_eq_true_eq] at ht
      exact ⟨ht.1.1,ht.2⟩
     have hw2:IntKind.i64.wrap (p.ep+Vu p.nu p.de (c.2 - 1)+1)=p.ep+Vu p.nu p.de (c.2 - 1)+1:=by rw [Qe]<;>omega
     have hw3:IntKind.i64.wrap (p.ep+Vu p.nu p.de c.1)=p.ep+Vu p.nu p.de c.1:=by rw [Qe]<;>omega
     have k70':=k70
     rw [ht] at k70'
     have k71:=second_pure p c.1 hte.2
     have k71':=second_pure p (c.2 - 1) hte.2
     obtain ⟨u,hu⟩:∃ u,uS p c=u:=⟨_,rfl⟩
     have hu1:p.ep+Vu p.nu p.de c.1=u.1:=by rw [<- hu];rfl
     have hu2:p.ep+Vu p.nu p.de (c.2 - 1)+1=u.2:=by rw [<- hu];rfl
     have hu3:IntKind.i64.wrap u.2=u.2:=by rw [<- hu2];exact hw2
     have hdf:=secR_diff (f:=c.1) (g:=c.2 - 1) hte.1 (by omega) (by omega) (by omega)
     have k72:=limits_pure p x region u
     have hP:Zr p id region s=Wp ((curS p x region u (limL p x region u).length).map (frS p)) [c]:=by
      simp only [Zr,hfx,hcS,hu,if_neg (show ¬ (region < 0\/8<=region\/c.2<=c.1\/1000000 < c.2 - c.1) by omega),if_neg hk,ht]
      simp
     rw [hP]
     refine ⟨.ro,Qn code33 (Wm p id region s) (by simp) ?_⟩
     rw [sc33_eq]
     simp [hd33,Qc,Wm,hfx,Zo,Qg,hmx',hmn',b1,b2,b3,b4,hw,hk,Qd,ht,hw1,hw2,hu1,hu2,hu3]
     rw [hu1] at k71
     refine ⟨k69',k70' ,k71,k71',k72,?_⟩
     have hub : -9223372036854775808<=u.1/\u.1<=9223372036854775807 /\ -9223372036854775808<=u.2/\u.2<=9223372036854775807:=by omega
     have hLi:=limits_iter p x region u hc hsh ⟨hub.1,hub.2.1⟩ hub.2.2
     have hLl:=limL_len p x region u hc
     have hin0:InB u.1 u.2 [u]:=by intro w hw;simp at hw;subst hw;omega
     have hcin:∀ i,InB u.1 u.2 (curS p x region u i):=fun i=>fold_in _ _ hin0
     have hcl:∀ i,(curS p x region u i).length<=2000000:=fun i=>by
      have:=foldI_len ((limL p x region u).take i) [u] hin0 (by simp;omega)
      unfold curS;omega
     have hcs:∀ i l,(limL p x region u)[i]? = some l->curS p x region u (i+1)=Wp (curS p x region u i) l:=fun i l h=>by
      unfold curS;rw [List.take_add_one,h,List.foldl_append];rfl
     have hc0:curS p x region u 0=[u]:=by simp [curS]
     have hps:∀ y,frS p y=frS p y:=fun _=>rfl
     generalize hXs:limL p x region u=Xs at *
     refine Ud (xs:=Xs.map slAV) (by simp;exact ⟨rfl,rfl⟩) hLi (by intro y hy;simp [slAV] at hy;obtain ⟨a,_,rfl⟩:=hy;rfl)
      (fun i m=>∃ (bx:List (List AV)) (rt:Rt),m.boxes=Qc p::[I c.1,I c.2]::Qg x::[I u.1,I u.2]::[.sl rt ((curS p x region u i).map Qd)]::bx/\(rt=.full\/rt=.ro)) (fun _ _=>False) ?_ ?_ (fun _ _ _ h=>h.elim) ?_ ?_ (fun _ _ h=>h.elim)
     ·refine ⟨[],.full,?_,.inl rfl⟩
      rw [hc0];rfl
     ·rintro i m m' ⟨bx,rt,hb,hrt⟩ ⟨⟨b2,e1⟩,_,_⟩
      exact ⟨bx++b2,rt,by rw [e1,hb];rfl,hrt⟩
     ·rintro l i m y hg hr ⟨bx,rt,hb,hrt⟩ hy K' q1 _ _
      rw [List.getElem?_map,Option.map_eq_some_iff] at hy
      obtain ⟨y,hy,rfl⟩:=hy
      rw [Vw] at hb
      have hyl:=hLl y (List.mem_of_getElem? hy)
      have k73:=intersect_pure (curS p x region u i) y (by have:=hcl i;omega) (by omega)
      have hn:=hcs i y hy
      generalize curS p x region u i=C at *
      rcases hrt with rfl | rfl
      ·have k73':=Yh (l:=[.sl .full (C.map Qd),.sl .ro (y.map Qd)]) k73 ⟨Wk.sl _ _,Wk.refl _,trivial⟩
       simp [hr,Xh,slAV,hb,Wm]
       refine ⟨k73',q1 _ ⟨bx,.ro,?_,.inr rfl⟩⟩
       simp [hb,hn]
      ·simp [hr,Xh,slAV,hb,Wm]
       refine ⟨k73,q1 _ ⟨bx,.ro,?_,.inr rfl⟩⟩
       simp [hb,hn]
     ·rintro m ⟨bx,rt,hb,hrt⟩
      have hcU:=hcl Xs.length
      have hcI:=hcin Xs.length
      rw [List.length_map] at hb
      generalize curS p x region u Xs.length=C at *
      have k73:=intersect_pure (C.map (frS p)) [c] (by simp;omega) (by simp)
      have hbd:∀ w∈C,(-1000000000000<=w.1 - p.ep/\w.1 - p.ep<=1000000000000)/\(-1000000000000<=w.2 - p.ep/\w.2 - p.ep<=1000000000000):=fun w hw=>by have:=hcI w hw;omega
      have leaf:∀ rt,Abs.Pure Tryz.prog gl0 83 [.sl rt (C.map (Qd ∘ frS p)),.sl .full [[I c.1,I c.2]]] (.sl .ro ((Wp (C.map (unSp ∘ Qd ∘ frS p)) [(c.1,c.2)]).map Qd))/\(Wp (C.map (unSp ∘ Qd ∘ frS p)) [(c.1,c.2)]).map Qd=(Wp (C.map (frS p)) [c]).map Qd:=by
       have e1:C.map (unSp ∘ Qd ∘ frS p)=C.map (frS p):=List.map_congr_left fun _ _=>rfl
       intro rt
       rw [e1]
       refine ⟨?_,rfl⟩
       have:=Yh (l:=[.sl rt ((C.map (frS p)).map Qd),.sl .full ([c].map Qd)]) k73 ⟨Wk.sl _ _,Wk.sl _ _,trivial⟩
       rw [List.map_map] at this
       exact this
      rcases hrt with rfl | rfl
      ·simp [hb]
       refine frames_vc Y0 p (Wm p id region s) (fun _ _=>rfl) (fun _ _=>rfl) _ _ C .full _ (by simp) (by simp) (by simp) (by simp) (by simp) (by simp [hb]) (by simp [hb]) (by omega) hbd ?_
       intro E' bx' Lm rt' hA h15 hrt'
       have h7:Abs.look E' 7=.ptr 1 0:=by rw [hA 7 (by decide)];simp
       rcases hrt' with ⟨rfl,hC⟩ | ⟨hC,k,rfl⟩
       ·simp [h7,h15,hb,Wm,rs33]
        exact leaf _
       ·simp [h7,h15,hb,Wm,rs33]
        exact leaf _
      ·simp [hb]
       refine frames_vc Y0 p (Wm p id region s) (fun _ _=>rfl) (fun _ _=>rfl) _ _ C .ro _ (by simp) (by simp) (by simp) (by simp) (by simp) (by simp [hb]) (by simp [hb]) (by omega) hbd ?_
       intro E' bx' Lm rt' hA h15 hrt'
       have h7:Abs.look E' 7=.ptr 1 0:=by rw [hA 7 (by decide)];simp
       rcases hrt' with ⟨rfl,hC⟩ | ⟨hC,k,rfl⟩
       ·simp [h7,h15,hb,Wm,rs33]
        exact leaf _
       ·simp [h7,h15,hb,Wm,rs33]
        exact leaf _
    ·have ht':Jk p=false:=by simpa using ht
     rw [ht'] at k70
     have hP:Zr p id region s=[]:=by simp only [Zr,hfx,hcS,if_neg (show ¬ (region < 0\/8<=region\/c.2<=c.1\/1000000 < c.2 - c.1) by omega),if_neg hk,if_pos ht']
     rw [hP]
     refine ⟨.nil,Qn code33 (Wm p id region s) (by simp) ?_⟩
     rw [sc33_eq]
     simp [hd33,Qc,Wm,hfx,Zo,Qg,rs33,hmx',hmn',b1,b2,b3,b4,hw,hk,Qd,ht']
     exact ⟨k69',k70⟩
theorem permS_pure (p:Pl) (id region:Int) (s:Sp) (hc:p.cls.length<=1000000) (hsh:p.sh.length<=1000000000) (hit:p.its.length<=1000000000) (h1 : -9223372036854775808<=s.1/\s.1<=9223372036854775807) (h2 : -9223372036854775808<=s.2/\s.2<=9223372036854775807) :
  Pure Tryz.prog gl0 33 [.agg (Qc p),I id,I region,.agg [I s.1,I s.2]] (.sl .ro ((Zr p id region s).map Qd)):=by
 obtain ⟨rt,h⟩:=permS_pure0 p id region s hc hsh hit h1 h2
 exact Yc h (Wk.sl _ _)
end Go.Proofs.YtjmgelbfndnpjaaGreatDoor
