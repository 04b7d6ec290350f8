/- Functions of the program: what each answers, and that the machine answers so. -/
import Derived.Test.YtganfdhmkdehlaaGreatDoorQ2004B4
import Derived.KernelRfl
set_option linter.all false
namespace Go.Proofs.YtganfdhmkdehlaaGreatDoor
open Go Go.HL Tryz
attribute [local irreducible] W WO
def fZ (fu:Nat):Nat→Int→ac→Rd→Option (ac×Rd)
 | 0,_,_,_=>none
 | n1+1,i14,i15,i16=>cond (decide (0<i14)) ((uW fu i16 i15).bind fun q17=>(fZ fu n1) (IntKind.i64.wrap (i14-1)) q17.1 q17.2) ((d7 fu i15).bind fun q18=>some (q18,i16))
def iy (fu:Nat)(i11:ac)(i12:Rd):Option (ac×Rd):=(f73 fu i12 ([8,14,20,28,4,0]:List Int)).bind fun q13=>fZ fu fu q13.1 i11 q13.2
def u6 (fu:Nat)(a0:Rd):Option (ac×Rd):=(oU fu a0).bind fun q2=>(lY fu (⟨d0_1026.tabs,d0_1026.links⟩:ac) ([116]:List UInt8) q2.1).bind fun q3=>(oU fu q2.2).bind fun q5=>(lY fu q3.1 ([117]:List UInt8) q5.1).bind fun q6=>(f96 fu q5.2 ([([116]:List UInt8),([117]:List UInt8),([116]:List UInt8)]:List (List UInt8))).bind fun q7=>(f74 fu q7.2 3).bind fun q8=>(oY fu q6.1 (⟨([117]:List UInt8),([107]:List UInt8),q7.1,IntKind.i64.wrap (1+q8.1)⟩:aj)).bind fun q9=>(f74 fu q8.2 2).bind fun q10=>cond (decide (q10.1=0)) ((f96 fu q10.2 ([([116]:List UInt8),([117]:List UInt8)]:List (List UInt8))).bind fun q20=>(f74 fu q20.2 3).bind fun q21=>(oY fu q9.1 (⟨([116]:List UInt8),([107]:List UInt8),q20.1,IntKind.i64.wrap (1+q21.1)⟩:aj)).bind fun q22=>iy fu q22.1 q21.2) (iy fu q9.1 q10.2)
theorem n1113:Nm prog 87:=⟨_,_,func87,by kernel_rfl,z⟩
theorem c1113 (fu:Nat)(bp0:Nat)(a0:Rd):Ctr prog 87 [isP bp0 0] [boxO bp0 tRd a0 []] (u6 fu a0) (fun q _=>[boxO bp0 tRd q.2 []]) (fun q=>tBase.va q.1):=by
 refine .w func87 ntmps87 fun hf A w=>?_
 unfold u6
 refine .s<|.alloc tBase d0_1026 [] dn z fun b1=>.nil<|.s<|go ?_
 refine .call1 1 (c1170 fu _ _) z n1170 z z fun q2=>.call0 (c1017 fu _ _ _) n1017 z z fun q3=>go ?_
 refine .alloc tBase d0_1026 [] dn z fun b4=>go ?_
 refine .seq<|.pbind fun q5 h1=>.drawS 3 [] [2] [2] mix (by kernel_rfl) sts z<|.cons (d:=16) z z fun _ _ hE h=>.bindE h1 (fun r h=>.call1 2 (c1170 fu _ _) z n1170 (hE.ops z) z h)<|h _ _ (.same<|.same<|.hole z<|.nil)<|.nil<|.call0 (c1017 fu _ _ _) n1017 z z fun q6=>go ?_
 refine .seq<|.pbind fun q7 h2=>.pbind fun q8 h3=>.drawS 8 [] [3,5,6,7] [2] mix (by kernel_rfl) sts z<|.cons (d:=24) z z fun _ _ hE h=>.bindE h2 (fun r h=>.call1 2 (c96 fu _ _ _) z n96 (hE.ops z) z h)<|h _ _ (.same<|.same<|.hole z<|.nil)<|.cons (d:=26) z z fun _ _ hE h=>.bindE h3 (fun r h=>.call1 2 (c74 fu _ _ _) z n74 (hE.ops z) z h)<|h _ _ (.same<|.same<|.hole z<|.nil)<|.cons (d:=27) z z fun _ _ hE h=>.bin z (hE.op z) (hE.op z) z<|h _ _ (.same<|.same<|.hole z<|.nil)<|.cons (d:=28) z z fun _ _ hE h=>.build z qD z1044 (.cons lh z (hE.op z)<|.cons jg z (hE.op z)<|.cons nh z (hE.op z)<|.cons lg z (hE.op z)<|.nil) z<|h _ _ (.same<|.same<|.hole z<|.nil)<|.nil<|.call0 (c1025 fu _ _) n1025 z z fun q9=>go ?_
 refine .seq<|.s<|.m z z<|.call1 2 (c74 fu _ _ _) z n74 z z fun q10=>go ?_
 refine .join2 (fun i11 i12=>⟨[(0,isP bp0 0,none),(2,isP b1 0,none),(3,isP b4 0,none)],[boxO b4 tBase i11 [],boxO b1 tBase d0_1026 [],boxO bp0 tRd i12 []]⟩) (fun i11 i12=>iy fu i11 i12) (fun i11 i12=>?_) (fun hj1=>?_)
 ·refine .seq<|.s<|go ?_
  refine .call1 2 (c73 fu _ _ _) z n73 z z fun q13=>.an z z<|.block<|.loop<|.keep [0,2,3,5] [] z<|(show ∀ (n1:Nat) (i14:Int) (i15:ac) (i16:Rd),W _ _ _ _ _ ⟨[(0,isP bp0 0,none),(2,isP b1 0,none),(3,isP b4 0,none),(5,isI .i64 i14,none)],[boxO b4 tBase i15 [],boxO b1 tBase d0_1026 [],boxO bp0 tRd i16 []]⟩ (fZ fu n1 i14 i15 i16) from ?_) fu _ _ _
  intro n1
  induction n1 with
  | zero=>exact fun _ _ _=>.stop
  | succ n1 ih1=>
   intro i14 i15 i16
   refine .inLoop<|.seq<|.s<|go ?_
   refine .cd z ?_ ?_
   ·refine .skip<|.seq<|.block<|.g<|go ?_
    exact .call1 2 (c1171 fu _ _ _) z n1171 z z fun q17=>fj (ih1 _ _ _)
   ·refine .exit z<|.s<|go ?_
    exact .callL0 (c1059 fu _) n1059 z z fun q18 p19=>.frzT 58 0 conv1026_0 z z<|.frzT 58 1 conv1026_1 z z<|fr
 ·refine .cd z ?_ ?_
  ·exact .pbind fun q20 h4=>.pbind fun q21 h5=>.drawS 8 [] [3,5,6,7] [2] mix (by kernel_rfl) sts z<|.cons (d:=39) z z fun _ _ hE h=>.bindE h4 (fun r h=>.call1 2 (c96 fu _ _ _) z n96 (hE.ops z) z h)<|h _ _ (.same<|.same<|.hole z<|.nil)<|.cons (d:=41) z z fun _ _ hE h=>.bindE h5 (fun r h=>.call1 2 (c74 fu _ _ _) z n74 (hE.ops z) z h)<|h _ _ (.same<|.same<|.hole z<|.nil)<|.cons (d:=42) z z fun _ _ hE h=>.bin z (hE.op z) (hE.op z) z<|h _ _ (.same<|.same<|.hole z<|.nil)<|.cons (d:=43) z z fun _ _ hE h=>.build z qD z1044 (.cons lh z (hE.op z)<|.cons jg z (hE.op z)<|.cons nh z (hE.op z)<|.cons lg z (hE.op z)<|.nil) z<|h _ _ (.same<|.same<|.hole z<|.nil)<|.nil<|.call0 (c1025 fu _ _) n1025 z z fun q22=>fj (hj1 _ _)
  ·exact fj (hj1 _ _)
def ke (i7:ac)(i8:Rd):Option (ac×Rd):=some (i7,i8)
def kd (i14:ac)(i15:Rd):Option (ac×Rd):=some (i14,i15)
def dh (i19:ac)(i21:Rd):Option (ac×Rd):=some (i19,i21)
def kc (fu:Nat)(q3:ac)(q6:Int×Rd)(i23:Bool):Option (ac×Rd):=cond i23 (cond (decide (0≤(0:Int))&&decide ((0:Int) < (q3.tabs.length:Int))) (cond (decide (0≤(0:Int))&&decide ((0:Int) < (q3.tabs.length:Int))) (cond (decide (0≤(0:Int))&&decide ((0:Int) < (List.length (((q3.tabs.getD (0:Int).toNat default).table).rows):Int))) ((f41a fu ((q3.tabs.getD (0:Int).toNat default).table) (((((q3.tabs.getD (0:Int).toNat default).table).rows).getD (0:Int).toNat default).id)).bind fun q24=>cond (decide (0≤(0:Int))&&decide ((0:Int) < (q3.tabs.length:Int))) (dh (⟨q3.tabs.set (0:Int).toNat ({ (q3.tabs.getD (0:Int).toNat default) with table:=q24.1 }:Tab),q3.links⟩:ac) q6.2) none) none) none) none) (dh q3 q6.2)
def u7 (fu:Nat)(a0:Rd)(a1:ac):Option (ac×Rd):=(d7 fu a1).bind fun q3=>(f74 fu a0 60).bind fun q6=>cond (decide (q6.1=0)) (cond (decide (0 < (q3.tabs.length:Int))) ((f74 fu q6.2 (q3.tabs.length:Int)).bind fun q9=>cond (decide (0≤q9.1)&&decide (q9.1 < (q3.tabs.length:Int))) ((f93 fu q9.2 ((q3.tabs.getD q9.1.toNat default).table)).bind fun q10=>(f93 fu q10.2 q10.1).bind fun q11=>(f93 fu q11.2 q11.1).bind fun q12=>(f93 fu q12.2 q12.1).bind fun q13=>cond (decide (0≤q9.1)&&decide (q9.1 < (q3.tabs.length:Int))) (ke (⟨q3.tabs.set q9.1.toNat ({ (q3.tabs.getD q9.1.toNat default) with table:=q13.1 }:Tab),q3.links⟩:ac) q13.2) none) none) (ke q3 q6.2)) (cond (decide (q6.1=1)) (cond (decide (0 < (q3.tabs.length:Int))) ((f96 fu q6.2 ([([]:List UInt8),([65]:List UInt8),([117]:List UInt8),([119]:List UInt8)]:List (List UInt8))).bind fun q16=>cond (decide (0≤(0:Int))&&decide ((0:Int) < (q3.tabs.length:Int))) (kd (⟨q3.tabs.set (0:Int).toNat ({ (q3.tabs.getD (0:Int).toNat default) with name:=q16.1 }:Tab),q3.links⟩:ac) q16.2) none) (kd q3 q6.2)) (cond (decide (q6.1=2)) ((qf fu q6.2 q3).bind fun q17=>cond (decide (q3.links.length+List.length ([q17.1]:List aj)≤CAP)) (some (({ q3 with links:=q3.links++([q17.1]:List aj) }:ac),q17.2)) none) (cond (decide (q6.1=3)) (cond (decide (0 < (q3.links.length:Int))) ((f73 fu q6.2 ([0,1,3,4]:List Int)).bind fun q22=>cond (decide (0≤(0:Int))&&decide ((0:Int) < (q3.links.length:Int))) (dh (⟨q3.tabs,q3.links.set (0:Int).toNat ({ (q3.links.getD (0:Int).toNat default) with how:=q22.1 }:aj)⟩:ac) q22.2) none) (dh q3 q6.2)) (cond (decide (q6.1=4)) (cond (decide (0 < (q3.tabs.length:Int))) (cond (decide (0≤(0:Int))&&decide ((0:Int) < (q3.tabs.length:Int))) (kc fu q3 q6 (decide (0 < (List.length (((q3.tabs.getD (0:Int).toNat default).table).rows):Int)))) none) (kc fu q3 q6 false)) (cond (decide (q6.1=5)) ((f125 fu q6.2).bind fun q25=>(zA fu q25.1).bind fun q26=>(f125 fu q25.2).bind fun q27=>(zA fu q27.1).bind fun q28=>cond (decide (q3.tabs.length+List.length ([(⟨([120]:List UInt8),q26⟩:Tab),(⟨([121]:List UInt8),q28⟩:Tab)]:List Tab)≤CAP)) (dh (⟨q3.tabs++([(⟨([120]:List UInt8),q26⟩:Tab),(⟨([121]:List UInt8),q28⟩:Tab)]:List Tab),q3.links⟩:ac) q27.2) none) (dh q3 q6.2))))))
theorem n1112:Nm prog 86:=⟨_,_,func86,by kernel_rfl,z⟩
attribute [local semireducible] W WO
theorem c1112 (fu:Nat)(bp0:Nat)(a0:Rd)(a1:ac):Ctr prog 86 [isP bp0 0,tBase.va a1] [boxO bp0 tRd a0 []] (u7 fu a0 a1) (fun q _=>[boxO bp0 tRd q.2 []]) (fun q=>tBase.va q.1):=by
 refine Ctr.of_W func86 z ntmps86 z fun A w=>?_
 unfold u7
 refine .s<|.box (T:=tBase) z z fun b1=>.alloc tBaseA au [] aA z fun b2=>.nil<|.s<|.lp 1 (Fld.self _) z z al z<|.callL0 (c1059 fu _) n1059 z z fun q3 p4=>.alloc tBaseA au [] aA z fun b5=>.storeP 0 (Fld.self _) z z z al<|.nil<|.s<|.fp z fa1026_0 z<|.loadR 0 aD z z ty1023 z<|.know 11 z<|.lenA 1 z z u26 z<|.an z z<|.seq<|.s<|.m z z<|.call1 5 (c74 fu _ _ _) z n74 z z fun q6=>.nil<|.block<|.s<|.bin z z z z<|.an z z<|.cd z ?_ ?_
 ·refine .s<|.m z z<|.bin z z z z<|.nil<|.join2 (fun i7 i8=>⟨[(4,isP b2 0,none),(5,isP b5 0,none)],[boxO b5 tBaseA (⟨p4.1,p4.2⟩:aL) [],arrO tTab p4.1 i7.tabs,arrO tLink p4.2 i7.links,boxO b2 tBaseA (⟨(.slice none 0 0),(.slice none 0 0)⟩:aL) [],boxO bp0 tRd i8 []]⟩) (fun i7 i8=>ke i7 i8) (fun i7 i8=>?_) (fun hj1=>?_)
  ·exact .inBlock<|.s<|.lp 0 (Fld.self _) z z al z<|.storeP 3 (Fld.self _) z z z al<|.nil<|.boxKn 3 aD z<|.boxKn 3 bE z<|.frzBox 3 1 conv1026_0 z z<|.frzBox 3 2 conv1026_1 z z<|.ret1 func86 results86 (.cell 3 z z al) z (fun _ _=>.c<|.c<|.c<|.c<|.d<|.e)
  ·refine .cd z ?_ ?_
   ·refine .s<|.m z z<|.m z z<|.call1 5 (c74 fu _ _ _) z n74 z z fun q9=>.an z z<|.pT fun h1=>?_
    refine .pbind fun q10 h2=>?_
    refine .pbind fun q11 h3=>?_
    refine .pbind fun q12 h4=>?_
    refine .pbind fun q13 h5=>?_
    refine .drawS 17 [] [13,14,15,16] [5] mix (by kernel_rfl) (.j (fun o=>.fp (o z) fa1026_0 z)<|.k (fun p e=>.loadR 0 aD (e.op z) (p.get z z) ty1023 z)<|.j (fun o=>.m (o z) z)<|.j (fun o=>.m (o z) z)<|.j (fun o=>.m (o z) z)<|.j (fun o=>.m (o z) z)<|.j (fun o=>.m (o z) z)<|.j (fun o=>.fp (o z) fa1026_0 z)<|.k (fun p e=>.loadR 0 aD (e.op z) (p.get z z) ty1023 z)<|.j (fun o=>.m (o z) z)<|.k (fun p e h=>.useC h1<|.elemA 1 (e.op z) (e.op z) (p.get z z) u26 ba z<|h)<|.j (fun o=>.fieldA (o z) aC z)<|.k (fun p e=>.loadA 1 fTab_1 (e.op z) (p.get z z) ty27 z)<|.skip<|.skip<|.skip<|.skip<|.nil) z<|.cons (d:=35) z z fun _ _ hE h=>.bindE h2 (fun r h=>.call1 5 (c93 fu _ _ _) z n93 (hE.ops z) z h)<|h _ _ (.same<|.same<|.same<|.same<|.same<|.hole z<|.nil)<|.cons (d:=36) z z fun _ _ hE h=>.bindE h3 (fun r h=>.call1 5 (c93 fu _ _ _) z n93 (hE.ops z) z h)<|h _ _ (.same<|.same<|.same<|.same<|.same<|.hole z<|.nil)<|.cons (d:=37) z z fun _ _ hE h=>.bindE h4 (fun r h=>.call1 5 (c93 fu _ _ _) z n93 (hE.ops z) z h)<|h _ _ (.same<|.same<|.same<|.same<|.same<|.hole z<|.nil)<|.cons (d:=38) z z fun _ _ hE h=>.bindE h5 (fun r h=>.call1 5 (c93 fu _ _ _) z n93 (hE.ops z) z h)<|h _ _ (.same<|.same<|.same<|.same<|.same<|.hole z<|.nil)<|.nil<|.elemA 1 z z z u26 ba z<|.fieldA z aC z<|.storeA 1 fTab_1 z z z ty27<|.nil ?_
    exact .keep [4,5] [] z (.drop (.d<|.d<|.d<|.d<|.c<|.d<|.e)<|hj1 _ _)
   ·exact .skip<|.keep [4,5] [] z (.drop (.d<|.d<|.d<|.d<|.c<|.d<|.e)<|hj1 _ _)
 ·refine .s<|.bin z z z z<|.an z z<|.cd z ?_ ?_
  ·refine .s<|.m z z<|.bin z z z z<|.nil<|.join2 (fun i14 i15=>⟨[(4,isP b2 0,none),(5,isP b5 0,none)],[boxO b5 tBaseA (⟨p4.1,p4.2⟩:aL) [],arrO tTab p4.1 i14.tabs,arrO tLink p4.2 i14.links,boxO b2 tBaseA (⟨(.slice none 0 0),(.slice none 0 0)⟩:aL) [],boxO bp0 tRd i15 []]⟩) (fun i14 i15=>kd i14 i15) (fun i14 i15=>?_) (fun hj2=>?_)
   ·exact .inBlock<|.s<|.lp 0 (Fld.self _) z z al z<|.storeP 3 (Fld.self _) z z z al<|.nil<|.boxKn 3 aD z<|.boxKn 3 bE z<|.frzBox 3 1 conv1026_0 z z<|.frzBox 3 2 conv1026_1 z z<|.ret1 func86 results86 (.cell 3 z z al) z (fun _ _=>.c<|.c<|.c<|.c<|.d<|.e)
   ·refine .cd z ?_ ?_
    ·refine .pbind fun q16 h6=>?_
     exact .drawS 5 [] [4] [5] mix (by kernel_rfl) (.j (fun o=>.fp (o z) fa1026_0 z)<|.k (fun p e=>.loadR 0 aD (e.op z) (p.get z z) ty1023 z)<|.j (fun o=>.m (o z) z)<|.k (fun p e h=>.litN (T:=tS) C0 el9 z z (.cons (e.op z)<|.cons (e.op z)<|.cons (e.op z)<|.cons (e.op z)<|.nil) z<|h)<|.skip<|.nil) z<|.cons (d:=49) z z fun _ _ hE h=>.bindE h6 (fun r h=>.call1 5 (c96 fu _ _ _) z n96 (hE.ops z) z h)<|h _ _ (.same<|.same<|.same<|.same<|.same<|.hole z<|.nil)<|.nil<|.elemA 1 z z z u26 ba z<|.fieldA z jR z<|.storeA 1 ep z z z ty9<|.nil<|.keep [4,5] [] z (.drop (.d<|.d<|.d<|.d<|.c<|.d<|.e)<|hj2 _ _)
    ·exact .skip<|.keep [4,5] [] z (.drop (.d<|.d<|.d<|.d<|.c<|.d<|.e)<|hj2 _ _)
  ·refine .s<|.bin z z z z<|.an z z<|.cd z ?_ ?_
   ·refine .boxKn 0 aD z<|.boxKn 0 bE z<|.frzBox 0 1 conv1026_0 z z<|.frzBox 0 2 conv1026_1 z z<|.pbind fun q17 h7=>?_
    exact .drawS 6 [] [4,5] [5] mix (by kernel_rfl) (.j (fun o=>.fp (o z) cg z)<|.k (fun p e=>.loadV 0 gz (e.op z) (p.get z z) z fo z z)<|.j (fun o=>.m (o z) z)<|.k (fun p e=>.lp 0 (Fld.self _) (e.op z) (p.get z z) al z)<|.skip<|.skip<|.nil) z<|.cons (d:=58) z z fun _ _ hE h=>.bindE h7 (fun r h=>.call1 5 (c1081 fu _ _ _) z n1081 (hE.ops z) z h)<|h _ _ (.same<|.same<|.same<|.same<|.same<|.hole z<|.nil)<|.cons (d:=59) z z fun _ _ hE h=>.litN (T:=tLink) u27 gr z z (.cons (hE.op z)<|.nil) z<|h _ _ (.same<|.same<|.same<|.same<|.same<|.hole z<|.nil)<|.nil<|.app (T:=tLink) 2 z z z u27 gr z fun v18=>.fp z cg z<|.storeV 0 gz z z z fo z<|.nil<|.inBlock<|.s<|.lp 0 (Fld.self _) z z al z<|.storeW 3 z z z z al<|.nil<|.ret1 func86 results86 (.cell 3 z z al) z (fun _ _=>.c<|.c<|.c<|.c<|.c<|.d<|.e)
   ·refine .s<|.bin z z z z<|.an z z<|.join3 (fun i19 v20 i21=>⟨[(4,isP b2 0,none),(5,isP b5 0,none)],[boxO b5 tBaseA (⟨v20,p4.2⟩:aL) [],arrO tTab v20 i19.tabs,arrO tLink p4.2 i19.links,boxO b2 tBaseA (⟨(.slice none 0 0),(.slice none 0 0)⟩:aL) [],boxO bp0 tRd i21 []]⟩) (fun i19 v20 i21=>dh i19 i21) (fun i19 v20 i21=>?_) (fun hj3=>?_)
    ·exact .inBlock<|.s<|.lp 0 (Fld.self _) z z al z<|.storeP 3 (Fld.self _) z z z al<|.nil<|.boxKn 3 aD z<|.boxKn 3 bE z<|.frzBox 3 1 conv1026_0 z z<|.frzBox 3 2 conv1026_1 z z<|.ret1 func86 results86 (.cell 3 z z al) z (fun _ _=>.c<|.c<|.c<|.c<|.d<|.e)
    ·refine .cd z ?_ ?_
     ·refine .s<|.fp z cg z<|.loadR 0 bE z z fo z<|.know 65 z<|.lenA 2 z z u27 z<|.bin z z z z<|.nil<|.cd z ?_ ?_
      ·refine .pbind fun q22 h8=>?_
       exact .drawS 5 [] [4] [5] mix (by kernel_rfl) (.j (fun o=>.fp (o z) cg z)<|.k (fun p e=>.loadR 0 bE (e.op z) (p.get z z) fo z)<|.j (fun o=>.m (o z) z)<|.k (fun p e h=>.litN (T:=(tI .i64)) Cn el3 z z (.cons (e.op z)<|.cons (e.op z)<|.cons (e.op z)<|.cons (e.op z)<|.nil) z<|h)<|.skip<|.nil) z<|.cons (d:=72) z z fun _ _ hE h=>.bindE h8 (fun r h=>.call1 5 (c73 fu _ _ _) z n73 (hE.ops z) z h)<|h _ _ (.same<|.same<|.same<|.same<|.same<|.hole z<|.nil)<|.nil<|.elemA 2 z z z u27 l7 z<|.fieldA z nf z<|.storeA 2 lg z z z ty3<|.nil<|.keep [4,5] [] z (.drop (.d<|.d<|.d<|.d<|.c<|.d<|.e)<|hj3 _ _ _)
      ·exact .skip<|.keep [4,5] [] z (.drop (.d<|.d<|.d<|.d<|.c<|.d<|.e)<|hj3 _ _ _)
     ·refine .s<|.bin z z z z<|.an z z<|.cd z ?_ ?_
      ·refine .seq<|.join1 (fun i23=>⟨[(4,isP b2 0,none),(5,isP b5 0,none),(88,isB i23,none)],[boxO b5 tBaseA (⟨p4.1,p4.2⟩:aL) [],arrO tTab p4.1 q3.tabs,arrO tLink p4.2 q3.links,boxO b2 tBaseA (⟨(.slice none 0 0),(.slice none 0 0)⟩:aL) [],boxO bp0 tRd q6.2 []]⟩) (fun i23=>kc fu q3 q6 i23) (fun i23=>?_) (fun hj4=>?_)
       ·refine .cd z ?_ ?_
        ·refine .pT fun h9=>?_
         refine .pT fun h10=>?_
         refine .pT fun h11=>?_
         refine .pbind fun q24 h12=>?_
         exact .draw 20 [19] mix (by kernel_rfl) (.j (fun o=>.fp (o z) fa1026_0 z)<|.k (fun p e=>.loadR 0 aD (e.op z) (p.get z z) ty1023 z)<|.j (fun o=>.fp (o z) fa1026_0 z)<|.k (fun p e=>.loadR 0 aD (e.op z) (p.get z z) ty1023 z)<|.k (fun p e h=>.useC h9<|.elemA 1 (e.op z) (e.op z) (p.get z z) u26 ba z<|h)<|.j (fun o=>.fieldA (o z) aC z)<|.k (fun p e=>.loadA 1 fTab_1 (e.op z) (p.get z z) ty27 z)<|.j (fun o=>.fp (o z) fa1026_0 z)<|.k (fun p e=>.loadR 0 aD (e.op z) (p.get z z) ty1023 z)<|.k (fun p e h=>.useC h10<|.elemA 1 (e.op z) (e.op z) (p.get z z) u26 ba z<|h)<|.j (fun o=>.fieldA (o z) aC z)<|.j (fun o=>.fieldA (o z) fa27_2 z)<|.k (fun p e=>.loadA 1 (fTab_1.comp fTable_2) (e.op z) (p.get z z) ty25 z)<|.k (fun p e h=>.useC h11<|.elemAt (e.op z) (e.op z) u57 ty37 z<|h)<|.j (fun o=>.fieldAt bG (o z) bY z)<|.j (fun o=>.load (o z) ty3 z)<|.k (fun p e h=>.bindE h12 (fun r h=>.call0 (c41a fu _ _) n41 (e.ops z) z h)<|h)<|.j (fun o=>.m (o z) z)<|.j (fun o=>.extract (o z) z z)<|.j (fun o=>.extract (o z) z z)<|.nil) z<|.elemA 1 z z z u26 ba z<|.fieldA z aC z<|.storeA 1 fTab_1 z z z ty27<|.nil<|.keep [4,5] [] z (hj3 _ _ _)
        ·exact .skip<|.keep [4,5] [] z (hj3 _ _ _)
       ·refine .g<|.m z z<|.bin z z z z<|.m z z<|.split 79 z (fun _=>?_) (fun _=>?_)
        ·exact .on z z<|.fp z fa1026_0 z<|.on z z<|.loadR 0 aD z z ty1023 z<|.know 81 z<|.on z z<|.elemA 1 z z z u26 ba z<|.on z z<|.fieldA z aC z<|.on z z<|.fieldA z fa27_2 z<|.on z z<|.loadA 1 (fTab_1.comp fTable_2) z z ty25 z<|.on z z<|.lenL z u57 z<|.on z z<|.bin z z z z<|.pickT z z z<|.nil<|.keep [4,5,88] [] z (.drop (.d<|.d<|.d<|.d<|.c<|.d<|.e)<|hj4 _)
        ·exact .off z z z<|.off z z z<|.off z z z<|.off z z z<|.off z z z<|.off z z z<|.off z z z<|.off z z z<|.pickF z z z<|.nil<|.keep [4,5,88] [] z (.drop (.d<|.d<|.d<|.d<|.c<|.d<|.e)<|hj4 _)
      ·refine .s<|.bin z z z z<|.an z z<|.cd z ?_ ?_
       ·refine .pbind fun q25 h13=>?_
        refine .pbind fun q26 h14=>?_
        refine .pbind fun q27 h15=>?_
        refine .pbind fun q28 h16=>?_
        refine .drawT 11 [] [3,4,5,7,8,9,10] [5] mix (by kernel_rfl) (.j (fun o=>.fp (o z) fa1026_0 z)<|.k (fun p e=>.loadR 0 aD (e.op z) (p.get z z) ty1023 z)<|.j (fun o=>.m (o z) z)<|.skip<|.skip<|.skip<|.j (fun o=>.m (o z) z)<|.skip<|.skip<|.skip<|.skip<|.nil) z<|.node (.on ?_<|.off (by kernel_rfl)<|.off (by kernel_rfl)<|.off (by kernel_rfl)<|.off (by kernel_rfl)<|.off (by kernel_rfl)<|.off (by kernel_rfl)<|.nil)
        ·refine .put 116 z z fun _ _ hE h=>.bindE h13 (fun r h=>.call1 5 (c125 fu _ _) z n125 (hE.ops z) z h)<|h _ _ (.same<|.same<|.same<|.same<|.same<|.hole z<|.nil)<|.node (.on ?_<|.off (by kernel_rfl)<|.off (by kernel_rfl)<|.off (by kernel_rfl)<|.off (by kernel_rfl)<|.off (by kernel_rfl)<|.nil)
         ·refine .put 117 z z fun _ _ hE h=>.bindE h14 (fun r h=>.call0 (kN (c124 fu _)) n124 (hE.ops z) z h)<|h _ _ (.same<|.same<|.same<|.same<|.same<|.hole z<|.nil)<|.node (.on ?_<|.on ?_<|.off (by kernel_rfl)<|.off (by kernel_rfl)<|.off (by kernel_rfl)<|.nil)
          ·refine .put 118 z z fun _ _ hE h=>.build z gf z1039 (.cons ep z (hE.op z)<|.cons fTab_1 z (hE.op z)<|.nil) z<|h _ _ (.same<|.same<|.same<|.same<|.same<|.hole z<|.nil)<|.node (.on ?_<|.off (by kernel_rfl)<|.off (by kernel_rfl)<|.off (by kernel_rfl)<|.nil)
           ·refine .put 120 z z fun _ _ hE h=>.bindE h15 (fun r h=>.call1 5 (c125 fu _ _) z n125 (hE.ops z) z h)<|h _ _ (.same<|.same<|.same<|.same<|.same<|.hole z<|.nil)<|.node (.on ?_<|.off (by kernel_rfl)<|.off (by kernel_rfl)<|.nil)
            ·refine .put 121 z z fun _ _ hE h=>.bindE h16 (fun r h=>.call0 (kN (c124 fu _)) n124 (hE.ops z) z h)<|h _ _ (.same<|.same<|.same<|.same<|.same<|.hole z<|.nil)<|.node (.on ?_<|.off (by kernel_rfl)<|.nil)
             ·refine .put 122 z z fun _ _ hE h=>.build z gf z1039 (.cons ep z (hE.op z)<|.cons fTab_1 z (hE.op z)<|.nil) z<|h _ _ (.same<|.same<|.same<|.same<|.same<|.hole z<|.nil)<|.node (.on ?_<|.nil)
              ·exact .put 123 z z fun _ _ hE h=>.litN (T:=tTab) u26 db z z (.cons (hE.op z)<|.cons (hE.op z)<|.nil) z<|h _ _ (.same<|.same<|.same<|.same<|.same<|.hole z<|.nil)<|.leaf<|.appA (T:=tTab) 1 z z z u26 db z fun v29=>.fp z fa1026_0 z<|.toRaw (T:=tTab) 1 124 z z<|.storeP 0 aD z z z ty1023<|.nil<|.keep [4,5] [] z (.drop (.d<|.d<|.d<|.d<|.c<|.d<|.e)<|hj3 _ _ _)
          ·refine .put 120 z z fun _ _ hE h=>.bindE h15 (fun r h=>.call1 5 (c125 fu _ _) z n125 (hE.ops z) z h)<|h _ _ (.same<|.same<|.same<|.same<|.same<|.hole z<|.nil)<|.node (.on ?_<|.on ?_<|.off (by kernel_rfl)<|.off (by kernel_rfl)<|.nil)
           ·refine .put 118 z z fun _ _ hE h=>.build z gf z1039 (.cons ep z (hE.op z)<|.cons fTab_1 z (hE.op z)<|.nil) z<|h _ _ (.same<|.same<|.same<|.same<|.same<|.hole z<|.nil)<|.node (.on ?_<|.off (by kernel_rfl)<|.off (by kernel_rfl)<|.nil)
            ·refine .put 121 z z fun _ _ hE h=>.bindE h16 (fun r h=>.call0 (kN (c124 fu _)) n124 (hE.ops z) z h)<|h _ _ (.same<|.same<|.same<|.same<|.same<|.hole z<|.nil)<|.node (.on ?_<|.off (by kernel_rfl)<|.nil)
             ·refine .put 122 z z fun _ _ hE h=>.build z gf z1039 (.cons ep z (hE.op z)<|.cons fTab_1 z (hE.op z)<|.nil) z<|h _ _ (.same<|.same<|.same<|.same<|.same<|.hole z<|.nil)<|.node (.on ?_<|.nil)
              ·exact .put 123 z z fun _ _ hE h=>.litN (T:=tTab) u26 db z z (.cons (hE.op z)<|.cons (hE.op z)<|.nil) z<|h _ _ (.same<|.same<|.same<|.same<|.same<|.hole z<|.nil)<|.leaf<|.appA (T:=tTab) 1 z z z u26 db z fun v29=>.fp z fa1026_0 z<|.toRaw (T:=tTab) 1 124 z z<|.storeP 0 aD z z z ty1023<|.nil<|.keep [4,5] [] z (.drop (.d<|.d<|.d<|.d<|.c<|.d<|.e)<|hj3 _ _ _)
           ·refine .put 121 z z fun _ _ hE h=>.bindE h16 (fun r h=>.call0 (kN (c124 fu _)) n124 (hE.ops z) z h)<|h _ _ (.same<|.same<|.same<|.same<|.same<|.hole z<|.nil)<|.node (.on ?_<|.on ?_<|.off (by kernel_rfl)<|.nil)
            ·refine .put 118 z z fun _ _ hE h=>.build z gf z1039 (.cons ep z (hE.op z)<|.cons fTab_1 z (hE.op z)<|.nil) z<|h _ _ (.same<|.same<|.same<|.same<|.same<|.hole z<|.nil)<|.node (.on ?_<|.off (by kernel_rfl)<|.nil)
             ·refine .put 122 z z fun _ _ hE h=>.build z gf z1039 (.cons ep z (hE.op z)<|.cons fTab_1 z (hE.op z)<|.nil) z<|h _ _ (.same<|.same<|.same<|.same<|.same<|.hole z<|.nil)<|.node (.on ?_<|.nil)
              ·exact .put 123 z z fun _ _ hE h=>.litN (T:=tTab) u26 db z z (.cons (hE.op z)<|.cons (hE.op z)<|.nil) z<|h _ _ (.same<|.same<|.same<|.same<|.same<|.hole z<|.nil)<|.leaf<|.appA (T:=tTab) 1 z z z u26 db z fun v29=>.fp z fa1026_0 z<|.toRaw (T:=tTab) 1 124 z z<|.storeP 0 aD z z z ty1023<|.nil<|.keep [4,5] [] z (.drop (.d<|.d<|.d<|.d<|.c<|.d<|.e)<|hj3 _ _ _)
            ·refine .put 122 z z fun _ _ hE h=>.build z gf z1039 (.cons ep z (hE.op z)<|.cons fTab_1 z (hE.op z)<|.nil) z<|h _ _ (.same<|.same<|.same<|.same<|.same<|.hole z<|.nil)<|.node (.on ?_<|.off (by kernel_rfl)<|.nil)
             ·refine .put 118 z z fun _ _ hE h=>.build z gf z1039 (.cons ep z (hE.op z)<|.cons fTab_1 z (hE.op z)<|.nil) z<|h _ _ (.same<|.same<|.same<|.same<|.same<|.hole z<|.nil)<|.node (.on ?_<|.nil)
              ·exact .put 123 z z fun _ _ hE h=>.litN (T:=tTab) u26 db z z (.cons (hE.op z)<|.cons (hE.op z)<|.nil) z<|h _ _ (.same<|.same<|.same<|.same<|.same<|.hole z<|.nil)<|.leaf<|.appA (T:=tTab) 1 z z z u26 db z fun v29=>.fp z fa1026_0 z<|.toRaw (T:=tTab) 1 124 z z<|.storeP 0 aD z z z ty1023<|.nil<|.keep [4,5] [] z (.drop (.d<|.d<|.d<|.d<|.c<|.d<|.e)<|hj3 _ _ _)
       ·exact .skip<|.keep [4,5] [] z (.drop (.d<|.d<|.d<|.d<|.c<|.d<|.e)<|hj3 _ _ _)
attribute [local irreducible] W WO
def vk (fu:Nat)(a0:Rd):Option (ac×Rd):=(u6 fu a0).bind fun q2=>(u7 fu q2.2 q2.1).bind fun q3=>some (q3.1,q3.2)
theorem n1050:Nm prog 37:=⟨_,_,func37,by kernel_rfl,z⟩
theorem c1050 (fu:Nat)(bp0:Nat)(a0:Rd):Ctr prog 37 [isP bp0 0] [boxO bp0 tRd a0 []] (vk fu a0) (fun q _=>[boxO bp0 tRd q.2 []]) (fun q=>tBase.va q.1):=by
 refine .w func37 ntmps37 fun hf A w=>?_
 unfold vk
 refine .s<|.alloc tBase d0_1026 [] dn z fun b1=>.nil<|.s<|go ?_
 exact .call1 1 (c1113 fu _ _) z n1113 z z fun q2=>.call1 1 (c1112 fu _ _ _) z n1112 z z fun q3=>fr
def oW (a0:Tab)(a1:List UInt8):Option Bool:=some (decide (a0.name=a1))
theorem n1123:Nm prog 77:=⟨_,_,func77,by kernel_rfl,z⟩
theorem c1123 (a0:Tab)(a1:List UInt8):Ctr prog 77 [tTab.va a0,cY tS a1] [] (oW a0 a1) (fun _ _=>[]) (fun q=>isB q):=by
 refine .w func77 ntmps77 fun hf A w=>?_
 unfold oW
 exact .s<|.box (T:=tTab) z z fun b1=>fr
def dS (a0:List Tab)(a1:Tab→Option Bool):Nat→Int→Option Int
 | 0,_=>none
 | n1+1,i1=>cond (decide (i1 < (a0.length:Int))) (cond (decide (0≤i1)&&decide (i1 < (a0.length:Int))) ((a1 (a0.getD i1.toNat default)).bind fun q2=>cond q2 (some i1) ((dS a0 a1 n1) (IntKind.i64.wrap (i1+1)))) none) (some (-1))
def xF (fu:Nat)(a0:List Tab)(a1:Tab→Option Bool):Option Int:=dS a0 a1 fu 0
theorem n1122:Nm prog 76:=⟨_,_,func76,by kernel_rfl,z⟩
theorem c1122 (fu : Nat)(a0 : List Tab)(a1 : Tab → Option Bool)(g1 : Nat)(k1 : List VA)(hn1 : ∃ fn c, prog.funcs[g1]? = some fn ∧ (fn.name == "runtime.NumGoroutine") = false ∧ fn.body = some c)(hc1 : ∀ (x0 : Tab), Ctr prog g1 ([tTab.va x0] ++ k1) [] (a1 x0) (fun _ _ => []) (fun q => isB q)) : Ctr prog 76 [(tL tTab).va a0, ca g1 k1] [] (xF fu a0 a1) (fun _ _ => []) (fun q => isI .i64 q) := by
 refine .w func76 ntmps76 fun hf A w=>?_
 unfold xF
 refine .s<|.an z z<|.seq<|.s<|go ?_
 refine .block<|.loop<|.keep [0,1,7,8] [] z<|(show ∀ (n1:Nat) (i1:Int),W _ _ _ _ _ ⟨[(0,(tL tTab).va a0,none),(1,ca g1 k1,none),(7,isI .i64 (a0.length:Int),none),(8,isI .i64 i1,none)],[]⟩ (dS a0 a1 n1 i1) from ?_) fu _
 intro n1
 induction n1 with
 | zero=>exact fun _=>.stop
 | succ n1 ih1=>
  intro i1
  refine .inLoop<|.s<|go ?_
  refine .seq<|.cd z ?_ ?_
  ·refine .skip<|.seq<|.block<|.s<|go ?_
   refine .s<|go ?_
   refine .callC z (hc1 _) hn1 z z fun q2=>.nil<|.cd z ?_ ?_
   ·exact fr
   ·exact fj (ih1 _)
  ·exact fr
def eY (fu:Nat)(a0:ac)(a1:List UInt8):Option Int:=(xF fu a0.tabs (fun x0=>oW x0 a1)).bind fun q3=>some q3
theorem n1056:Nm prog 32:=⟨_,_,func32,by kernel_rfl,z⟩
theorem c1056 (fu:Nat)(a0:ac)(a1:List UInt8):Ctr prog 32 [tBase.va a0,isS a1] [] (eY fu a0 a1) (fun _ _=>[]) (fun q=>isI .i64 q):=by
 refine .w func32 ntmps32 fun hf A w=>?_
 unfold eY
 exact .s<|.box (T:=tBase) z z fun b1=>.box (T:=tS) z z fun b2=>.an z z<|.s<|.fp z fa1026_0 z<|.lp 1 fBase_0 z z ty1023 z<|.frzP 0 3 z z<|.makeF z z<|.call0 (c1122 fu _ (fun x0=>oW x0 a1) 77 [cY tS a1] n1123 (fun x0=>c1123 x0 a1)) n1122 z z fun q3=>fr
def f5 (i8:Bool):Option Bool:=some i8
def iD (fu:Nat)(a0:ac)(a1:aj)(q3:Int)(i5:Bool):Option Bool:=cond i5 (some false) (cond (decide (0≤q3)&&decide (q3 < (a0.tabs.length:Int))) ((f66 fu ((a0.tabs.getD q3.toNat default).table)).bind fun q6=>(f68 fu q6 a1.col).bind fun q7=>cond (decide (0≤q7)) (cond (decide (0≤q7)&&decide (q7 < (q6.length:Int))) (cond (decide (((q6.getD q7.toNat default).kind)=1)) (cond (!decide (a1.how=3)) (f5 true) (cond (decide (0≤q7)&&decide (q7 < (q6.length:Int))) (f5 (!((q6.getD q7.toNat default).need))) none)) (f5 false)) none) (f5 false)) none)
def sV (fu:Nat)(a0:ac)(a1:aj):Option Bool:=(eY fu a0 a1.from_).bind fun q3=>(eY fu a0 a1.to).bind fun q4=>cond (decide (q3<0)) (iD fu a0 a1 q3 true) (cond (decide (q4<0)) (iD fu a0 a1 q3 true) ((f56 fu a1.how 1 3).bind fun q9=>iD fu a0 a1 q3 (!q9)))
theorem n1072:Nm prog 34:=⟨_,_,func34,by kernel_rfl,z⟩
theorem c1072 (fu:Nat)(a0:ac)(a1:aj):Ctr prog 34 [tBase.va a0,tLink.va a1] [] (sV fu a0 a1) (fun _ _=>[]) (fun q=>isB q):=by
 refine .w func34 ntmps34 fun hf A w=>?_
 unfold sV
 refine .s<|.box (T:=tBase) z z fun b1=>.box (T:=tLink) z z fun b2=>.an z z<|.seq<|.pb (c1056 fu _ _) n1056 fun q3 h1 k=>.draw 7 [] mix (by kernel_rfl) sts z<|.call0 (c1056 fu _ _) n1056 z z fun q4=>go ?_
 refine .seq<|.seq<|.join1 (fun i5=>⟨[(2,isP b1 0,none),(3,isP b2 0,none),(5,isI .i64 q3,none),(28,isB i5,none)],[boxO b2 tLink a1 [],boxO b1 tBase a0 []]⟩) (fun i5=>iD fu a0 a1 q3 i5) (fun i5=>?_) (fun hj1=>?_)
 ·refine .cd z ?_ ?_
  ·exact fr
  ·refine .skip<|.s<|go ?_
   refine .call0 (c66 fu _) n66 z z fun q6=>.an z z<|.s<|go ?_
   refine .call0 (c68 fu _ _) n68 z z fun q7=>.an z z<|.seq<|.join1 (fun i8=>⟨[(4,isB i8,none)],[]⟩) (fun i8=>f5 i8) (fun i8=>?_) (fun hj2=>?_)
   ·exact fr
   ·refine .g<|go ?_
    refine .split 42 z (fun _=>?_) (fun _=>?_)
    ·refine go ?_
     refine .split 50 z (fun _=>?_) (fun _=>?_)
     ·refine go ?_
      refine .split 54 z (fun _=>?_) (fun _=>?_)
      ·exact fj (hj2 _)
      ·exact fj (hj2 _)
     ·exact fj (hj2 _)
    ·exact fj (hj2 _)
 ·refine .g<|go ?_
  refine .split 19 z (fun _=>?_) (fun _=>?_)
  ·exact fj (hj1 _)
  ·refine go ?_
   refine .split 23 z (fun _=>?_) (fun _=>?_)
   ·exact fj (hj1 _)
   ·refine go ?_
    exact .call0 (c56 fu _ _ _) n56 z z fun q9=>fj (hj1 _)
def kb (i1:Bool):Option Bool:=some i1
def p3 (fu:Nat)(a0:Int)(a1:Int)(a2:Bool)(a3:ab):Option Bool:=cond a2 ((f48 fu a3 a1).bind fun q2=>kb (decide (0≤q2))) (kb false)
theorem n1136:Nm prog 83:=⟨_,_,func83,by kernel_rfl,z⟩
theorem c1136 (fu:Nat)(a0:Int)(a1:Int)(bp2:Nat)(a2:Bool)(a3:ab):Ctr prog 83 [isI .i64 a0,isI .i64 a1,isP bp2 0,cY tTable a3] [boxO bp2 tB a2 []] (p3 fu a0 a1 a2 a3) (fun q _=>[boxO bp2 tB q []]) (fun q=>we):=by
 refine .w func83 ntmps83 fun hf A w=>?_
 unfold p3
 refine .join1 (fun i1=>⟨[],[boxO bp2 tB i1 []]⟩) (fun i1=>kb i1) (fun i1=>?_) (fun hj1=>?_)
 ·exact .end0 func83 results83 (fun _=>.d<|.e)
 ·refine .g<|go ?_
  refine .split 7 z (fun _=>?_) (fun _=>?_)
  ·refine go ?_
   exact .call0 (c48 fu _ _) n48 z z fun q2=>fj (hj1 _)
  ·exact fj (hj1 _)
def iA {σ2:Type}(i7:Int)(rec1:Int→σ2→Option σ2)(i12:σ2):Option σ2:=rec1 (IntKind.i64.wrap (i7+1)) i12
def cJ {σ2:Type}(fu:Nat)(a0:ac)(a2:Int→Int→σ2→Option σ2)(q3:Int)(q6:Int):Nat→Int→σ2→Option σ2
 | 0,_,_=>none
 | n1+1,i7,i8=>cond (decide (i7 < (List.length (((a0.tabs.getD q3.toNat default).table).rows):Int))) (cond (decide (0≤i7)&&decide (i7 < (List.length (((a0.tabs.getD q3.toNat default).table).rows):Int))) ((f49 fu ((a0.tabs.getD q3.toNat default).table) ((((a0.tabs.getD q3.toNat default).table).rows).getD i7.toNat default)).bind fun q10=>cond (decide (0≤q6)&&decide (q6 < (q10.length:Int))) (cond (!decide (((q10.getD q6.toNat default).kind)=0)) ((a2 (((((a0.tabs.getD q3.toNat default).table).rows).getD i7.toNat default).id) ((q10.getD q6.toNat default).n) i8).bind fun q13=>iA i7 (cJ fu a0 a2 q3 q6 n1) q13) (iA i7 (cJ fu a0 a2 q3 q6 n1) i8)) none) none) (some i8)
def lW {σ2:Type}(fu:Nat)(a0:ac)(a1:aj)(a2:Int→Int→σ2→Option σ2)(s2:σ2):Option σ2:=(eY fu a0 a1.from_).bind fun q3=>cond (decide (0≤q3)&&decide (q3 < (a0.tabs.length:Int))) ((f66 fu ((a0.tabs.getD q3.toNat default).table)).bind fun q5=>(f68 fu q5 a1.col).bind fun q6=>cJ fu a0 a2 q3 q6 fu 0 s2) none
theorem n1086:Nm prog 82:=⟨_,_,func82,by kernel_rfl,z⟩
theorem c1086 (fu : Nat)(a0 : ac)(a1 : aj){σ2 : Type}(a2 : Int → Int → σ2 → Option σ2)(O2 : σ2 → Own)(g2 : Nat)(k2 : List VA)(hn2 : ∃ fn c, prog.funcs[g2]? = some fn ∧ (fn.name == "runtime.NumGoroutine") = false ∧ fn.body = some c)(hc2 : ∀ (x0 : Int) (x1 : Int) (s : σ2), Ctr prog g2 ([isI .i64 x0, isI .i64 x1] ++ k2) [O2 s] (a2 x0 x1 s) (fun q _ => [O2 q]) (fun _ => we))(s2 : σ2) : Ctr prog 82 [tBase.va a0, tLink.va a1, ca g2 k2] [O2 s2] (lW fu a0 a1 a2 s2) (fun q _ => [O2 q]) (fun q => we) := by
 refine .w func82 ntmps82 fun hf A w=>?_
 unfold lW
 refine .s<|.box (T:=tBase) z z fun b1=>.box (T:=tLink) z z fun b2=>.nil<|.seq<|.pb (c1056 fu _ _) n1056 fun q3 h1 k=>.pT fun h2=>.drawS 10 [] [9] [] mix (by kernel_rfl) sts z<|.cons (d:=6) z z fun _ _ hE h=>.alloc tTable d0_27 [] z27 z fun b4=>.toEnd<|h _ _ (.same<|.same<|.same<|.nil)<|go ?_
 refine .seq<|.pb (c66 fu _) n66 fun q5 h3 k=>.draw 4 [] mix (by kernel_rfl) sts z<|.call0 (c68 fu _ _) n68 z z fun q6=>.an z z<|.s<|go ?_
 refine .block<|.loop<|.drop (.c<|.c<|.d<|.d<|.e)<|.keep [2,6,7,26,27,28] [] z<|(show ∀ (n1:Nat) (i7:Int) (i8:σ2),W _ _ _ _ _ ⟨[(2,ca g2 k2,none),(6,isP b4 0,none),(7,isI .i64 q6,none),(26,(tL tRow).va (((a0.tabs.getD q3.toNat default).table).rows),none),(27,isI .i64 (List.length (((a0.tabs.getD q3.toNat default).table).rows):Int),none),(28,isI .i64 i7,none)],[O2 i8,boxO b4 tTable ((a0.tabs.getD q3.toNat default).table) []]⟩ (cJ fu a0 a2 q3 q6 n1 i7 i8) from ?_) fu _ _
 intro n1
 induction n1 with
 | zero=>exact fun _ _=>.stop
 | succ n1 ih1=>
  intro i7 i8
  refine .inLoop<|.s<|go ?_
  refine .seq<|.cd z ?_ ?_
  ·refine .skip<|.seq<|.block<|.s<|go ?_
   refine .alloc tRow d0_37 [] z37 z fun b9=>go ?_
   refine .s<|go ?_
   refine .call0 (aW.plain (c49 fu _ _)) n49 z z fun q10=>go ?_
   refine .alloc tVal d0_47 [] z47 z fun b11=>go ?_
   refine .s<|go ?_
   refine .join1 (fun i12=>⟨[(2,ca g2 k2,none),(6,isP b4 0,none),(7,isI .i64 q6,none),(26,(tL tRow).va (((a0.tabs.getD q3.toNat default).table).rows),none),(27,isI .i64 (List.length (((a0.tabs.getD q3.toNat default).table).rows):Int),none),(28,isI .i64 i7,none)],[O2 i12,boxO b4 tTable ((a0.tabs.getD q3.toNat default).table) []]⟩) (fun i12=>iA i7 (cJ fu a0 a2 q3 q6 n1) i12) (fun i12=>?_) (fun hj2=>?_)
   ·exact fj (ih1 _ _)
   ·refine .cd z ?_ ?_
    ·exact .g<|.m z z<|.fp z bY z<|.lp 1 bG z z ty3 z<|.fp z ul z<|.lp 0 q0 z z ty3 z<|.callCS 2 z (hc2 _ _ _) z hn2 z z fun q13=>fj (hj2 _)
    ·exact fj (hj2 _)
  ·exact .exit z<|.end0 func82 results82 (fun _=>.d<|.c<|.e)
end Go.Proofs.YtganfdhmkdehlaaGreatDoor
