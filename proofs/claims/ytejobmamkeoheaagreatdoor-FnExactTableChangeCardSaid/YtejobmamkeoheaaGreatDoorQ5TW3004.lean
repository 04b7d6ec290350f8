/- The law's own walk. -/
import Derived.Test.YtejobmamkeoheaaGreatDoorQ5TX16
import Derived.KernelRfl
set_option linter.all false
namespace Go.Proofs.YtejobmamkeoheaaGreatDoor
open Go Go.HL
theorem law3004 (fu : Nat) (a0 : Table) (a1 : Change) (l1 : Int) (l2 : Int) (hl1 : f3007 fu a0 1048576 = some l1) (hl2 : decide (l1 < 0) = false → f3014 a1 l1 = some l2)
    (H : decide (l1 < 0) = false → decide (l2 < 0) = false → ∃ (w : Table × Int) (k1 : Int) (y1 : Table) (k2 : Int) (y2 : Table), f3009 fu a0 = some a0 ∧ f3016 a1 = some a1 ∧ f3015 fu a0 a1 = some w ∧ f3017 fu a0 a1 = some w ∧ f3011 fu w.1 w.1 = some true ∧ f3011 fu a0 a0 = some true ∧ f3012 fu a0 1 = some (k1, y1) ∧ decide (k1 < 0) = false ∧ f3012 fu w.1 1 = some (k2, y2) ∧ decide (k2 < 0) = false ∧ f3013 fu y2 1 = some k2) :
    Ctr Tryz.prog 4 [tTable.va a0, tChange.va a1] [] (some true) (fun _ _ => []) (fun q => isB q) := by
  refine Ctr.of_W Tryz.func4 rfl Tryz.ntmps4 rfl fun A w0 => ?_
  refine .seq <| .region <| .box (T := tTable) rfl rfl fun b2 => .box (T := tChange) rfl rfl fun b3 => .assign rfl rfl <| .nil ?_
  refine .seq <| .region <| .assign rfl rfl <| .nil ?_
  refine .seq <| .region <| .loadP 1 (Fld.self _) rfl rfl ty3026 rfl <| .move rfl rfl <| .bindK hl1 (fun r h => .call0 (c3007 fu _ _) n3007 rfl rfl h) <| .assign rfl rfl <| .nil ?_
  refine .seq <| .seq <| .region <| .move rfl rfl <| .bin rfl rfl rfl rfl <| .nil ?_
  refine .eqr (r' := cond (decide (l1 < 0)) (some true) (some true)) (by cases decide (l1 < 0) <;> rfl) <| .cond rfl (fun _ => .seq <| .region <| .assign rfl rfl <| .nil <| .ret1 Tryz.func4 Tryz.results4 (.tmp rfl) rfl (fun _ _ => List.nil_sublist _)) (fun hc0 => ?_)
  have hl2 := hl2 hc0
  refine .skip <| .seq <| .region <| .loadP 0 (Fld.self _) rfl rfl ty3044 rfl <| .move rfl rfl <| .bindK hl2 (fun r h => .call0 (c3014 _ _) n3014 rfl rfl h) <| .assign rfl rfl <| .nil ?_
  refine .seq <| .seq <| .region <| .move rfl rfl <| .bin rfl rfl rfl rfl <| .nil ?_
  refine .eqr (r' := cond (decide (l2 < 0)) (some true) (some true)) (by cases decide (l2 < 0) <;> rfl) <| .cond rfl (fun _ => .seq <| .region <| .assign rfl rfl <| .nil <| .ret1 Tryz.func4 Tryz.results4 (.tmp rfl) rfl (fun _ _ => List.nil_sublist _)) (fun hc1 => ?_)
  obtain ⟨w, k1, y1, k2, y2, hta0, hta1, hspec, himpl, hew1, hea0, hm1, hk1, hm2, hk2, hh⟩ := H hc0 hc1
  refine .skip <| .seq <| .drawS 9 [7] [8] [] mix (by kernel_rfl) (.cons (fun _ _ _ hP hE h => .loadP 1 (Fld.self _) (hE.op rfl) (hP.get rfl rfl) ty3026 rfl <| h) <| .cons (fun _ _ _ hP hE h => .bindE hta0 (fun r h => .call0 (c3009p fu _) n3009 (hE.ops rfl) rfl h) <| h) <| .cons (fun _ _ _ hP hE h => .loadP 0 (Fld.self _) (hE.op rfl) (hP.get rfl rfl) ty3044 rfl <| h) <| .cons (fun _ _ _ hP hE h => .bindE hta1 (fun r h => .call0 (c3016 _) n3016 (hE.ops rfl) rfl h) <| h) <| .cons (fun _ _ _ hP hE h => .bindE hspec (fun r h => .call0 (c3015 fu _ _) n3015 (hE.ops rfl) rfl h) <| h) <| .cons (fun _ _ _ hP hE h => .move (hE.op rfl) rfl <| h) <| .cons (fun _ _ _ hP hE h => .extract (hE.op rfl) rfl rfl <| h) <| .cons (fun _ _ _ hP hE h => .extract (hE.op rfl) rfl rfl <| h) <| .skip <| .nil) rfl <| .cons (d := 6) rfl rfl fun _ _ hE h => .alloc tTable d0_27 [] z27 rfl fun b6 => .toEnd <| h _ _ .app <| .nil <| .perm (List.perm_append_singleton _ _) <| .storeP 0 (Fld.self _) rfl rfl rfl ty27 <| .assign rfl rfl <| .nil ?_
  refine .seq <| .region <| .loadP 2 (Fld.self _) rfl rfl ty3026 rfl <| .bindK2 hta0 (fun r h => .callEb (c3009d fu _) n3009 rfl rfl h) fun pxa0 sxa0 => .alloc tTableD d0D27 [] zD27 rfl fun b8 => .storeP 0 (Fld.self _) rfl rfl rfl ty27 <| .nil ?_
  refine .seq <| .join3 (fun b9 pg1 sg1 => ⟨[(2, isP b2 0, none), (3, isP b3 0, none), (6, isP b6 0, none), (7, isI .i64 w.2, none), (8, isP b8 0, none), (9, isP b9 0, none), (10, isI .i64 w.2, none)], boxO b9 tTableD pg1 [] :: boxO b8 tTableD pxa0 [] :: boxO b6 tTable w.1 [] :: boxO b3 tChange a1 [] :: boxO b2 tTable a0 [] :: (tabO a0 pxa0 sxa0 ++ tabO w.1 pg1 sg1)⟩) (fun _ _ _ => some true) (fun b9 pg1 sg1 => ?_) (fun hj => ?_)
  rotate_left
  · refine .drawT 10 [] [3, 4, 5, 6, 7, 8, 9] [] mix (by kernel_rfl) (.cons (fun _ _ _ hP hE h => .loadP 0 (Fld.self _) (hE.op rfl) (hP.get rfl rfl) ty27 rfl <| h) <| .cons (fun _ _ _ hP hE h => .loadP 2 (Fld.self _) (hE.op rfl) (hP.get rfl rfl) ty3044 rfl <| h) <| .cons (fun _ _ _ hP hE h => .bindE hta1 (fun r h => .call0 (c3016 _) n3016 (hE.ops rfl) rfl h) <| h) <| .skip <| .skip <| .skip <| .skip <| .skip <| .skip <| .skip <| .nil) rfl ?_
    refine .node (.on ?_ <| .off (by kernel_rfl) <| .off (by kernel_rfl) <| .off (by kernel_rfl) <| .on ?_ <| .off (by kernel_rfl) <| .off (by kernel_rfl) <| .nil)
    · refine .put 40 rfl rfl fun _ _ hE h => .bindK2 himpl (fun r h => .callLendEb (c3017d fu _ _) (.deep (tabO a0 pxa0 sxa0) (fun Q hQ => .tail _ <| .tail _ <| .tail _ <| .tail _ <| hQ) tabD_read <| .keep .nil) (tupF2 fun _ _ _ _ _ _ _ h => h) (fun _ _ _ => tabO_free) n3017 (hE.ops rfl) rfl h) fun pg1 sg1 => h _ _ .app ?_
      refine .node (.on ?_ <| .off (by kernel_rfl) <| .off (by kernel_rfl) <| .on ?_ <| .off (by kernel_rfl) <| .off (by kernel_rfl) <| .nil)
      · refine .put 36 rfl rfl fun _ _ hE h => .move (hE.op rfl) rfl <| h _ _ .app ?_
        refine .node (.on ?_ <| .on ?_ <| .on ?_ <| .off (by kernel_rfl) <| .off (by kernel_rfl) <| .nil)
        · refine .put 41 rfl rfl fun _ _ hE h => .extract (hE.op rfl) rfl rfl <| h _ _ .app ?_
          refine .node (.on ?_ <| .on ?_ <| .off (by kernel_rfl) <| .off (by kernel_rfl) <| .nil)
          · refine .put 42 rfl rfl fun _ _ hE h => .extract (hE.op rfl) rfl rfl <| h _ _ .app ?_
            refine .node (.on ?_ <| .off (by kernel_rfl) <| .off (by kernel_rfl) <| .nil)
            · refine .put 9 rfl rfl fun _ _ hE h => .alloc tTableD d0D27 [] zD27 rfl fun b9 => .toEnd <| h _ _ .app2 ?_
              refine .node (.on ?_ <| .off (by kernel_rfl) <| .nil)
              · refine .act rfl fun _ _ hE h => .perm (List.perm_append_singleton _ _) <| .storeP 0 (Fld.self _) (hE.op rfl) rfl (hE.op rfl) ty27 <| .toEnd <| h _ .app2 ?_
                refine .node (.on ?_ <| .nil)
                · refine .put 10 rfl rfl fun _ _ hE h => .assign (hE.op rfl) rfl <| h _ _ .app2 ?_
                  exact .leaf <| .nil <| .perm (List.perm_append_singleton _ _) <| .keep [2, 3, 6, 7, 8, 9, 10] [] rfl (hj _ _ _)
          · refine .put 9 rfl rfl fun _ _ hE h => .alloc tTableD d0D27 [] zD27 rfl fun b9 => .toEnd <| h _ _ .app2 ?_
            refine .node (.on ?_ <| .on ?_ <| .off (by kernel_rfl) <| .nil)
            · refine .put 42 rfl rfl fun _ _ hE h => .extract (hE.op rfl) rfl rfl <| h _ _ .app2 ?_
              refine .node (.on ?_ <| .off (by kernel_rfl) <| .nil)
              · refine .act rfl fun _ _ hE h => .perm (List.perm_append_singleton _ _) <| .storeP 0 (Fld.self _) (hE.op rfl) rfl (hE.op rfl) ty27 <| .toEnd <| h _ .app2 ?_
                refine .node (.on ?_ <| .nil)
                · refine .put 10 rfl rfl fun _ _ hE h => .assign (hE.op rfl) rfl <| h _ _ .app2 ?_
                  exact .leaf <| .nil <| .perm (List.perm_append_singleton _ _) <| .keep [2, 3, 6, 7, 8, 9, 10] [] rfl (hj _ _ _)
            · refine .act rfl fun _ _ hE h => .perm (List.perm_append_singleton _ _) <| .storeP 0 (Fld.self _) (hE.op rfl) rfl (hE.op rfl) ty27 <| .toEnd <| h _ .app2 ?_
              refine .node (.on ?_ <| .off (by kernel_rfl) <| .nil)
              · refine .put 42 rfl rfl fun _ _ hE h => .extract (hE.op rfl) rfl rfl <| h _ _ .app2 ?_
                refine .node (.on ?_ <| .nil)
                · refine .put 10 rfl rfl fun _ _ hE h => .assign (hE.op rfl) rfl <| h _ _ .app2 ?_
                  exact .leaf <| .nil <| .perm (List.perm_append_singleton _ _) <| .keep [2, 3, 6, 7, 8, 9, 10] [] rfl (hj _ _ _)
        · refine .put 42 rfl rfl fun _ _ hE h => .extract (hE.op rfl) rfl rfl <| h _ _ .app ?_
          refine .node (.on ?_ <| .on ?_ <| .off (by kernel_rfl) <| .off (by kernel_rfl) <| .nil)
          · refine .put 41 rfl rfl fun _ _ hE h => .extract (hE.op rfl) rfl rfl <| h _ _ .app ?_
            refine .node (.on ?_ <| .off (by kernel_rfl) <| .off (by kernel_rfl) <| .nil)
            · refine .put 9 rfl rfl fun _ _ hE h => .alloc tTableD d0D27 [] zD27 rfl fun b9 => .toEnd <| h _ _ .app2 ?_
              refine .node (.on ?_ <| .off (by kernel_rfl) <| .nil)
              · refine .act rfl fun _ _ hE h => .perm (List.perm_append_singleton _ _) <| .storeP 0 (Fld.self _) (hE.op rfl) rfl (hE.op rfl) ty27 <| .toEnd <| h _ .app2 ?_
                refine .node (.on ?_ <| .nil)
                · refine .put 10 rfl rfl fun _ _ hE h => .assign (hE.op rfl) rfl <| h _ _ .app2 ?_
                  exact .leaf <| .nil <| .perm (List.perm_append_singleton _ _) <| .keep [2, 3, 6, 7, 8, 9, 10] [] rfl (hj _ _ _)
          · refine .put 9 rfl rfl fun _ _ hE h => .alloc tTableD d0D27 [] zD27 rfl fun b9 => .toEnd <| h _ _ .app2 ?_
            refine .node (.on ?_ <| .off (by kernel_rfl) <| .off (by kernel_rfl) <| .nil)
            · refine .put 41 rfl rfl fun _ _ hE h => .extract (hE.op rfl) rfl rfl <| h _ _ .app2 ?_
              refine .node (.on ?_ <| .off (by kernel_rfl) <| .nil)
              · refine .act rfl fun _ _ hE h => .perm (List.perm_append_singleton _ _) <| .storeP 0 (Fld.self _) (hE.op rfl) rfl (hE.op rfl) ty27 <| .toEnd <| h _ .app2 ?_
                refine .node (.on ?_ <| .nil)
                · refine .put 10 rfl rfl fun _ _ hE h => .assign (hE.op rfl) rfl <| h _ _ .app2 ?_
                  exact .leaf <| .nil <| .perm (List.perm_append_singleton _ _) <| .keep [2, 3, 6, 7, 8, 9, 10] [] rfl (hj _ _ _)
        · refine .put 9 rfl rfl fun _ _ hE h => .alloc tTableD d0D27 [] zD27 rfl fun b9 => .toEnd <| h _ _ .app2 ?_
          refine .node (.on ?_ <| .on ?_ <| .off (by kernel_rfl) <| .off (by kernel_rfl) <| .nil)
          · refine .put 41 rfl rfl fun _ _ hE h => .extract (hE.op rfl) rfl rfl <| h _ _ .app2 ?_
            refine .node (.on ?_ <| .on ?_ <| .off (by kernel_rfl) <| .nil)
            · refine .put 42 rfl rfl fun _ _ hE h => .extract (hE.op rfl) rfl rfl <| h _ _ .app2 ?_
              refine .node (.on ?_ <| .off (by kernel_rfl) <| .nil)
              · refine .act rfl fun _ _ hE h => .perm (List.perm_append_singleton _ _) <| .storeP 0 (Fld.self _) (hE.op rfl) rfl (hE.op rfl) ty27 <| .toEnd <| h _ .app2 ?_
                refine .node (.on ?_ <| .nil)
                · refine .put 10 rfl rfl fun _ _ hE h => .assign (hE.op rfl) rfl <| h _ _ .app2 ?_
                  exact .leaf <| .nil <| .perm (List.perm_append_singleton _ _) <| .keep [2, 3, 6, 7, 8, 9, 10] [] rfl (hj _ _ _)
            · refine .act rfl fun _ _ hE h => .perm (List.perm_append_singleton _ _) <| .storeP 0 (Fld.self _) (hE.op rfl) rfl (hE.op rfl) ty27 <| .toEnd <| h _ .app2 ?_
              refine .node (.on ?_ <| .off (by kernel_rfl) <| .nil)
              · refine .put 42 rfl rfl fun _ _ hE h => .extract (hE.op rfl) rfl rfl <| h _ _ .app2 ?_
                refine .node (.on ?_ <| .nil)
                · refine .put 10 rfl rfl fun _ _ hE h => .assign (hE.op rfl) rfl <| h _ _ .app2 ?_
                  exact .leaf <| .nil <| .perm (List.perm_append_singleton _ _) <| .keep [2, 3, 6, 7, 8, 9, 10] [] rfl (hj _ _ _)
          · refine .put 42 rfl rfl fun _ _ hE h => .extract (hE.op rfl) rfl rfl <| h _ _ .app2 ?_
            refine .node (.on ?_ <| .off (by kernel_rfl) <| .off (by kernel_rfl) <| .nil)
            · refine .put 41 rfl rfl fun _ _ hE h => .extract (hE.op rfl) rfl rfl <| h _ _ .app2 ?_
              refine .node (.on ?_ <| .off (by kernel_rfl) <| .nil)
              · refine .act rfl fun _ _ hE h => .perm (List.perm_append_singleton _ _) <| .storeP 0 (Fld.self _) (hE.op rfl) rfl (hE.op rfl) ty27 <| .toEnd <| h _ .app2 ?_
                refine .node (.on ?_ <| .nil)
                · refine .put 10 rfl rfl fun _ _ hE h => .assign (hE.op rfl) rfl <| h _ _ .app2 ?_
                  exact .leaf <| .nil <| .perm (List.perm_append_singleton _ _) <| .keep [2, 3, 6, 7, 8, 9, 10] [] rfl (hj _ _ _)
      · refine .put 9 rfl rfl fun _ _ hE h => .alloc tTableD d0D27 [] zD27 rfl fun b9 => .toEnd <| h _ _ .app2 ?_
        refine .node (.on ?_ <| .off (by kernel_rfl) <| .off (by kernel_rfl) <| .off (by kernel_rfl) <| .off (by kernel_rfl) <| .nil)
        · refine .put 36 rfl rfl fun _ _ hE h => .move (hE.op rfl) rfl <| h _ _ .app2 ?_
          refine .node (.on ?_ <| .on ?_ <| .off (by kernel_rfl) <| .off (by kernel_rfl) <| .nil)
          · refine .put 41 rfl rfl fun _ _ hE h => .extract (hE.op rfl) rfl rfl <| h _ _ .app2 ?_
            refine .node (.on ?_ <| .on ?_ <| .off (by kernel_rfl) <| .nil)
            · refine .put 42 rfl rfl fun _ _ hE h => .extract (hE.op rfl) rfl rfl <| h _ _ .app2 ?_
              refine .node (.on ?_ <| .off (by kernel_rfl) <| .nil)
              · refine .act rfl fun _ _ hE h => .perm (List.perm_append_singleton _ _) <| .storeP 0 (Fld.self _) (hE.op rfl) rfl (hE.op rfl) ty27 <| .toEnd <| h _ .app2 ?_
                refine .node (.on ?_ <| .nil)
                · refine .put 10 rfl rfl fun _ _ hE h => .assign (hE.op rfl) rfl <| h _ _ .app2 ?_
                  exact .leaf <| .nil <| .perm (List.perm_append_singleton _ _) <| .keep [2, 3, 6, 7, 8, 9, 10] [] rfl (hj _ _ _)
            · refine .act rfl fun _ _ hE h => .perm (List.perm_append_singleton _ _) <| .storeP 0 (Fld.self _) (hE.op rfl) rfl (hE.op rfl) ty27 <| .toEnd <| h _ .app2 ?_
              refine .node (.on ?_ <| .off (by kernel_rfl) <| .nil)
              · refine .put 42 rfl rfl fun _ _ hE h => .extract (hE.op rfl) rfl rfl <| h _ _ .app2 ?_
                refine .node (.on ?_ <| .nil)
                · refine .put 10 rfl rfl fun _ _ hE h => .assign (hE.op rfl) rfl <| h _ _ .app2 ?_
                  exact .leaf <| .nil <| .perm (List.perm_append_singleton _ _) <| .keep [2, 3, 6, 7, 8, 9, 10] [] rfl (hj _ _ _)
          · refine .put 42 rfl rfl fun _ _ hE h => .extract (hE.op rfl) rfl rfl <| h _ _ .app2 ?_
            refine .node (.on ?_ <| .off (by kernel_rfl) <| .off (by kernel_rfl) <| .nil)
            · refine .put 41 rfl rfl fun _ _ hE h => .extract (hE.op rfl) rfl rfl <| h _ _ .app2 ?_
              refine .node (.on ?_ <| .off (by kernel_rfl) <| .nil)
              · refine .act rfl fun _ _ hE h => .perm (List.perm_append_singleton _ _) <| .storeP 0 (Fld.self _) (hE.op rfl) rfl (hE.op rfl) ty27 <| .toEnd <| h _ .app2 ?_
                refine .node (.on ?_ <| .nil)
                · refine .put 10 rfl rfl fun _ _ hE h => .assign (hE.op rfl) rfl <| h _ _ .app2 ?_
                  exact .leaf <| .nil <| .perm (List.perm_append_singleton _ _) <| .keep [2, 3, 6, 7, 8, 9, 10] [] rfl (hj _ _ _)
    · refine .put 9 rfl rfl fun _ _ hE h => .alloc tTableD d0D27 [] zD27 rfl fun b9 => .toEnd <| h _ _ .app ?_
      refine .node (.on ?_ <| .off (by kernel_rfl) <| .off (by kernel_rfl) <| .off (by kernel_rfl) <| .off (by kernel_rfl) <| .off (by kernel_rfl) <| .nil)
      · refine .put 40 rfl rfl fun _ _ hE h => .bindK2 himpl (fun r h => .callLendEb (c3017d fu _ _) (.deep (tabO a0 pxa0 sxa0) (fun Q hQ => .tail _ <| .tail _ <| .tail _ <| .tail _ <| List.mem_append_left _ hQ) tabD_read <| .keep .nil) (tupF2 fun _ _ _ _ _ _ _ h => h) (fun _ _ _ => tabO_free) n3017 (hE.ops rfl) rfl h) fun pg1 sg1 => h _ _ .app2 ?_
        refine .node (.on ?_ <| .off (by kernel_rfl) <| .off (by kernel_rfl) <| .off (by kernel_rfl) <| .off (by kernel_rfl) <| .nil)
        · refine .put 36 rfl rfl fun _ _ hE h => .move (hE.op rfl) rfl <| h _ _ .app2 ?_
          refine .node (.on ?_ <| .on ?_ <| .off (by kernel_rfl) <| .off (by kernel_rfl) <| .nil)
          · refine .put 41 rfl rfl fun _ _ hE h => .extract (hE.op rfl) rfl rfl <| h _ _ .app2 ?_
            refine .node (.on ?_ <| .on ?_ <| .off (by kernel_rfl) <| .nil)
            · refine .put 42 rfl rfl fun _ _ hE h => .extract (hE.op rfl) rfl rfl <| h _ _ .app2 ?_
              refine .node (.on ?_ <| .off (by kernel_rfl) <| .nil)
              · refine .act rfl fun _ _ hE h => .perm ((List.perm_append_singleton _ _).append_right _) <| .storeP 0 (Fld.self _) (hE.op rfl) rfl (hE.op rfl) ty27 <| .toEnd <| h _ .app2 ?_
                refine .node (.on ?_ <| .nil)
                · refine .put 10 rfl rfl fun _ _ hE h => .assign (hE.op rfl) rfl <| h _ _ .app2 ?_
                  exact .leaf <| .nil <| .perm (List.perm_append_singleton _ _) <| .keep [2, 3, 6, 7, 8, 9, 10] [] rfl (hj _ _ _)
            · refine .act rfl fun _ _ hE h => .perm ((List.perm_append_singleton _ _).append_right _) <| .storeP 0 (Fld.self _) (hE.op rfl) rfl (hE.op rfl) ty27 <| .toEnd <| h _ .app2 ?_
              refine .node (.on ?_ <| .off (by kernel_rfl) <| .nil)
              · refine .put 42 rfl rfl fun _ _ hE h => .extract (hE.op rfl) rfl rfl <| h _ _ .app2 ?_
                refine .node (.on ?_ <| .nil)
                · refine .put 10 rfl rfl fun _ _ hE h => .assign (hE.op rfl) rfl <| h _ _ .app2 ?_
                  exact .leaf <| .nil <| .perm (List.perm_append_singleton _ _) <| .keep [2, 3, 6, 7, 8, 9, 10] [] rfl (hj _ _ _)
          · refine .put 42 rfl rfl fun _ _ hE h => .extract (hE.op rfl) rfl rfl <| h _ _ .app2 ?_
            refine .node (.on ?_ <| .off (by kernel_rfl) <| .off (by kernel_rfl) <| .nil)
            · refine .put 41 rfl rfl fun _ _ hE h => .extract (hE.op rfl) rfl rfl <| h _ _ .app2 ?_
              refine .node (.on ?_ <| .off (by kernel_rfl) <| .nil)
              · refine .act rfl fun _ _ hE h => .perm ((List.perm_append_singleton _ _).append_right _) <| .storeP 0 (Fld.self _) (hE.op rfl) rfl (hE.op rfl) ty27 <| .toEnd <| h _ .app2 ?_
                refine .node (.on ?_ <| .nil)
                · refine .put 10 rfl rfl fun _ _ hE h => .assign (hE.op rfl) rfl <| h _ _ .app2 ?_
                  exact .leaf <| .nil <| .perm (List.perm_append_singleton _ _) <| .keep [2, 3, 6, 7, 8, 9, 10] [] rfl (hj _ _ _)
  refine .seq <| .seq <| .region <| .loadP 0 (Fld.self _) rfl rfl ty27 rfl <| .loadP 2 (Fld.self _) rfl rfl ty27 rfl <| .bindK hew1 (fun r h => .callLendP (c3011 fu _ _) (.deep (tabO w.1 pg1 sg1) (fun Q hQ => .tail _ <| .tail _ <| .tail _ <| .tail _ <| .tail _ <| List.mem_append_right _ hQ) tabD_read <| .keep .nil) (fun _ _ _ _ _ _ h => h) n3011 rfl rfl h) <| .not rfl rfl <| .move rfl rfl <| .on rfl rfl <| .move rfl rfl <| .on rfl rfl <| .move rfl rfl <| .on rfl rfl <| .bin rfl rfl rfl rfl <| .useEq (neF _) <| .pickF rfl rfl rfl <| .nil ?_
  refine .condF rfl <| .skip <| .seq <| .seq <| .draw 3 [] mix (by kernel_rfl) (.cons (fun _ _ _ hP hE h => .loadP 1 (Fld.self _) (hE.op rfl) (hP.get rfl rfl) ty27 rfl <| h) <| .cons (fun _ _ _ hP hE h => .loadP 4 (Fld.self _) (hE.op rfl) (hP.get rfl rfl) ty3026 rfl <| h) <| .cons (fun _ _ _ hP hE h => .bindE hta0 (fun r h => .call0 (c3009p fu _) n3009 (hE.ops rfl) rfl h) <| h) <| .nil) rfl <| .bindK hea0 (fun r h => .callLendP (c3011 fu _ _) (.deep (tabO a0 pxa0 sxa0) (fun Q hQ => .tail _ <| .tail _ <| .tail _ <| .tail _ <| .tail _ <| List.mem_append_left _ hQ) tabD_read <| .keep .nil) (fun _ _ _ _ _ _ h => h) n3011 rfl rfl h) <| .not rfl rfl <| .nil ?_
  refine .condF rfl <| .skip <| .seq <| .region <| .assign rfl rfl <| .nil ?_
  refine .seq <| .region <| .loadP 1 (Fld.self _) rfl rfl ty27 rfl <| .move rfl rfl <| .perm (pmA (X := tabO a0 pxa0 sxa0) (G := tabO w.1 pg1 sg1) [_, _, _, _, _]) <| .bindK2 hm1 (fun r h => .callOE (c3012 fu _ _ _ _) rfl n3012 rfl rfl h) fun _ sm1 => .drop (List.sublist_append_right _ _) <| .assign rfl rfl <| .nil ?_
  refine .seq <| .seq <| .region <| .move rfl rfl <| .bin rfl rfl rfl rfl <| .useEq hk1 <| .move rfl rfl <| .on rfl rfl <| .loadP 0 (Fld.self _) rfl rfl ty27 rfl <| .on rfl rfl <| .loadP 2 (Fld.self _) rfl rfl ty27 rfl <| .on rfl rfl <| .bindK hew1 (fun r h => .callLendP (c3011 fu _ _) (.deep (tabO w.1 pg1 sg1) (fun Q hQ => .tail _ <| .tail _ <| .tail _ <| .tail _ <| .tail _ <| hQ) tabD_read <| .keep .nil) (fun _ _ _ _ _ _ h => h) n3011 rfl rfl h) <| .on rfl rfl <| .not rfl rfl <| .pickF rfl rfl rfl <| .move rfl rfl <| .on rfl rfl <| .move rfl rfl <| .on rfl rfl <| .move rfl rfl <| .on rfl rfl <| .bin rfl rfl rfl rfl <| .useEq (neF _) <| .pickF rfl rfl rfl <| .nil ?_
  refine .condF rfl <| .skip <| .seq <| .region <| .assign rfl rfl <| .nil ?_
  refine .seq <| .region <| .loadP 0 (Fld.self _) rfl rfl ty27 rfl <| .move rfl rfl <| .perm (List.perm_append_comm (l₁ := [_, _, _, _, _])) <| .bindK2 hm2 (fun r h => .callOE (c3012 fu _ _ _ _) rfl n3012 rfl rfl h) fun _ sm2 => .perm (List.perm_append_comm (l₂ := [_, _, _, _, _])) <| .assign rfl rfl <| .nil ?_
  refine .seq <| .region <| .assign rfl rfl <| .nil ?_
  refine .seq <| .region <| .loadP 0 (Fld.self _) rfl rfl ty27 rfl <| .move rfl rfl <| .bindK hh (fun r h => .callLendP (c3013 fu _ _) (.deep (tabO y2 pg1 sm2) (fun Q hQ => .tail _ <| .tail _ <| .tail _ <| .tail _ <| .tail _ <| hQ) tabD_read <| .keep .nil) (fun _ _ _ _ _ _ h => h) n3013 rfl rfl h) <| .assign rfl rfl <| .nil ?_
  refine .seq <| .seq <| .region <| .move rfl rfl <| .bin rfl rfl rfl rfl <| .useEq hk2 <| .nil ?_
  refine .condF rfl <| .skip <| .seq <| .seq <| .region <| .move rfl rfl <| .move rfl rfl <| .bin rfl rfl rfl rfl <| .useEq (neF _) <| .nil ?_
  refine .condF rfl <| .skip <| .seq <| .join3 (fun b14 pg2 sg2 => ⟨[(6, isP b6 0, none), (7, isI .i64 w.2, none), (9, isP b9 0, none), (12, isI .i64 k2, none), (13, isI .i64 k2, none), (14, isP b14 0, none), (15, isI .i64 w.2, none)], boxO b14 tTableD pg2 [] :: boxO b9 tTableD pg1 [] :: boxO b8 tTableD pxa0 [] :: boxO b6 tTable w.1 [] :: boxO b3 tChange a1 [] :: boxO b2 tTable a0 [] :: (tabO y2 pg1 sm2 ++ tabO w.1 pg2 sg2)⟩) (fun _ _ _ => some true) (fun b14 pg2 sg2 => ?_) (fun hj => ?_)
  rotate_left
  · refine .drawT 11 [] [4, 5, 6, 7, 8, 9, 10] [] mix (by kernel_rfl) (.cons (fun _ _ _ hP hE h => .loadP 4 (Fld.self _) (hE.op rfl) (hP.get rfl rfl) ty3026 rfl <| h) <| .cons (fun _ _ _ hP hE h => .bindE hta0 (fun r h => .call0 (c3009p fu _) n3009 (hE.ops rfl) rfl h) <| h) <| .cons (fun _ _ _ hP hE h => .loadP 3 (Fld.self _) (hE.op rfl) (hP.get rfl rfl) ty3044 rfl <| h) <| .cons (fun _ _ _ hP hE h => .bindE hta1 (fun r h => .call0 (c3016 _) n3016 (hE.ops rfl) rfl h) <| h) <| .skip <| .skip <| .skip <| .skip <| .skip <| .skip <| .skip <| .nil) rfl ?_
    refine .node (.on ?_ <| .off (by kernel_rfl) <| .off (by kernel_rfl) <| .off (by kernel_rfl) <| .on ?_ <| .off (by kernel_rfl) <| .off (by kernel_rfl) <| .nil)
    · refine .put 89 rfl rfl fun _ _ hE h => .bindK2 himpl (fun r h => .callEb (c3017d fu _ _) n3017 (hE.ops rfl) rfl h) fun pg2 sg2 => h _ _ .app ?_
      refine .node (.on ?_ <| .off (by kernel_rfl) <| .off (by kernel_rfl) <| .on ?_ <| .off (by kernel_rfl) <| .off (by kernel_rfl) <| .nil)
      · refine .put 84 rfl rfl fun _ _ hE h => .move (hE.op rfl) rfl <| h _ _ .app ?_
        refine .node (.on ?_ <| .on ?_ <| .on ?_ <| .off (by kernel_rfl) <| .off (by kernel_rfl) <| .nil)
        · refine .put 90 rfl rfl fun _ _ hE h => .extract (hE.op rfl) rfl rfl <| h _ _ .app ?_
          refine .node (.on ?_ <| .on ?_ <| .off (by kernel_rfl) <| .off (by kernel_rfl) <| .nil)
          · refine .put 91 rfl rfl fun _ _ hE h => .extract (hE.op rfl) rfl rfl <| h _ _ .app ?_
            refine .node (.on ?_ <| .off (by kernel_rfl) <| .off (by kernel_rfl) <| .nil)
            · refine .put 14 rfl rfl fun _ _ hE h => .alloc tTableD d0D27 [] zD27 rfl fun b14 => .toEnd <| h _ _ .app2 ?_
              refine .node (.on ?_ <| .off (by kernel_rfl) <| .nil)
              · refine .act rfl fun _ _ hE h => .perm (List.perm_append_singleton _ _) <| .storeP 0 (Fld.self _) (hE.op rfl) rfl (hE.op rfl) ty27 <| .toEnd <| h _ .app2 ?_
                refine .node (.on ?_ <| .nil)
                · refine .put 15 rfl rfl fun _ _ hE h => .assign (hE.op rfl) rfl <| h _ _ .app2 ?_
                  exact .leaf <| .nil <| .perm (List.perm_append_singleton _ _) <| .keep [6, 7, 9, 12, 13, 14, 15] [] rfl (hj _ _ _)
          · refine .put 14 rfl rfl fun _ _ hE h => .alloc tTableD d0D27 [] zD27 rfl fun b14 => .toEnd <| h _ _ .app2 ?_
            refine .node (.on ?_ <| .on ?_ <| .off (by kernel_rfl) <| .nil)
            · refine .put 91 rfl rfl fun _ _ hE h => .extract (hE.op rfl) rfl rfl <| h _ _ .app2 ?_
              refine .node (.on ?_ <| .off (by kernel_rfl) <| .nil)
              · refine .act rfl fun _ _ hE h => .perm (List.perm_append_singleton _ _) <| .storeP 0 (Fld.self _) (hE.op rfl) rfl (hE.op rfl) ty27 <| .toEnd <| h _ .app2 ?_
                refine .node (.on ?_ <| .nil)
                · refine .put 15 rfl rfl fun _ _ hE h => .assign (hE.op rfl) rfl <| h _ _ .app2 ?_
                  exact .leaf <| .nil <| .perm (List.perm_append_singleton _ _) <| .keep [6, 7, 9, 12, 13, 14, 15] [] rfl (hj _ _ _)
            · refine .act rfl fun _ _ hE h => .perm (List.perm_append_singleton _ _) <| .storeP 0 (Fld.self _) (hE.op rfl) rfl (hE.op rfl) ty27 <| .toEnd <| h _ .app2 ?_
              refine .node (.on ?_ <| .off (by kernel_rfl) <| .nil)
              · refine .put 91 rfl rfl fun _ _ hE h => .extract (hE.op rfl) rfl rfl <| h _ _ .app2 ?_
                refine .node (.on ?_ <| .nil)
                · refine .put 15 rfl rfl fun _ _ hE h => .assign (hE.op rfl) rfl <| h _ _ .app2 ?_
                  exact .leaf <| .nil <| .perm (List.perm_append_singleton _ _) <| .keep [6, 7, 9, 12, 13, 14, 15] [] rfl (hj _ _ _)
        · refine .put 91 rfl rfl fun _ _ hE h => .extract (hE.op rfl) rfl rfl <| h _ _ .app ?_
          refine .node (.on ?_ <| .on ?_ <| .off (by kernel_rfl) <| .off (by kernel_rfl) <| .nil)
          · refine .put 90 rfl rfl fun _ _ hE h => .extract (hE.op rfl) rfl rfl <| h _ _ .app ?_
            refine .node (.on ?_ <| .off (by kernel_rfl) <| .off (by kernel_rfl) <| .nil)
            · refine .put 14 rfl rfl fun _ _ hE h => .alloc tTableD d0D27 [] zD27 rfl fun b14 => .toEnd <| h _ _ .app2 ?_
              refine .node (.on ?_ <| .off (by kernel_rfl) <| .nil)
              · refine .act rfl fun _ _ hE h => .perm (List.perm_append_singleton _ _) <| .storeP 0 (Fld.self _) (hE.op rfl) rfl (hE.op rfl) ty27 <| .toEnd <| h _ .app2 ?_
                refine .node (.on ?_ <| .nil)
                · refine .put 15 rfl rfl fun _ _ hE h => .assign (hE.op rfl) rfl <| h _ _ .app2 ?_
                  exact .leaf <| .nil <| .perm (List.perm_append_singleton _ _) <| .keep [6, 7, 9, 12, 13, 14, 15] [] rfl (hj _ _ _)
          · refine .put 14 rfl rfl fun _ _ hE h => .alloc tTableD d0D27 [] zD27 rfl fun b14 => .toEnd <| h _ _ .app2 ?_
            refine .node (.on ?_ <| .off (by kernel_rfl) <| .off (by kernel_rfl) <| .nil)
            · refine .put 90 rfl rfl fun _ _ hE h => .extract (hE.op rfl) rfl rfl <| h _ _ .app2 ?_
              refine .node (.on ?_ <| .off (by kernel_rfl) <| .nil)
              · refine .act rfl fun _ _ hE h => .perm (List.perm_append_singleton _ _) <| .storeP 0 (Fld.self _) (hE.op rfl) rfl (hE.op rfl) ty27 <| .toEnd <| h _ .app2 ?_
                refine .node (.on ?_ <| .nil)
                · refine .put 15 rfl rfl fun _ _ hE h => .assign (hE.op rfl) rfl <| h _ _ .app2 ?_
                  exact .leaf <| .nil <| .perm (List.perm_append_singleton _ _) <| .keep [6, 7, 9, 12, 13, 14, 15] [] rfl (hj _ _ _)
        · refine .put 14 rfl rfl fun _ _ hE h => .alloc tTableD d0D27 [] zD27 rfl fun b14 => .toEnd <| h _ _ .app2 ?_
          refine .node (.on ?_ <| .on ?_ <| .off (by kernel_rfl) <| .off (by kernel_rfl) <| .nil)
          · refine .put 90 rfl rfl fun _ _ hE h => .extract (hE.op rfl) rfl rfl <| h _ _ .app2 ?_
            refine .node (.on ?_ <| .on ?_ <| .off (by kernel_rfl) <| .nil)
            · refine .put 91 rfl rfl fun _ _ hE h => .extract (hE.op rfl) rfl rfl <| h _ _ .app2 ?_
              refine .node (.on ?_ <| .off (by kernel_rfl) <| .nil)
              · refine .act rfl fun _ _ hE h => .perm (List.perm_append_singleton _ _) <| .storeP 0 (Fld.self _) (hE.op rfl) rfl (hE.op rfl) ty27 <| .toEnd <| h _ .app2 ?_
                refine .node (.on ?_ <| .nil)
                · refine .put 15 rfl rfl fun _ _ hE h => .assign (hE.op rfl) rfl <| h _ _ .app2 ?_
                  exact .leaf <| .nil <| .perm (List.perm_append_singleton _ _) <| .keep [6, 7, 9, 12, 13, 14, 15] [] rfl (hj _ _ _)
            · refine .act rfl fun _ _ hE h => .perm (List.perm_append_singleton _ _) <| .storeP 0 (Fld.self _) (hE.op rfl) rfl (hE.op rfl) ty27 <| .toEnd <| h _ .app2 ?_
              refine .node (.on ?_ <| .off (by kernel_rfl) <| .nil)
              · refine .put 91 rfl rfl fun _ _ hE h => .extract (hE.op rfl) rfl rfl <| h _ _ .app2 ?_
                refine .node (.on ?_ <| .nil)
                · refine .put 15 rfl rfl fun _ _ hE h => .assign (hE.op rfl) rfl <| h _ _ .app2 ?_
                  exact .leaf <| .nil <| .perm (List.perm_append_singleton _ _) <| .keep [6, 7, 9, 12, 13, 14, 15] [] rfl (hj _ _ _)
          · refine .put 91 rfl rfl fun _ _ hE h => .extract (hE.op rfl) rfl rfl <| h _ _ .app2 ?_
            refine .node (.on ?_ <| .off (by kernel_rfl) <| .off (by kernel_rfl) <| .nil)
            · refine .put 90 rfl rfl fun _ _ hE h => .extract (hE.op rfl) rfl rfl <| h _ _ .app2 ?_
              refine .node (.on ?_ <| .off (by kernel_rfl) <| .nil)
              · refine .act rfl fun _ _ hE h => .perm (List.perm_append_singleton _ _) <| .storeP 0 (Fld.self _) (hE.op rfl) rfl (hE.op rfl) ty27 <| .toEnd <| h _ .app2 ?_
                refine .node (.on ?_ <| .nil)
                · refine .put 15 rfl rfl fun _ _ hE h => .assign (hE.op rfl) rfl <| h _ _ .app2 ?_
                  exact .leaf <| .nil <| .perm (List.perm_append_singleton _ _) <| .keep [6, 7, 9, 12, 13, 14, 15] [] rfl (hj _ _ _)
      · refine .put 14 rfl rfl fun _ _ hE h => .alloc tTableD d0D27 [] zD27 rfl fun b14 => .toEnd <| h _ _ .app2 ?_
        refine .node (.on ?_ <| .off (by kernel_rfl) <| .off (by kernel_rfl) <| .off (by kernel_rfl) <| .off (by kernel_rfl) <| .nil)
        · refine .put 84 rfl rfl fun _ _ hE h => .move (hE.op rfl) rfl <| h _ _ .app2 ?_
          refine .node (.on ?_ <| .on ?_ <| .off (by kernel_rfl) <| .off (by kernel_rfl) <| .nil)
          · refine .put 90 rfl rfl fun _ _ hE h => .extract (hE.op rfl) rfl rfl <| h _ _ .app2 ?_
            refine .node (.on ?_ <| .on ?_ <| .off (by kernel_rfl) <| .nil)
            · refine .put 91 rfl rfl fun _ _ hE h => .extract (hE.op rfl) rfl rfl <| h _ _ .app2 ?_
              refine .node (.on ?_ <| .off (by kernel_rfl) <| .nil)
              · refine .act rfl fun _ _ hE h => .perm (List.perm_append_singleton _ _) <| .storeP 0 (Fld.self _) (hE.op rfl) rfl (hE.op rfl) ty27 <| .toEnd <| h _ .app2 ?_
                refine .node (.on ?_ <| .nil)
                · refine .put 15 rfl rfl fun _ _ hE h => .assign (hE.op rfl) rfl <| h _ _ .app2 ?_
                  exact .leaf <| .nil <| .perm (List.perm_append_singleton _ _) <| .keep [6, 7, 9, 12, 13, 14, 15] [] rfl (hj _ _ _)
            · refine .act rfl fun _ _ hE h => .perm (List.perm_append_singleton _ _) <| .storeP 0 (Fld.self _) (hE.op rfl) rfl (hE.op rfl) ty27 <| .toEnd <| h _ .app2 ?_
              refine .node (.on ?_ <| .off (by kernel_rfl) <| .nil)
              · refine .put 91 rfl rfl fun _ _ hE h => .extract (hE.op rfl) rfl rfl <| h _ _ .app2 ?_
                refine .node (.on ?_ <| .nil)
                · refine .put 15 rfl rfl fun _ _ hE h => .assign (hE.op rfl) rfl <| h _ _ .app2 ?_
                  exact .leaf <| .nil <| .perm (List.perm_append_singleton _ _) <| .keep [6, 7, 9, 12, 13, 14, 15] [] rfl (hj _ _ _)
          · refine .put 91 rfl rfl fun _ _ hE h => .extract (hE.op rfl) rfl rfl <| h _ _ .app2 ?_
            refine .node (.on ?_ <| .off (by kernel_rfl) <| .off (by kernel_rfl) <| .nil)
            · refine .put 90 rfl rfl fun _ _ hE h => .extract (hE.op rfl) rfl rfl <| h _ _ .app2 ?_
              refine .node (.on ?_ <| .off (by kernel_rfl) <| .nil)
              · refine .act rfl fun _ _ hE h => .perm (List.perm_append_singleton _ _) <| .storeP 0 (Fld.self _) (hE.op rfl) rfl (hE.op rfl) ty27 <| .toEnd <| h _ .app2 ?_
                refine .node (.on ?_ <| .nil)
                · refine .put 15 rfl rfl fun _ _ hE h => .assign (hE.op rfl) rfl <| h _ _ .app2 ?_
                  exact .leaf <| .nil <| .perm (List.perm_append_singleton _ _) <| .keep [6, 7, 9, 12, 13, 14, 15] [] rfl (hj _ _ _)
    · refine .put 14 rfl rfl fun _ _ hE h => .alloc tTableD d0D27 [] zD27 rfl fun b14 => .toEnd <| h _ _ .app ?_
      refine .node (.on ?_ <| .off (by kernel_rfl) <| .off (by kernel_rfl) <| .off (by kernel_rfl) <| .off (by kernel_rfl) <| .off (by kernel_rfl) <| .nil)
      · refine .put 89 rfl rfl fun _ _ hE h => .bindK2 himpl (fun r h => .callEb (c3017d fu _ _) n3017 (hE.ops rfl) rfl h) fun pg2 sg2 => h _ _ .app2 ?_
        refine .node (.on ?_ <| .off (by kernel_rfl) <| .off (by kernel_rfl) <| .off (by kernel_rfl) <| .off (by kernel_rfl) <| .nil)
        · refine .put 84 rfl rfl fun _ _ hE h => .move (hE.op rfl) rfl <| h _ _ .app2 ?_
          refine .node (.on ?_ <| .on ?_ <| .off (by kernel_rfl) <| .off (by kernel_rfl) <| .nil)
          · refine .put 90 rfl rfl fun _ _ hE h => .extract (hE.op rfl) rfl rfl <| h _ _ .app2 ?_
            refine .node (.on ?_ <| .on ?_ <| .off (by kernel_rfl) <| .nil)
            · refine .put 91 rfl rfl fun _ _ hE h => .extract (hE.op rfl) rfl rfl <| h _ _ .app2 ?_
              refine .node (.on ?_ <| .off (by kernel_rfl) <| .nil)
              · refine .act rfl fun _ _ hE h => .perm ((List.perm_append_singleton _ _).append_right _) <| .storeP 0 (Fld.self _) (hE.op rfl) rfl (hE.op rfl) ty27 <| .toEnd <| h _ .app2 ?_
                refine .node (.on ?_ <| .nil)
                · refine .put 15 rfl rfl fun _ _ hE h => .assign (hE.op rfl) rfl <| h _ _ .app2 ?_
                  exact .leaf <| .nil <| .perm (List.perm_append_singleton _ _) <| .keep [6, 7, 9, 12, 13, 14, 15] [] rfl (hj _ _ _)
            · refine .act rfl fun _ _ hE h => .perm ((List.perm_append_singleton _ _).append_right _) <| .storeP 0 (Fld.self _) (hE.op rfl) rfl (hE.op rfl) ty27 <| .toEnd <| h _ .app2 ?_
              refine .node (.on ?_ <| .off (by kernel_rfl) <| .nil)
              · refine .put 91 rfl rfl fun _ _ hE h => .extract (hE.op rfl) rfl rfl <| h _ _ .app2 ?_
                refine .node (.on ?_ <| .nil)
                · refine .put 15 rfl rfl fun _ _ hE h => .assign (hE.op rfl) rfl <| h _ _ .app2 ?_
                  exact .leaf <| .nil <| .perm (List.perm_append_singleton _ _) <| .keep [6, 7, 9, 12, 13, 14, 15] [] rfl (hj _ _ _)
          · refine .put 91 rfl rfl fun _ _ hE h => .extract (hE.op rfl) rfl rfl <| h _ _ .app2 ?_
            refine .node (.on ?_ <| .off (by kernel_rfl) <| .off (by kernel_rfl) <| .nil)
            · refine .put 90 rfl rfl fun _ _ hE h => .extract (hE.op rfl) rfl rfl <| h _ _ .app2 ?_
              refine .node (.on ?_ <| .off (by kernel_rfl) <| .nil)
              · refine .act rfl fun _ _ hE h => .perm ((List.perm_append_singleton _ _).append_right _) <| .storeP 0 (Fld.self _) (hE.op rfl) rfl (hE.op rfl) ty27 <| .toEnd <| h _ .app2 ?_
                refine .node (.on ?_ <| .nil)
                · refine .put 15 rfl rfl fun _ _ hE h => .assign (hE.op rfl) rfl <| h _ _ .app2 ?_
                  exact .leaf <| .nil <| .perm (List.perm_append_singleton _ _) <| .keep [6, 7, 9, 12, 13, 14, 15] [] rfl (hj _ _ _)
  refine .seq <| .seq <| .region <| .loadP 0 (Fld.self _) rfl rfl ty27 rfl <| .loadP 3 (Fld.self _) rfl rfl ty27 rfl <| .bindK hew1 (fun r h => .callLendP (c3011 fu _ _) (.deep (tabO w.1 pg2 sg2) (fun Q hQ => .tail _ <| .tail _ <| .tail _ <| .tail _ <| .tail _ <| .tail _ <| List.mem_append_right _ hQ) tabD_read <| .keep .nil) (fun _ _ _ _ _ _ h => h) n3011 rfl rfl h) <| .not rfl rfl <| .move rfl rfl <| .on rfl rfl <| .move rfl rfl <| .on rfl rfl <| .move rfl rfl <| .on rfl rfl <| .bin rfl rfl rfl rfl <| .useEq (neF _) <| .pickF rfl rfl rfl <| .nil ?_
  refine .condF rfl <| .skip <| .seq <| .region <| .assign rfl rfl <| .nil ?_
  refine .seq <| .region <| .loadP 1 (Fld.self _) rfl rfl ty27 rfl <| .move rfl rfl <| .bindK hh (fun r h => .callLendP (c3013 fu _ _) (.deep (tabO y2 pg1 sm2) (fun Q hQ => .tail _ <| .tail _ <| .tail _ <| .tail _ <| .tail _ <| .tail _ <| List.mem_append_left _ hQ) tabD_read <| .keep .nil) (fun _ _ _ _ _ _ h => h) n3013 rfl rfl h) <| .assign rfl rfl <| .nil ?_
  refine .seq <| .seq <| .region <| .move rfl rfl <| .bin rfl rfl rfl rfl <| .useEq hk2 <| .nil ?_
  refine .condF rfl <| .skip <| .seq <| .seq <| .region <| .move rfl rfl <| .move rfl rfl <| .bin rfl rfl rfl rfl <| .useEq (neF _) <| .nil ?_
  refine .condF rfl <| .skip <| .seq <| .region <| .assign rfl rfl <| .nil ?_
  exact .ret1 Tryz.func4 Tryz.results4 (.tmp rfl) rfl (fun _ _ => List.nil_sublist _)
end Go.Proofs.YtejobmamkeoheaaGreatDoor
