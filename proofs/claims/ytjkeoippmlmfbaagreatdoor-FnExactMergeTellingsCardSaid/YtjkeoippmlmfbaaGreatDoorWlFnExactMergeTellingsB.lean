import Derived.Test.YtjkeoippmlmfbaaGreatDoorWlFnExactMergeTellingsA
set_option linter.unusedSimpArgs false
set_option linter.unusedVariables false
set_option linter.unusedVariables false
set_option linter.unusedSimpArgs false
set_option maxRecDepth 8000
set_option maxHeartbeats 0
namespace Go.TL.YtjkeoippmlmfbaaGreatDoor
open Go Go.Proofs Go.TL
theorem w_laws_FnExactMergeTellings {a0 : TellingsT} {a1 : TellingsT} {r : Bool} (h : laws_FnExactMergeTellings a0 a1 = some r) : Fn Tryz.prog 10 [(.ag [(.lf true (.sl (a0.Branches.map eBranch)))]),(.ag [(.lf true (.sl (a1.Branches.map eBranch)))])] [] 0 (B r) [] 0 := by
 unfold laws_FnExactMergeTellings at h
 refine fn_code tab_ok mixed [(8,[(2,1),(0,8),(2,8)]),(14,[(0,2)]),(16,[(0,2)]),(31,[(2,1),(0,8),(2,8)]),(1000,[(2,0),(3,0)]),(1001,[(2,0),(3,0),(5,0)]),(1002,[(2,0),(3,0),(5,0)]),(1003,[(2,0),(3,0),(5,0),(21,0)]),(1004,[(4,0)]),(1005,[(2,0),(3,0),(5,0)]),(1006,[(2,0),(3,0),(26,0)]),(1007,[(4,0)]),(1008,[(2,0),(3,0),(6,0),(7,0)]),(1009,[(2,0),(3,0),(6,0),(7,0),(8,0)]),(1010,[(2,0),(3,0),(6,0),(7,0),(8,0),(9,0)]),(1011,[(2,0),(3,0),(6,0),(7,0),(8,0),(9,0),(10,0),(11,0)]),(1012,[(2,0),(3,0),(6,0),(7,0),(8,0),(9,0),(10,0),(11,0),(53,0)]),(1013,[(4,0)]),(1014,[(2,0),(3,0),(6,0),(7,0),(8,0),(9,0),(10,0),(11,0),(58,0)]),(1015,[(4,0)]),(1016,[(2,0),(3,0),(6,0),(7,0),(8,0),(9,0),(10,0),(11,0),(63,0)]),(1017,[(4,0)]),(1018,[(2,0),(3,0),(6,0),(7,0),(8,0),(9,0),(10,0),(11,0),(12,0)]),(1019,[(2,0),(3,0),(6,0),(7,0),(9,0),(10,0),(11,0),(12,0)]),(1020,[(2,0),(3,0),(6,0),(7,0),(10,0),(11,0),(12,0)]),(1021,[(2,0),(3,0),(6,0),(7,0),(10,0),(82,0)]),(1022,[(4,0)]),(1023,[(2,0),(3,0),(6,0),(7,0),(10,0),(13,0)]),(1024,[(2,0),(3,0),(6,0),(7,0),(10,0),(13,0)]),(1025,[(2,0),(3,0),(6,0),(7,0),(10,0),(13,0),(14,0)]),(1026,[(2,0),(3,0),(6,0),(7,0),(10,0),(13,0),(14,0)]),(1027,[(2,0),(3,0),(6,0),(7,0),(10,0),(13,0),(14,0),(90,0)]),(1028,[(4,0)]),(1029,[(2,0),(3,0),(6,0),(7,0),(10,0),(13,0),(93,0)]),(1030,[(4,0)]),(1031,[(6,0),(7,0),(10,0),(13,0),(15,0),(16,0)]),(1032,[(10,0),(13,0),(110,0)]),(1033,[(4,0)]),(1034,[(10,0),(13,0),(14,0)]),(1035,[(13,0),(14,0)]),(1036,[(13,0),(14,0),(115,0)]),(1037,[(4,0)]),(1038,[(118,0)]),(1039,[(4,0)]),(1040,[(4,0)]),(4012,[]),(4021,[]),(4032,[])] Tryz.func10 rfl rfl (by simp [Tryz.f10]) (by kernel_rfl) ?_
 simp only [Tryz.f10]
 refine sA ?_
 obtain ⟨c15,hr1,h⟩ := bind_ok h
 refine Cl_sA (w_laws_szTellings hr1) ?_
 try refine sA ?_
 refine Bs_if h (fun h hc2 => ?_) (fun h hc2 => ?_)
 ·try refine sA ?_
  obtain rfl:=Option.some.inj h
  exact endsA ⟨[(4,(B true))],[],0,119⟩ []
 ·try refine sA ?_
  obtain ⟨c16,hr3,h⟩ := bind_ok h
  refine Cl_sA (w_laws_szTellings hr3) ?_
  try refine sA ?_
  refine Bs_if h (fun h hc4 => ?_) (fun h hc4 => ?_)
  ·try refine sA ?_
   obtain rfl:=Option.some.inj h
   exact endsA ⟨[(4,(B true))],[],0,119⟩ []
  ·try refine sA ?_
   obtain ⟨c27,hr5,h⟩ := bind_ok h
   refine Cl_sA (w_laws_toTellings hr5) ?_
   try refine sA ?_
   obtain ⟨c28,hr6,h⟩ := bind_ok h
   refine Cl_sA (w_laws_toTellings hr6) ?_
   try refine sA ?_
   obtain ⟨c198,hr7,h⟩ := bind_ok h
   refine Cl_sA (w_spec_MergeTellings hr7) ?_
   try refine sA ?_
   obtain ⟨c199,hr8,h⟩ := bind_ok h
   refine Cl_sA (w_laws_toTellings hr8) ?_
   try refine sA ?_
   obtain ⟨c200,hr9,h⟩ := bind_ok h
   refine Cl_sA (w_laws_toTellings hr9) ?_
   try refine sA ?_
   obtain ⟨c367,hr10,h⟩ := bind_ok h
   refine Cl_sA (w_impl_MergeTellings hr10) ?_
   try refine sA ?_
   obtain ⟨p383,hq11,h⟩ := bind_ok h
   refine Sq_cut (fun s2 => s2 = ⟨[(2,(.pb 0 0)),(3,(.pb 1 0)),(6,(.pb 2 0)),(7,(B c198.2)),(8,(.pb 3 0)),(9,(.pb 4 0)),(10,(.pb 5 0)),(11,(B c367.2)),(53,(B p383.t53))],[(0,some (true,.box [(.lf true (.sl (a0.Branches.map eBranch)))])),(1,some (true,.box [(.lf true (.sl (a1.Branches.map eBranch)))])),(2,some (true,.box [(.os 6 1 0 c198.1.Branches.length c198.1.Branches.length false)])),(3,some (true,.box [(.os 7 1 0 c199.Branches.length c199.Branches.length false)])),(4,some (true,.box [(.os 8 1 0 c200.Branches.length c200.Branches.length false)])),(5,some (true,.box [(.os 9 1 0 c367.1.Branches.length c367.1.Branches.length false)])),(6,some (true,.deep [.sl [.sc,.sc,.sc,.sc]] (c198.1.Branches.map eBranch))),(7,some (true,.deep [.sl [.sc,.sc,.sc,.sc]] (c199.Branches.map eBranch))),(8,some (true,.deep [.sl [.sc,.sc,.sc,.sc]] (c200.Branches.map eBranch))),(9,some (true,.deep [.sl [.sc,.sc,.sc,.sc]] (c367.1.Branches.map eBranch)))],10,119⟩) ?_ ?_
   ·try refine sA ?_
    obtain ⟨c382,hr12,hq11⟩ := bind_ok hq11
    refine Cl_sA (w_laws_eqTellings hr12) ?_
    try refine sA ?_
    refine Sp_if hq11 (fun hq11 hc13 => ?_) (fun hq11 hc13 => ?_)
    ·try refine sA ?_
     cases hq11
     exact X_cut rfl (weakA [some 0,some 1,some 8,some 11,some 14,some 17,some 6,some 9,some 12,some 15])
    ·try refine sA ?_
     cases hq11
     exact X_cut rfl (weakA [some 0,some 1,some 8,some 11,some 14,some 17,some 6,some 9,some 12,some 15])
   ·intro s2 hJ; subst hJ
    try dsimp only at h
    try refine sA ?_
    refine Bs_if h (fun h hc14 => ?_) (fun h hc14 => ?_)
    ·try refine sA ?_
     obtain rfl:=Option.some.inj h
     exact endsA ⟨[(4,(B false))],[],0,119⟩ []
    ·try refine sA ?_
     obtain ⟨c384,hr15,h⟩ := bind_ok h
     refine Cl_sA (w_laws_toTellings hr15) ?_
     try refine sA ?_
     obtain ⟨c385,hr16,h⟩ := bind_ok h
     refine Cl_sA (w_laws_eqTellings hr16) ?_
     try refine sA ?_
     refine Bs_if h (fun h hc17 => ?_) (fun h hc17 => ?_)
     ·try refine sA ?_
      obtain rfl:=Option.some.inj h
      exact endsA ⟨[(4,(B false))],[],0,119⟩ []
     ·try refine sA ?_
      obtain ⟨c386,hr18,h⟩ := bind_ok h
      refine Cl_sA (w_laws_toTellings hr18) ?_
      try refine sA ?_
      obtain ⟨c387,hr19,h⟩ := bind_ok h
      refine Cl_sA (w_laws_eqTellings hr19) ?_
      try refine sA ?_
      refine Bs_if h (fun h hc20 => ?_) (fun h hc20 => ?_)
      ·try refine sA ?_
       obtain rfl:=Option.some.inj h
       exact endsA ⟨[(4,(B false))],[],0,119⟩ []
      ·try refine sA ?_
       obtain ⟨c402,hr21,h⟩ := bind_ok h
       refine Cl_hA [7] (w_laws_markTellings_wd hr21) ?_
       try refine sA ?_
       obtain ⟨hp22,h⟩ := guard_some h
       have hl22 : c199.Branches.length ≤ c402.2.length := by omega
       have ht22 : List.take (c199.Branches.length) c402.2 = c402.2 := by rw [← hp22]; exact List.take_length
       try rw [← hp22]
       try simp (disch := first | assumption | (simp only [List.length_set]; assumption)) only [go_sem,Nat.reduceAdd,Nat.reduceMul,Nat.reduceSub,Nat.reduceEqDiff,↓reduceIte,Nat.reduceLT,reduceCtorEq,Nat.reduceLeDiff,Int.reduceToNat,Int.reduceEq,Int.reduceLE,Int.reduceLT,Nat.reduceBEq,hl22,ht22]
       obtain ⟨c403,hr23,h⟩ := bind_ok h
       refine Cl_hand (ids := [8]) (w_laws_markTellings_wd hr23) (by first | rfl | (simp (disch := first | assumption | (simp only [List.length_set]; assumption)) only [go_sem,Nat.reduceAdd,Nat.reduceMul,Nat.reduceSub,Nat.reduceEqDiff,↓reduceIte,Nat.reduceLT,reduceCtorEq,Nat.reduceLeDiff,Int.reduceToNat,Int.reduceEq,Int.reduceLE,Int.reduceLT,Nat.reduceBEq,hl22,ht22]; first | done | rfl) | (simp only [List.length_append,List.length_cons,List.length_nil,List.length_map,List.length_set,List.length_replicate,Nat.zero_add,Nat.reduceAdd]; rfl) | (simp (disch := first | assumption | (simp only [List.length_set]; assumption)) only [go_sem,Nat.reduceAdd,Nat.reduceMul,Nat.reduceSub,Nat.reduceEqDiff,↓reduceIte,Nat.reduceLT,reduceCtorEq,Nat.reduceLeDiff,Int.reduceToNat,Int.reduceEq,Int.reduceLE,Int.reduceLT,Nat.reduceBEq,hl22,ht22]; simp only [List.length_append,List.length_cons,List.length_nil,List.length_map,List.length_set,List.length_replicate,Nat.zero_add,Nat.reduceAdd]; rfl)) (FitAll.refl _) (by first | rfl | (simp (disch := first | assumption | (simp only [List.length_set]; assumption)) only [go_sem,Nat.reduceAdd,Nat.reduceMul,Nat.reduceSub,Nat.reduceEqDiff,↓reduceIte,Nat.reduceLT,reduceCtorEq,Nat.reduceLeDiff,Int.reduceToNat,Int.reduceEq,Int.reduceLE,Int.reduceLT,Nat.reduceBEq,hl22,ht22]; first | done | rfl) | (simp only [List.length_append,List.length_cons,List.length_nil,List.length_map,List.length_set,List.length_replicate,Nat.zero_add,Nat.reduceAdd]; rfl) | (simp (disch := first | assumption | (simp only [List.length_set]; assumption)) only [go_sem,Nat.reduceAdd,Nat.reduceMul,Nat.reduceSub,Nat.reduceEqDiff,↓reduceIte,Nat.reduceLT,reduceCtorEq,Nat.reduceLeDiff,Int.reduceToNat,Int.reduceEq,Int.reduceLE,Int.reduceLT,Nat.reduceBEq,hl22,ht22]; simp only [List.length_append,List.length_cons,List.length_nil,List.length_map,List.length_set,List.length_replicate,Nat.zero_add,Nat.reduceAdd]; rfl)) (by decide) (by first | rfl | (simp (disch := first | assumption | (simp only [List.length_set]; assumption)) only [go_sem,Nat.reduceAdd,Nat.reduceMul,Nat.reduceSub,Nat.reduceEqDiff,↓reduceIte,Nat.reduceLT,reduceCtorEq,Nat.reduceLeDiff,Int.reduceToNat,Int.reduceEq,Int.reduceLE,Int.reduceLT,Nat.reduceBEq,hl22,ht22]; done)) (by rfl) ?_
       try simp (disch := first | assumption | (simp only [List.length_set]; assumption)) only [go_sem,Nat.reduceAdd,Nat.reduceMul,Nat.reduceSub,Nat.reduceEqDiff,↓reduceIte,Nat.reduceLT,reduceCtorEq,Nat.reduceLeDiff,Int.reduceToNat,Int.reduceEq,Int.reduceLE,Int.reduceLT,Nat.reduceBEq,hl22,ht22]
       obtain ⟨hp24,h⟩ := guard_some h
       have hl24 : c200.Branches.length ≤ c403.2.length := by omega
       have ht24 : List.take (c200.Branches.length) c403.2 = c403.2 := by rw [← hp24]; exact List.take_length
       try rw [← hp24]
       try simp (disch := first | assumption | (simp only [List.length_set]; assumption)) only [go_sem,Nat.reduceAdd,Nat.reduceMul,Nat.reduceSub,Nat.reduceEqDiff,↓reduceIte,Nat.reduceLT,reduceCtorEq,Nat.reduceLeDiff,Int.reduceToNat,Int.reduceEq,Int.reduceLE,Int.reduceLT,Nat.reduceBEq,hl22,ht22,hl24,ht24]
       obtain ⟨p405,hq25,h⟩ := bind_ok h
       refine Sq_cut (fun s2 => s2 = ⟨[(2,(.pb 0 0)),(3,(.pb 1 0)),(6,(.pb 2 0)),(7,(B c198.2)),(10,(.pb 3 0)),(82,(B p405.t82))],[(0,some (true,.box [(.lf true (.sl (a0.Branches.map eBranch)))])),(1,some (true,.box [(.lf true (.sl (a1.Branches.map eBranch)))])),(2,some (true,.box [(.os 4 1 0 c198.1.Branches.length c198.1.Branches.length false)])),(3,some (true,.box [(.os 5 1 0 c367.1.Branches.length c367.1.Branches.length false)])),(4,some (true,.deep [.sl [.sc,.sc,.sc,.sc]] (c198.1.Branches.map eBranch))),(5,some (true,.deep [.sl [.sc,.sc,.sc,.sc]] (c367.1.Branches.map eBranch)))],6,119⟩) ?_ ?_
       ·try simp (disch := first | assumption | (simp only [List.length_set]; assumption)) only [go_sem,Nat.reduceAdd,Nat.reduceMul,Nat.reduceSub,Nat.reduceEqDiff,↓reduceIte,Nat.reduceLT,reduceCtorEq,Nat.reduceLeDiff,Int.reduceToNat,Int.reduceEq,Int.reduceLE,Int.reduceLT,Nat.reduceBEq,hl22,ht22,hl24,ht24]
        refine Sp_if hq25 (fun hq25 hc26 => ?_) (fun hq25 hc26 => ?_)
        ·try simp (disch := first | assumption | (simp only [List.length_set]; assumption)) only [go_sem,Nat.reduceAdd,Nat.reduceMul,Nat.reduceSub,Nat.reduceEqDiff,↓reduceIte,Nat.reduceLT,reduceCtorEq,Nat.reduceLeDiff,Int.reduceToNat,Int.reduceEq,Int.reduceLE,Int.reduceLT,Nat.reduceBEq,hl22,ht22,hl24,ht24]
         cases hq25
         refine X_cut rfl ?_
         refine weak_of (m := 0) [some 0,some 1,some 2,some 5,some 6,some 9] rfl rfl rfl (by rfl) ?_ ?_
         all_goals ((try simp (disch := first | assumption | (simp only [List.length_set]; assumption)) only [go_sem,Nat.reduceAdd,Nat.reduceMul,Nat.reduceSub,Nat.reduceEqDiff,↓reduceIte,Nat.reduceLT,reduceCtorEq,Nat.reduceLeDiff,Int.reduceToNat,Int.reduceEq,Int.reduceLE,Int.reduceLT,Nat.reduceBEq,hl22,ht22,hl24,ht24]); (repeat' first | done | rfl | omega | refine And.intro ?_ ?_ | (simp; done) | (simp; omega)))
        ·try simp (disch := first | assumption | (simp only [List.length_set]; assumption)) only [go_sem,Nat.reduceAdd,Nat.reduceMul,Nat.reduceSub,Nat.reduceEqDiff,↓reduceIte,Nat.reduceLT,reduceCtorEq,Nat.reduceLeDiff,Int.reduceToNat,Int.reduceEq,Int.reduceLE,Int.reduceLT,Nat.reduceBEq,hl22,ht22,hl24,ht24]
         obtain ⟨c404,hr27,hq25⟩ := bind_ok hq25
         refine Cl_shown (w_laws_eqTellings hr27) (by first | rfl | (simp (disch := first | assumption | (simp only [List.length_set]; assumption)) only [go_sem,Nat.reduceAdd,Nat.reduceMul,Nat.reduceSub,Nat.reduceEqDiff,↓reduceIte,Nat.reduceLT,reduceCtorEq,Nat.reduceLeDiff,Int.reduceToNat,Int.reduceEq,Int.reduceLE,Int.reduceLT,Nat.reduceBEq,hl22,ht22,hl24,ht24]; first | done | rfl) | (simp only [List.length_append,List.length_cons,List.length_nil,List.length_map,List.length_set,List.length_replicate,Nat.zero_add,Nat.reduceAdd]; rfl) | (simp (disch := first | assumption | (simp only [List.length_set]; assumption)) only [go_sem,Nat.reduceAdd,Nat.reduceMul,Nat.reduceSub,Nat.reduceEqDiff,↓reduceIte,Nat.reduceLT,reduceCtorEq,Nat.reduceLeDiff,Int.reduceToNat,Int.reduceEq,Int.reduceLE,Int.reduceLT,Nat.reduceBEq,hl22,ht22,hl24,ht24]; simp only [List.length_append,List.length_cons,List.length_nil,List.length_map,List.length_set,List.length_replicate,Nat.zero_add,Nat.reduceAdd]; rfl)) (FitAll.refl _) (.inr ⟨rfl,by simp [freeOb,free1]⟩) ?_
         try simp (disch := first | assumption | (simp only [List.length_set]; assumption)) only [go_sem,Nat.reduceAdd,Nat.reduceMul,Nat.reduceSub,Nat.reduceEqDiff,↓reduceIte,Nat.reduceLT,reduceCtorEq,Nat.reduceLeDiff,Int.reduceToNat,Int.reduceEq,Int.reduceLE,Int.reduceLT,Nat.reduceBEq,hl22,ht22,hl24,ht24]
         refine Sp_if hq25 (fun hq25 hc28 => ?_) (fun hq25 hc28 => ?_)
         ·try simp (disch := first | assumption | (simp only [List.length_set]; assumption)) only [go_sem,Nat.reduceAdd,Nat.reduceMul,Nat.reduceSub,Nat.reduceEqDiff,↓reduceIte,Nat.reduceLT,reduceCtorEq,Nat.reduceLeDiff,Int.reduceToNat,Int.reduceEq,Int.reduceLE,Int.reduceLT,Nat.reduceBEq,hl22,ht22,hl24,ht24]
          cases hq25
          refine X_cut rfl ?_
          refine weak_of (m := 0) [some 0,some 1,some 2,some 5,some 6,some 9] rfl rfl rfl (by rfl) ?_ ?_
          all_goals ((try simp (disch := first | assumption | (simp only [List.length_set]; assumption)) only [go_sem,Nat.reduceAdd,Nat.reduceMul,Nat.reduceSub,Nat.reduceEqDiff,↓reduceIte,Nat.reduceLT,reduceCtorEq,Nat.reduceLeDiff,Int.reduceToNat,Int.reduceEq,Int.reduceLE,Int.reduceLT,Nat.reduceBEq,hl22,ht22,hl24,ht24]); (repeat' first | done | rfl | omega | refine And.intro ?_ ?_ | (simp; done) | (simp; omega)))
         ·try simp (disch := first | assumption | (simp only [List.length_set]; assumption)) only [go_sem,Nat.reduceAdd,Nat.reduceMul,Nat.reduceSub,Nat.reduceEqDiff,↓reduceIte,Nat.reduceLT,reduceCtorEq,Nat.reduceLeDiff,Int.reduceToNat,Int.reduceEq,Int.reduceLE,Int.reduceLT,Nat.reduceBEq,hl22,ht22,hl24,ht24]
          cases hq25
          refine X_cut rfl ?_
          refine weak_of (m := 0) [some 0,some 1,some 2,some 5,some 6,some 9] rfl rfl rfl (by rfl) ?_ ?_
          all_goals ((try simp (disch := first | assumption | (simp only [List.length_set]; assumption)) only [go_sem,Nat.reduceAdd,Nat.reduceMul,Nat.reduceSub,Nat.reduceEqDiff,↓reduceIte,Nat.reduceLT,reduceCtorEq,Nat.reduceLeDiff,Int.reduceToNat,Int.reduceEq,Int.reduceLE,Int.reduceLT,Nat.reduceBEq,hl22,ht22,hl24,ht24]); (repeat' first | done | rfl | omega | refine And.intro ?_ ?_ | (simp; done) | (simp; omega)))
       ·intro s2 hJ; subst hJ
        try dsimp only at h
        try simp (disch := first | assumption | (simp only [List.length_set]; assumption)) only [go_sem,Nat.reduceAdd,Nat.reduceMul,Nat.reduceSub,Nat.reduceEqDiff,↓reduceIte,Nat.reduceLT,reduceCtorEq,Nat.reduceLeDiff,Int.reduceToNat,Int.reduceEq,Int.reduceLE,Int.reduceLT,Nat.reduceBEq,hl22,ht22,hl24,ht24]
        refine Bs_if h (fun h hc29 => ?_) (fun h hc29 => ?_)
        ·try simp (disch := first | assumption | (simp only [List.length_set]; assumption)) only [go_sem,Nat.reduceAdd,Nat.reduceMul,Nat.reduceSub,Nat.reduceEqDiff,↓reduceIte,Nat.reduceLT,reduceCtorEq,Nat.reduceLeDiff,Int.reduceToNat,Int.reduceEq,Int.reduceLE,Int.reduceLT,Nat.reduceBEq,hl22,ht22,hl24,ht24]
         obtain rfl:=Option.some.inj h
         refine ends_weak ⟨[(4,(B false))],[],0,119⟩ (weak_of (m := 0) [] rfl rfl rfl (by rfl) ?_ ?_) ?_
         all_goals ((try simp (disch := first | assumption | (simp only [List.length_set]; assumption)) only [go_sem,Nat.reduceAdd,Nat.reduceMul,Nat.reduceSub,Nat.reduceEqDiff,↓reduceIte,Nat.reduceLT,reduceCtorEq,Nat.reduceLeDiff,Int.reduceToNat,Int.reduceEq,Int.reduceLE,Int.reduceLT,Nat.reduceBEq,hl22,ht22,hl24,ht24]); (repeat' first | done | rfl | omega | refine And.intro ?_ ?_ | (simp; done) | (simp; omega)))
        ·try simp (disch := first | assumption | (simp only [List.length_set]; assumption)) only [go_sem,Nat.reduceAdd,Nat.reduceMul,Nat.reduceSub,Nat.reduceEqDiff,↓reduceIte,Nat.reduceLT,reduceCtorEq,Nat.reduceLeDiff,Int.reduceToNat,Int.reduceEq,Int.reduceLE,Int.reduceLT,Nat.reduceBEq,hl22,ht22,hl24,ht24]
         obtain ⟨c406,hr30,h⟩ := bind_ok h
         refine Cl_hand (ids := [5]) (w_laws_markTellings_wd hr30) (by first | rfl | (simp (disch := first | assumption | (simp only [List.length_set]; assumption)) only [go_sem,Nat.reduceAdd,Nat.reduceMul,Nat.reduceSub,Nat.reduceEqDiff,↓reduceIte,Nat.reduceLT,reduceCtorEq,Nat.reduceLeDiff,Int.reduceToNat,Int.reduceEq,Int.reduceLE,Int.reduceLT,Nat.reduceBEq,hl22,ht22,hl24,ht24]; first | done | rfl) | (simp only [List.length_append,List.length_cons,List.length_nil,List.length_map,List.length_set,List.length_replicate,Nat.zero_add,Nat.reduceAdd]; rfl) | (simp (disch := first | assumption | (simp only [List.length_set]; assumption)) only [go_sem,Nat.reduceAdd,Nat.reduceMul,Nat.reduceSub,Nat.reduceEqDiff,↓reduceIte,Nat.reduceLT,reduceCtorEq,Nat.reduceLeDiff,Int.reduceToNat,Int.reduceEq,Int.reduceLE,Int.reduceLT,Nat.reduceBEq,hl22,ht22,hl24,ht24]; simp only [List.length_append,List.length_cons,List.length_nil,List.length_map,List.length_set,List.length_replicate,Nat.zero_add,Nat.reduceAdd]; rfl)) (FitAll.refl _) (by first | rfl | (simp (disch := first | assumption | (simp only [List.length_set]; assumption)) only [go_sem,Nat.reduceAdd,Nat.reduceMul,Nat.reduceSub,Nat.reduceEqDiff,↓reduceIte,Nat.reduceLT,reduceCtorEq,Nat.reduceLeDiff,Int.reduceToNat,Int.reduceEq,Int.reduceLE,Int.reduceLT,Nat.reduceBEq,hl22,ht22,hl24,ht24]; first | done | rfl) | (simp only [List.length_append,List.length_cons,List.length_nil,List.length_map,List.length_set,List.length_replicate,Nat.zero_add,Nat.reduceAdd]; rfl) | (simp (disch := first | assumption | (simp only [List.length_set]; assumption)) only [go_sem,Nat.reduceAdd,Nat.reduceMul,Nat.reduceSub,Nat.reduceEqDiff,↓reduceIte,Nat.reduceLT,reduceCtorEq,Nat.reduceLeDiff,Int.reduceToNat,Int.reduceEq,Int.reduceLE,Int.reduceLT,Nat.reduceBEq,hl22,ht22,hl24,ht24]; simp only [List.length_append,List.length_cons,List.length_nil,List.length_map,List.length_set,List.length_replicate,Nat.zero_add,Nat.reduceAdd]; rfl)) (by decide) (by first | rfl | (simp (disch := first | assumption | (simp only [List.length_set]; assumption)) only [go_sem,Nat.reduceAdd,Nat.reduceMul,Nat.reduceSub,Nat.reduceEqDiff,↓reduceIte,Nat.reduceLT,reduceCtorEq,Nat.reduceLeDiff,Int.reduceToNat,Int.reduceEq,Int.reduceLE,Int.reduceLT,Nat.reduceBEq,hl22,ht22,hl24,ht24]; done)) (by rfl) ?_
         try simp (disch := first | assumption | (simp only [List.length_set]; assumption)) only [go_sem,Nat.reduceAdd,Nat.reduceMul,Nat.reduceSub,Nat.reduceEqDiff,↓reduceIte,Nat.reduceLT,reduceCtorEq,Nat.reduceLeDiff,Int.reduceToNat,Int.reduceEq,Int.reduceLE,Int.reduceLT,Nat.reduceBEq,hl22,ht22,hl24,ht24]
         obtain ⟨hp31,h⟩ := guard_some h
         have hl31 : c367.1.Branches.length ≤ c406.2.length := by omega
         have ht31 : List.take (c367.1.Branches.length) c406.2 = c406.2 := by rw [← hp31]; exact List.take_length
         try rw [← hp31]
         try simp (disch := first | assumption | (simp only [List.length_set]; assumption)) only [go_sem,Nat.reduceAdd,Nat.reduceMul,Nat.reduceSub,Nat.reduceEqDiff,↓reduceIte,Nat.reduceLT,reduceCtorEq,Nat.reduceLeDiff,Int.reduceToNat,Int.reduceEq,Int.reduceLE,Int.reduceLT,Nat.reduceBEq,hl22,ht22,hl24,ht24,hl31,ht31]
         obtain ⟨c420,hr32,h⟩ := bind_ok h
         refine Cl_shown (w_laws_heldTellings hr32) (by first | rfl | (simp (disch := first | assumption | (simp only [List.length_set]; assumption)) only [go_sem,Nat.reduceAdd,Nat.reduceMul,Nat.reduceSub,Nat.reduceEqDiff,↓reduceIte,Nat.reduceLT,reduceCtorEq,Nat.reduceLeDiff,Int.reduceToNat,Int.reduceEq,Int.reduceLE,Int.reduceLT,Nat.reduceBEq,hl22,ht22,hl24,ht24,hl31,ht31]; first | done | rfl) | (simp only [List.length_append,List.length_cons,List.length_nil,List.length_map,List.length_set,List.length_replicate,Nat.zero_add,Nat.reduceAdd]; rfl) | (simp (disch := first | assumption | (simp only [List.length_set]; assumption)) only [go_sem,Nat.reduceAdd,Nat.reduceMul,Nat.reduceSub,Nat.reduceEqDiff,↓reduceIte,Nat.reduceLT,reduceCtorEq,Nat.reduceLeDiff,Int.reduceToNat,Int.reduceEq,Int.reduceLE,Int.reduceLT,Nat.reduceBEq,hl22,ht22,hl24,ht24,hl31,ht31]; simp only [List.length_append,List.length_cons,List.length_nil,List.length_map,List.length_set,List.length_replicate,Nat.zero_add,Nat.reduceAdd]; rfl)) (FitAll.refl _) (.inr ⟨rfl,by simp [freeOb,free1]⟩) ?_
         try simp (disch := first | assumption | (simp only [List.length_set]; assumption)) only [go_sem,Nat.reduceAdd,Nat.reduceMul,Nat.reduceSub,Nat.reduceEqDiff,↓reduceIte,Nat.reduceLT,reduceCtorEq,Nat.reduceLeDiff,Int.reduceToNat,Int.reduceEq,Int.reduceLE,Int.reduceLT,Nat.reduceBEq,hl22,ht22,hl24,ht24,hl31,ht31]
         refine Bs_if h (fun h hc33 => ?_) (fun h hc33 => ?_)
         ·try simp (disch := first | assumption | (simp only [List.length_set]; assumption)) only [go_sem,Nat.reduceAdd,Nat.reduceMul,Nat.reduceSub,Nat.reduceEqDiff,↓reduceIte,Nat.reduceLT,reduceCtorEq,Nat.reduceLeDiff,Int.reduceToNat,Int.reduceEq,Int.reduceLE,Int.reduceLT,Nat.reduceBEq,hl22,ht22,hl24,ht24,hl31,ht31]
          obtain rfl:=Option.some.inj h
          refine ends_weak ⟨[(4,(B false))],[],0,119⟩ (weak_of (m := 0) [] rfl rfl rfl (by rfl) ?_ ?_) ?_
          all_goals ((try simp (disch := first | assumption | (simp only [List.length_set]; assumption)) only [go_sem,Nat.reduceAdd,Nat.reduceMul,Nat.reduceSub,Nat.reduceEqDiff,↓reduceIte,Nat.reduceLT,reduceCtorEq,Nat.reduceLeDiff,Int.reduceToNat,Int.reduceEq,Int.reduceLE,Int.reduceLT,Nat.reduceBEq,hl22,ht22,hl24,ht24,hl31,ht31]); (repeat' first | done | rfl | omega | refine And.intro ?_ ?_ | (simp; done) | (simp; omega)))
         ·try simp (disch := first | assumption | (simp only [List.length_set]; assumption)) only [go_sem,Nat.reduceAdd,Nat.reduceMul,Nat.reduceSub,Nat.reduceEqDiff,↓reduceIte,Nat.reduceLT,reduceCtorEq,Nat.reduceLeDiff,Int.reduceToNat,Int.reduceEq,Int.reduceLE,Int.reduceLT,Nat.reduceBEq,hl22,ht22,hl24,ht24,hl31,ht31]
          refine Bs_if h (fun h hc34 => ?_) (fun h hc34 => ?_)
          ·try simp (disch := first | assumption | (simp only [List.length_set]; assumption)) only [go_sem,Nat.reduceAdd,Nat.reduceMul,Nat.reduceSub,Nat.reduceEqDiff,↓reduceIte,Nat.reduceLT,reduceCtorEq,Nat.reduceLeDiff,Int.reduceToNat,Int.reduceEq,Int.reduceLE,Int.reduceLT,Nat.reduceBEq,hl22,ht22,hl24,ht24,hl31,ht31]
           obtain rfl:=Option.some.inj h
           refine ends_weak ⟨[(4,(B false))],[],0,119⟩ (weak_of (m := 0) [] rfl rfl rfl (by rfl) ?_ ?_) ?_
           all_goals ((try simp (disch := first | assumption | (simp only [List.length_set]; assumption)) only [go_sem,Nat.reduceAdd,Nat.reduceMul,Nat.reduceSub,Nat.reduceEqDiff,↓reduceIte,Nat.reduceLT,reduceCtorEq,Nat.reduceLeDiff,Int.reduceToNat,Int.reduceEq,Int.reduceLE,Int.reduceLT,Nat.reduceBEq,hl22,ht22,hl24,ht24,hl31,ht31]); (repeat' first | done | rfl | omega | refine And.intro ?_ ?_ | (simp; done) | (simp; omega)))
          ·try simp (disch := first | assumption | (simp only [List.length_set]; assumption)) only [go_sem,Nat.reduceAdd,Nat.reduceMul,Nat.reduceSub,Nat.reduceEqDiff,↓reduceIte,Nat.reduceLT,reduceCtorEq,Nat.reduceLeDiff,Int.reduceToNat,Int.reduceEq,Int.reduceLE,Int.reduceLT,Nat.reduceBEq,hl22,ht22,hl24,ht24,hl31,ht31]
           obtain ⟨c421,hr35,h⟩ := bind_ok h
           refine Cl_shown (w_laws_toTellings hr35) (by first | rfl | (simp (disch := first | assumption | (simp only [List.length_set]; assumption)) only [go_sem,Nat.reduceAdd,Nat.reduceMul,Nat.reduceSub,Nat.reduceEqDiff,↓reduceIte,Nat.reduceLT,reduceCtorEq,Nat.reduceLeDiff,Int.reduceToNat,Int.reduceEq,Int.reduceLE,Int.reduceLT,Nat.reduceBEq,hl22,ht22,hl24,ht24,hl31,ht31]; first | done | rfl) | (simp only [List.length_append,List.length_cons,List.length_nil,List.length_map,List.length_set,List.length_replicate,Nat.zero_add,Nat.reduceAdd]; rfl) | (simp (disch := first | assumption | (simp only [List.length_set]; assumption)) only [go_sem,Nat.reduceAdd,Nat.reduceMul,Nat.reduceSub,Nat.reduceEqDiff,↓reduceIte,Nat.reduceLT,reduceCtorEq,Nat.reduceLeDiff,Int.reduceToNat,Int.reduceEq,Int.reduceLE,Int.reduceLT,Nat.reduceBEq,hl22,ht22,hl24,ht24,hl31,ht31]; simp only [List.length_append,List.length_cons,List.length_nil,List.length_map,List.length_set,List.length_replicate,Nat.zero_add,Nat.reduceAdd]; rfl)) (FitAll.refl _) (.inl (by first | rfl | (simp (disch := first | assumption | (simp only [List.length_set]; assumption)) only [go_sem,Nat.reduceAdd,Nat.reduceMul,Nat.reduceSub,Nat.reduceEqDiff,↓reduceIte,Nat.reduceLT,reduceCtorEq,Nat.reduceLeDiff,Int.reduceToNat,Int.reduceEq,Int.reduceLE,Int.reduceLT,Nat.reduceBEq,hl22,ht22,hl24,ht24,hl31,ht31]; done))) ?_
           try simp (disch := first | assumption | (simp only [List.length_set]; assumption)) only [go_sem,Nat.reduceAdd,Nat.reduceMul,Nat.reduceSub,Nat.reduceEqDiff,↓reduceIte,Nat.reduceLT,reduceCtorEq,Nat.reduceLeDiff,Int.reduceToNat,Int.reduceEq,Int.reduceLE,Int.reduceLT,Nat.reduceBEq,hl22,ht22,hl24,ht24,hl31,ht31]
           obtain ⟨c422,hr36,h⟩ := bind_ok h
           refine Cl_shown (w_laws_toTellings hr36) (by first | rfl | (simp (disch := first | assumption | (simp only [List.length_set]; assumption)) only [go_sem,Nat.reduceAdd,Nat.reduceMul,Nat.reduceSub,Nat.reduceEqDiff,↓reduceIte,Nat.reduceLT,reduceCtorEq,Nat.reduceLeDiff,Int.reduceToNat,Int.reduceEq,Int.reduceLE,Int.reduceLT,Nat.reduceBEq,hl22,ht22,hl24,ht24,hl31,ht31]; first | done | rfl) | (simp only [List.length_append,List.length_cons,List.length_nil,List.length_map,List.length_set,List.length_replicate,Nat.zero_add,Nat.reduceAdd]; rfl) | (simp (disch := first | assumption | (simp only [List.length_set]; assumption)) only [go_sem,Nat.reduceAdd,Nat.reduceMul,Nat.reduceSub,Nat.reduceEqDiff,↓reduceIte,Nat.reduceLT,reduceCtorEq,Nat.reduceLeDiff,Int.reduceToNat,Int.reduceEq,Int.reduceLE,Int.reduceLT,Nat.reduceBEq,hl22,ht22,hl24,ht24,hl31,ht31]; simp only [List.length_append,List.length_cons,List.length_nil,List.length_map,List.length_set,List.length_replicate,Nat.zero_add,Nat.reduceAdd]; rfl)) (FitAll.refl _) (.inl (by first | rfl | (simp (disch := first | assumption | (simp only [List.length_set]; assumption)) only [go_sem,Nat.reduceAdd,Nat.reduceMul,Nat.reduceSub,Nat.reduceEqDiff,↓reduceIte,Nat.reduceLT,reduceCtorEq,Nat.reduceLeDiff,Int.reduceToNat,Int.reduceEq,Int.reduceLE,Int.reduceLT,Nat.reduceBEq,hl22,ht22,hl24,ht24,hl31,ht31]; done))) ?_
           try simp (disch := first | assumption | (simp only [List.length_set]; assumption)) only [go_sem,Nat.reduceAdd,Nat.reduceMul,Nat.reduceSub,Nat.reduceEqDiff,↓reduceIte,Nat.reduceLT,reduceCtorEq,Nat.reduceLeDiff,Int.reduceToNat,Int.reduceEq,Int.reduceLE,Int.reduceLT,Nat.reduceBEq,hl22,ht22,hl24,ht24,hl31,ht31]
           obtain ⟨c423,hr37,h⟩ := bind_ok h
           refine Cl_shown (w_impl_MergeTellings hr37) (by first | rfl | (simp (disch := first | assumption | (simp only [List.length_set]; assumption)) only [go_sem,Nat.reduceAdd,Nat.reduceMul,Nat.reduceSub,Nat.reduceEqDiff,↓reduceIte,Nat.reduceLT,reduceCtorEq,Nat.reduceLeDiff,Int.reduceToNat,Int.reduceEq,Int.reduceLE,Int.reduceLT,Nat.reduceBEq,hl22,ht22,hl24,ht24,hl31,ht31]; first | done | rfl) | (simp only [List.length_append,List.length_cons,List.length_nil,List.length_map,List.length_set,List.length_replicate,Nat.zero_add,Nat.reduceAdd]; rfl) | (simp (disch := first | assumption | (simp only [List.length_set]; assumption)) only [go_sem,Nat.reduceAdd,Nat.reduceMul,Nat.reduceSub,Nat.reduceEqDiff,↓reduceIte,Nat.reduceLT,reduceCtorEq,Nat.reduceLeDiff,Int.reduceToNat,Int.reduceEq,Int.reduceLE,Int.reduceLT,Nat.reduceBEq,hl22,ht22,hl24,ht24,hl31,ht31]; simp only [List.length_append,List.length_cons,List.length_nil,List.length_map,List.length_set,List.length_replicate,Nat.zero_add,Nat.reduceAdd]; rfl)) (FitAll.refl _) (.inr ⟨rfl,by simp [freeOb,free1]⟩) ?_
           try simp (disch := first | assumption | (simp only [List.length_set]; assumption)) only [go_sem,Nat.reduceAdd,Nat.reduceMul,Nat.reduceSub,Nat.reduceEqDiff,↓reduceIte,Nat.reduceLT,reduceCtorEq,Nat.reduceLeDiff,Int.reduceToNat,Int.reduceEq,Int.reduceLE,Int.reduceLT,Nat.reduceBEq,hl22,ht22,hl24,ht24,hl31,ht31]
           obtain ⟨p425,hq38,h⟩ := bind_ok h
           refine Sq_cut (fun s2 => s2 = ⟨[(10,(.pb 0 0)),(13,(I c406.1)),(110,(B p425.t110))],[(0,some (true,.box [(.os 1 1 0 c406.2.length c367.1.Branches.length false)])),(1,some (true,.deep [.sl [.sc,.sc,.sc,.sc]] (c406.2.map eBranch)))],2,119⟩) ?_ ?_
           ·try simp (disch := first | assumption | (simp only [List.length_set]; assumption)) only [go_sem,Nat.reduceAdd,Nat.reduceMul,Nat.reduceSub,Nat.reduceEqDiff,↓reduceIte,Nat.reduceLT,reduceCtorEq,Nat.reduceLeDiff,Int.reduceToNat,Int.reduceEq,Int.reduceLE,Int.reduceLT,Nat.reduceBEq,hl22,ht22,hl24,ht24,hl31,ht31]
            obtain ⟨c424,hr39,hq38⟩ := bind_ok hq38
            refine Cl_shown (w_laws_eqTellings hr39) (by first | rfl | (simp (disch := first | assumption | (simp only [List.length_set]; assumption)) only [go_sem,Nat.reduceAdd,Nat.reduceMul,Nat.reduceSub,Nat.reduceEqDiff,↓reduceIte,Nat.reduceLT,reduceCtorEq,Nat.reduceLeDiff,Int.reduceToNat,Int.reduceEq,Int.reduceLE,Int.reduceLT,Nat.reduceBEq,hl22,ht22,hl24,ht24,hl31,ht31]; first | done | rfl) | (simp only [List.length_append,List.length_cons,List.length_nil,List.length_map,List.length_set,List.length_replicate,Nat.zero_add,Nat.reduceAdd]; rfl) | (simp (disch := first | assumption | (simp only [List.length_set]; assumption)) only [go_sem,Nat.reduceAdd,Nat.reduceMul,Nat.reduceSub,Nat.reduceEqDiff,↓reduceIte,Nat.reduceLT,reduceCtorEq,Nat.reduceLeDiff,Int.reduceToNat,Int.reduceEq,Int.reduceLE,Int.reduceLT,Nat.reduceBEq,hl22,ht22,hl24,ht24,hl31,ht31]; simp only [List.length_append,List.length_cons,List.length_nil,List.length_map,List.length_set,List.length_replicate,Nat.zero_add,Nat.reduceAdd]; rfl)) (FitAll.refl _) (.inr ⟨rfl,by simp [freeOb,free1]⟩) ?_
            try simp (disch := first | assumption | (simp only [List.length_set]; assumption)) only [go_sem,Nat.reduceAdd,Nat.reduceMul,Nat.reduceSub,Nat.reduceEqDiff,↓reduceIte,Nat.reduceLT,reduceCtorEq,Nat.reduceLeDiff,Int.reduceToNat,Int.reduceEq,Int.reduceLE,Int.reduceLT,Nat.reduceBEq,hl22,ht22,hl24,ht24,hl31,ht31]
            refine Sp_if hq38 (fun hq38 hc40 => ?_) (fun hq38 hc40 => ?_)
            ·try simp (disch := first | assumption | (simp only [List.length_set]; assumption)) only [go_sem,Nat.reduceAdd,Nat.reduceMul,Nat.reduceSub,Nat.reduceEqDiff,↓reduceIte,Nat.reduceLT,reduceCtorEq,Nat.reduceLeDiff,Int.reduceToNat,Int.reduceEq,Int.reduceLE,Int.reduceLT,Nat.reduceBEq,hl22,ht22,hl24,ht24,hl31,ht31]
             cases hq38
             refine X_cut rfl ?_
             refine weak_of (m := 0) [some 3,some 5] rfl rfl rfl (by rfl) ?_ ?_
             all_goals ((try simp (disch := first | assumption | (simp only [List.length_set]; assumption)) only [go_sem,Nat.reduceAdd,Nat.reduceMul,Nat.reduceSub,Nat.reduceEqDiff,↓reduceIte,Nat.reduceLT,reduceCtorEq,Nat.reduceLeDiff,Int.reduceToNat,Int.reduceEq,Int.reduceLE,Int.reduceLT,Nat.reduceBEq,hl22,ht22,hl24,ht24,hl31,ht31]); (repeat' first | done | rfl | omega | refine And.intro ?_ ?_ | (simp; done) | (simp; omega)))
            ·try simp (disch := first | assumption | (simp only [List.length_set]; assumption)) only [go_sem,Nat.reduceAdd,Nat.reduceMul,Nat.reduceSub,Nat.reduceEqDiff,↓reduceIte,Nat.reduceLT,reduceCtorEq,Nat.reduceLeDiff,Int.reduceToNat,Int.reduceEq,Int.reduceLE,Int.reduceLT,Nat.reduceBEq,hl22,ht22,hl24,ht24,hl31,ht31]
             cases hq38
             refine X_cut rfl ?_
             refine weak_of (m := 0) [some 3,some 5] rfl rfl rfl (by rfl) ?_ ?_
             all_goals ((try simp (disch := first | assumption | (simp only [List.length_set]; assumption)) only [go_sem,Nat.reduceAdd,Nat.reduceMul,Nat.reduceSub,Nat.reduceEqDiff,↓reduceIte,Nat.reduceLT,reduceCtorEq,Nat.reduceLeDiff,Int.reduceToNat,Int.reduceEq,Int.reduceLE,Int.reduceLT,Nat.reduceBEq,hl22,ht22,hl24,ht24,hl31,ht31]); (repeat' first | done | rfl | omega | refine And.intro ?_ ?_ | (simp; done) | (simp; omega)))
           ·intro s2 hJ; subst hJ
            try dsimp only at h
            try simp (disch := first | assumption | (simp only [List.length_set]; assumption)) only [go_sem,Nat.reduceAdd,Nat.reduceMul,Nat.reduceSub,Nat.reduceEqDiff,↓reduceIte,Nat.reduceLT,reduceCtorEq,Nat.reduceLeDiff,Int.reduceToNat,Int.reduceEq,Int.reduceLE,Int.reduceLT,Nat.reduceBEq,hl22,ht22,hl24,ht24,hl31,ht31]
            refine Bs_if h (fun h hc41 => ?_) (fun h hc41 => ?_)
            ·try simp (disch := first | assumption | (simp only [List.length_set]; assumption)) only [go_sem,Nat.reduceAdd,Nat.reduceMul,Nat.reduceSub,Nat.reduceEqDiff,↓reduceIte,Nat.reduceLT,reduceCtorEq,Nat.reduceLeDiff,Int.reduceToNat,Int.reduceEq,Int.reduceLE,Int.reduceLT,Nat.reduceBEq,hl22,ht22,hl24,ht24,hl31,ht31]
             obtain rfl:=Option.some.inj h
             refine ends_weak ⟨[(4,(B false))],[],0,119⟩ (weak_of (m := 0) [] rfl rfl rfl (by rfl) ?_ ?_) ?_
             all_goals ((try simp (disch := first | assumption | (simp only [List.length_set]; assumption)) only [go_sem,Nat.reduceAdd,Nat.reduceMul,Nat.reduceSub,Nat.reduceEqDiff,↓reduceIte,Nat.reduceLT,reduceCtorEq,Nat.reduceLeDiff,Int.reduceToNat,Int.reduceEq,Int.reduceLE,Int.reduceLT,Nat.reduceBEq,hl22,ht22,hl24,ht24,hl31,ht31]); (repeat' first | done | rfl | omega | refine And.intro ?_ ?_ | (simp; done) | (simp; omega)))
            ·try simp (disch := first | assumption | (simp only [List.length_set]; assumption)) only [go_sem,Nat.reduceAdd,Nat.reduceMul,Nat.reduceSub,Nat.reduceEqDiff,↓reduceIte,Nat.reduceLT,reduceCtorEq,Nat.reduceLeDiff,Int.reduceToNat,Int.reduceEq,Int.reduceLE,Int.reduceLT,Nat.reduceBEq,hl22,ht22,hl24,ht24,hl31,ht31]
             obtain ⟨c426,hr42,h⟩ := bind_ok h
             refine Cl_shown (w_laws_heldTellings hr42) (by first | rfl | (simp (disch := first | assumption | (simp only [List.length_set]; assumption)) only [go_sem,Nat.reduceAdd,Nat.reduceMul,Nat.reduceSub,Nat.reduceEqDiff,↓reduceIte,Nat.reduceLT,reduceCtorEq,Nat.reduceLeDiff,Int.reduceToNat,Int.reduceEq,Int.reduceLE,Int.reduceLT,Nat.reduceBEq,hl22,ht22,hl24,ht24,hl31,ht31]; first | done | rfl) | (simp only [List.length_append,List.length_cons,List.length_nil,List.length_map,List.length_set,List.length_replicate,Nat.zero_add,Nat.reduceAdd]; rfl) | (simp (disch := first | assumption | (simp only [List.length_set]; assumption)) only [go_sem,Nat.reduceAdd,Nat.reduceMul,Nat.reduceSub,Nat.reduceEqDiff,↓reduceIte,Nat.reduceLT,reduceCtorEq,Nat.reduceLeDiff,Int.reduceToNat,Int.reduceEq,Int.reduceLE,Int.reduceLT,Nat.reduceBEq,hl22,ht22,hl24,ht24,hl31,ht31]; simp only [List.length_append,List.length_cons,List.length_nil,List.length_map,List.length_set,List.length_replicate,Nat.zero_add,Nat.reduceAdd]; rfl)) (FitAll.refl _) (.inr ⟨rfl,by simp [freeOb,free1]⟩) ?_
             try simp (disch := first | assumption | (simp only [List.length_set]; assumption)) only [go_sem,Nat.reduceAdd,Nat.reduceMul,Nat.reduceSub,Nat.reduceEqDiff,↓reduceIte,Nat.reduceLT,reduceCtorEq,Nat.reduceLeDiff,Int.reduceToNat,Int.reduceEq,Int.reduceLE,Int.reduceLT,Nat.reduceBEq,hl22,ht22,hl24,ht24,hl31,ht31]
             refine Bs_if h (fun h hc43 => ?_) (fun h hc43 => ?_)
             ·try simp (disch := first | assumption | (simp only [List.length_set]; assumption)) only [go_sem,Nat.reduceAdd,Nat.reduceMul,Nat.reduceSub,Nat.reduceEqDiff,↓reduceIte,Nat.reduceLT,reduceCtorEq,Nat.reduceLeDiff,Int.reduceToNat,Int.reduceEq,Int.reduceLE,Int.reduceLT,Nat.reduceBEq,hl22,ht22,hl24,ht24,hl31,ht31]
              obtain rfl:=Option.some.inj h
              refine ends_weak ⟨[(4,(B false))],[],0,119⟩ (weak_of (m := 0) [] rfl rfl rfl (by rfl) ?_ ?_) ?_
              all_goals ((try simp (disch := first | assumption | (simp only [List.length_set]; assumption)) only [go_sem,Nat.reduceAdd,Nat.reduceMul,Nat.reduceSub,Nat.reduceEqDiff,↓reduceIte,Nat.reduceLT,reduceCtorEq,Nat.reduceLeDiff,Int.reduceToNat,Int.reduceEq,Int.reduceLE,Int.reduceLT,Nat.reduceBEq,hl22,ht22,hl24,ht24,hl31,ht31]); (repeat' first | done | rfl | omega | refine And.intro ?_ ?_ | (simp; done) | (simp; omega)))
             ·try simp (disch := first | assumption | (simp only [List.length_set]; assumption)) only [go_sem,Nat.reduceAdd,Nat.reduceMul,Nat.reduceSub,Nat.reduceEqDiff,↓reduceIte,Nat.reduceLT,reduceCtorEq,Nat.reduceLeDiff,Int.reduceToNat,Int.reduceEq,Int.reduceLE,Int.reduceLT,Nat.reduceBEq,hl22,ht22,hl24,ht24,hl31,ht31]
              refine Bs_if h (fun h hc44 => ?_) (fun h hc44 => ?_)
              ·try simp (disch := first | assumption | (simp only [List.length_set]; assumption)) only [go_sem,Nat.reduceAdd,Nat.reduceMul,Nat.reduceSub,Nat.reduceEqDiff,↓reduceIte,Nat.reduceLT,reduceCtorEq,Nat.reduceLeDiff,Int.reduceToNat,Int.reduceEq,Int.reduceLE,Int.reduceLT,Nat.reduceBEq,hl22,ht22,hl24,ht24,hl31,ht31]
               obtain rfl:=Option.some.inj h
               refine ends_weak ⟨[(4,(B false))],[],0,119⟩ (weak_of (m := 0) [] rfl rfl rfl (by rfl) ?_ ?_) ?_
               all_goals ((try simp (disch := first | assumption | (simp only [List.length_set]; assumption)) only [go_sem,Nat.reduceAdd,Nat.reduceMul,Nat.reduceSub,Nat.reduceEqDiff,↓reduceIte,Nat.reduceLT,reduceCtorEq,Nat.reduceLeDiff,Int.reduceToNat,Int.reduceEq,Int.reduceLE,Int.reduceLT,Nat.reduceBEq,hl22,ht22,hl24,ht24,hl31,ht31]); (repeat' first | done | rfl | omega | refine And.intro ?_ ?_ | (simp; done) | (simp; omega)))
              ·try simp (disch := first | assumption | (simp only [List.length_set]; assumption)) only [go_sem,Nat.reduceAdd,Nat.reduceMul,Nat.reduceSub,Nat.reduceEqDiff,↓reduceIte,Nat.reduceLT,reduceCtorEq,Nat.reduceLeDiff,Int.reduceToNat,Int.reduceEq,Int.reduceLE,Int.reduceLT,Nat.reduceBEq,hl22,ht22,hl24,ht24,hl31,ht31]
               obtain rfl:=Option.some.inj h
               refine ends_weak ⟨[(4,(B true))],[],0,119⟩ (weak_of (m := 0) [] rfl rfl rfl (by rfl) ?_ ?_) ?_
               all_goals ((try simp (disch := first | assumption | (simp only [List.length_set]; assumption)) only [go_sem,Nat.reduceAdd,Nat.reduceMul,Nat.reduceSub,Nat.reduceEqDiff,↓reduceIte,Nat.reduceLT,reduceCtorEq,Nat.reduceLeDiff,Int.reduceToNat,Int.reduceEq,Int.reduceLE,Int.reduceLT,Nat.reduceBEq,hl22,ht22,hl24,ht24,hl31,ht31]); (repeat' first | done | rfl | omega | refine And.intro ?_ ?_ | (simp; done) | (simp; omega)))
end Go.TL.YtjkeoippmlmfbaaGreatDoor
