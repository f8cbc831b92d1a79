import Derived.Test.YtjhdkimkijhloaaGreatDoorBk11
set_option linter.all false
namespace Go.Abs
def pairs : List (Nat × AFunc) := [(15, fn15), (18, fn18), (20, fn20), (30, fn30), (31, fn31), (32, fn32), (40, fn40), (41, fn41), (43, fn43), (52, fn52), (54, fn54), (56, fn56), (57, fn57), (65, fn65), (67, fn67), (68, fn68), (69, fn69), (72, fn72), (73, fn73), (80, fn80), (84, fn84), (91, fn91), (92, fn92), (93, fn93), (94, fn94), (95, fn95), (105, fn105), (106, fn106), (107, fn107), (108, fn108), (109, fn109), (110, fn110), (111, fn111), (112, fn112), (113, fn113), (114, fn114), (115, fn115), (117, fn117), (118, fn118), (119, fn119), (120, fn120), (121, fn121), (122, fn122), (123, fn123), (124, fn124), (125, fn125), (127, fn127), (128, fn128), (129, fn129), (130, fn130), (131, fn131), (132, fn132), (133, fn133), (136, fn136), (137, fn137), (138, fn138), (139, fn139), (140, fn140), (141, fn141), (142, fn142), (143, fn143), (145, fn145), (146, fn146), (147, fn147), (150, fn150), (151, fn151), (157, fn157), (158, fn158), (159, fn159), (160, fn160), (161, fn161), (162, fn162), (165, fn165), (166, fn166), (167, fn167), (168, fn168), (169, fn169), (170, fn170), (171, fn171), (172, fn172), (173, fn173), (174, fn174), (175, fn175), (176, fn176), (177, fn177), (178, fn178), (179, fn179), (180, fn180), (181, fn181), (183, fn183), (184, fn184), (189, fn189), (190, fn190), (201, fn201), (202, fn202), (203, fn203), (204, fn204), (205, fn205), (206, fn206), (209, fn209), (216, fn216), (217, fn217), (223, fn223), (227, fn227), (230, fn230), (240, fn240), (241, fn241), (242, fn242), (249, fn249), (250, fn250)]
def allOk (P : Program) : List (Nat × AFunc) → Prop
  | [] => True
  | p :: r => compileFn P p.1 = some p.2 ∧ allOk P r
theorem allOk.mem {P : Program} : ∀ {l : List (Nat × AFunc)}, allOk P l → ∀ p ∈ l, compileFn P p.1 = some p.2
  | [], _, p, hp => by simp at hp
  | q :: r, h, p, hp => by
    rcases List.mem_cons.1 hp with rfl | hp
    · exact h.1
    · exact h.2.mem p hp
theorem pairs_ok : allOk Go.Proofs.Tryz.prog pairs := ⟨k15, k18, k20, k30, k31, k32, k40, k41, k43, k52, k54, k56, k57, k65, k67, k68, k69, k72, k73, k80, k84, k91, k92, k93, k94, k95, k105, k106, k107, k108, k109, k110, k111, k112, k113, k114, k115, k117, k118, k119, k120, k121, k122, k123, k124, k125, k127, k128, k129, k130, k131, k132, k133, k136, k137, k138, k139, k140, k141, k142, k143, k145, k146, k147, k150, k151, k157, k158, k159, k160, k161, k162, k165, k166, k167, k168, k169, k170, k171, k172, k173, k174, k175, k176, k177, k178, k179, k180, k181, k183, k184, k189, k190, k201, k202, k203, k204, k205, k206, k209, k216, k217, k223, k227, k230, k240, k241, k242, k249, k250, trivial⟩
noncomputable def ofPairs : List (Nat × AFunc) → Tr AFunc
  | [] => .nil
  | p :: r => (ofPairs r).set p.1 p.2
theorem ofPairs_get : ∀ {l : List (Nat × AFunc)} {f : Nat} {A : AFunc}, (ofPairs l).get f = some A → (f, A) ∈ l
  | [], f, A, h => by simp [ofPairs, Tr.get_nil] at h
  | p :: r, f, A, h => by
    rw [ofPairs, Tr.get_set] at h
    split at h
    · rename_i hf; cases h; subst hf; exact List.mem_cons_self
    · exact List.mem_cons_of_mem _ (ofPairs_get h)
set_option maxRecDepth 1000000 in
def tabL : Tr AFunc := (.node none (.node none (.node none (.node none (.node (some fn15) (.node (some fn31) (.node none (.node (some fn127) .nil .nil) .nil) (.node (some fn95) (.node (some fn159) .nil .nil) (.node (some fn223) .nil .nil))) (.node none (.node none (.node (some fn143) .nil .nil) .nil) (.node (some fn111) (.node (some fn175) .nil .nil) .nil))) (.node none (.node none .nil (.node none (.node (some fn167) .nil .nil) .nil)) (.node none (.node none (.node (some fn151) .nil .nil) .nil) (.node (some fn119) (.node (some fn183) .nil .nil) .nil)))) (.node none (.node none (.node none (.node (some fn67) (.node (some fn131) .nil .nil) .nil) (.node none .nil (.node (some fn227) .nil .nil))) (.node none (.node none (.node (some fn147) .nil .nil) .nil) (.node (some fn115) (.node (some fn179) .nil .nil) .nil))) (.node none (.node (some fn43) (.node none (.node (some fn139) .nil .nil) (.node (some fn203) .nil .nil)) (.node (some fn107) (.node (some fn171) .nil .nil) .nil)) (.node none (.node (some fn91) .nil .nil) (.node (some fn123) .nil .nil))))) (.node none (.node none (.node none (.node none (.node (some fn65) (.node (some fn129) .nil .nil) .nil) (.node none (.node (some fn161) .nil .nil) .nil)) (.node none (.node none (.node (some fn145) .nil .nil) (.node (some fn209) .nil .nil)) (.node (some fn113) (.node (some fn177) .nil .nil) (.node (some fn241) .nil .nil)))) (.node none (.node (some fn41) (.node (some fn73) (.node (some fn137) .nil .nil) (.node (some fn201) .nil .nil)) (.node (some fn105) (.node (some fn169) .nil .nil) .nil)) (.node (some fn57) (.node none .nil (.node (some fn217) .nil .nil)) (.node (some fn121) .nil (.node (some fn249) .nil .nil))))) (.node none (.node none (.node none (.node (some fn69) (.node (some fn133) .nil .nil) .nil) (.node none (.node (some fn165) .nil .nil) .nil)) (.node none .nil (.node (some fn117) (.node (some fn181) .nil .nil) .nil))) (.node none (.node none (.node none (.node (some fn141) .nil .nil) (.node (some fn205) .nil .nil)) (.node (some fn109) (.node (some fn173) .nil .nil) .nil)) (.node none (.node (some fn93) (.node (some fn157) .nil .nil) .nil) (.node (some fn125) (.node (some fn189) .nil .nil) .nil)))))) (.node none (.node none (.node none (.node none (.node (some fn32) (.node none (.node (some fn128) .nil .nil) .nil) (.node none (.node (some fn160) .nil .nil) .nil)) (.node none (.node (some fn80) .nil .nil) (.node (some fn112) (.node (some fn176) .nil .nil) (.node (some fn240) .nil .nil)))) (.node none (.node (some fn40) (.node (some fn72) (.node (some fn136) .nil .nil) .nil) (.node none (.node (some fn168) .nil .nil) .nil)) (.node (some fn56) (.node none .nil (.node (some fn216) .nil .nil)) (.node (some fn120) (.node (some fn184) .nil .nil) .nil)))) (.node none (.node (some fn20) (.node none (.node (some fn68) (.node (some fn132) .nil .nil) .nil) .nil) (.node (some fn52) (.node (some fn84) .nil .nil) (.node none (.node (some fn180) .nil .nil) .nil))) (.node none (.node none (.node none (.node (some fn140) .nil .nil) (.node (some fn204) .nil .nil)) (.node (some fn108) (.node (some fn172) .nil .nil) .nil)) (.node none (.node (some fn92) .nil .nil) (.node (some fn124) .nil .nil))))) (.node none (.node none (.node (some fn18) (.node none (.node none (.node (some fn130) .nil .nil) .nil) (.node none (.node (some fn162) .nil .nil) .nil)) (.node none (.node none (.node (some fn146) .nil .nil) .nil) (.node (some fn114) (.node (some fn178) .nil .nil) (.node (some fn242) .nil .nil)))) (.node none (.node none (.node none (.node (some fn138) .nil .nil) (.node (some fn202) .nil .nil)) (.node (some fn106) (.node (some fn170) .nil .nil) .nil)) (.node none .nil (.node (some fn122) .nil (.node (some fn250) .nil .nil))))) (.node none (.node none (.node none .nil (.node none (.node (some fn166) .nil .nil) (.node (some fn230) .nil .nil))) (.node (some fn54) (.node none (.node (some fn150) .nil .nil) .nil) (.node (some fn118) .nil .nil))) (.node (some fn30) (.node none (.node none (.node (some fn142) .nil .nil) (.node (some fn206) .nil .nil)) (.node (some fn110) (.node (some fn174) .nil .nil) .nil)) (.node none (.node (some fn94) (.node (some fn158) .nil .nil) .nil) (.node none (.node (some fn190) .nil .nil) .nil)))))))
set_option maxRecDepth 1000000 in
theorem tabL_eq : ofPairs pairs = tabL := by kernel_rfl
def extE (f : Nat) (args : List AV) (G : Nat → Option ABlk) (_N : Nat) : Option (AV × Eff) :=
  match Nat.beq f 45 with
  | true => facE args G
  | false =>
    match Nat.beq f 149 with
    | true => joinE args G
    | false =>
      match Nat.beq f 182 with
      | true => sortE args G
      | false =>
        match Nat.beq f 188 with
        | true => itoaE args G
        | false =>
          match Nat.beq f 26 with
          | true => chkHorE args G
          | false =>
            match Nat.beq f 27 with
            | true => chkHorsE args G
            | false =>
              match Nat.beq f 96 with
              | true => atE args G
              | false =>
                match Nat.beq f 97 with
                | true => bandE args G
                | false => none
def tabE : Tab := { fns := tabL, ext := extE }
theorem tabE_ok : TabOk Go.Proofs.Tryz.prog tabE where
  fns := fun f A h => by
    have h' : (ofPairs pairs).get f = some A := by rw [tabL_eq]; exact h
    have h2 := pairs_ok.mem _ (ofPairs_get h')
    exact h2
  ext := fun f args h v e he => by
    have he' : extE f args (fun b => h[b]?) h.length = some (v, e) := he
    unfold extE at he'
    split at he'
    · rename_i hf
      obtain rfl := Nat.eq_of_beq_eq_true hf
      exact ⟨facE_ok tbl he', _, k45⟩
    ·
      split at he'
      · rename_i hf
        obtain rfl := Nat.eq_of_beq_eq_true hf
        exact ⟨joinE_ok he', _, k149⟩
      ·
        split at he'
        · rename_i hf
          obtain rfl := Nat.eq_of_beq_eq_true hf
          exact ⟨sortE_ok he', _, k182⟩
        ·
          split at he'
          · rename_i hf
            obtain rfl := Nat.eq_of_beq_eq_true hf
            exact ⟨itoaE_ok he', _, k188⟩
          ·
            split at he'
            · rename_i hf
              obtain rfl := Nat.eq_of_beq_eq_true hf
              exact ⟨chkHorE_ok tbl he', _, k26⟩
            ·
              split at he'
              · rename_i hf
                obtain rfl := Nat.eq_of_beq_eq_true hf
                exact ⟨chkHorsE_ok tbl he', _, k27⟩
              ·
                split at he'
                · rename_i hf
                  obtain rfl := Nat.eq_of_beq_eq_true hf
                  exact ⟨atE_ok tbl he', _, k96⟩
                ·
                  split at he'
                  · rename_i hf
                    obtain rfl := Nat.eq_of_beq_eq_true hf
                    exact ⟨bandE_ok tbl he', _, k97⟩
                  · cases he'
def glob0 : AHeap := [.cells [.int .i64 (-1), .int .i64 0, .int .i64 1, .int .i64 0, .int .i64 0, .int .i64 (-1), .int .i64 0, .int .i64 1] false false, .dead, .cells [.int .u64 1, .int .u64 10, .int .u64 100, .int .u64 1000, .int .u64 10000, .int .u64 100000, .int .u64 1000000, .int .u64 10000000, .int .u64 100000000, .int .u64 1000000000, .int .u64 10000000000, .int .u64 100000000000, .int .u64 1000000000000, .int .u64 10000000000000, .int .u64 100000000000000, .int .u64 1000000000000000, .int .u64 10000000000000000, .int .u64 100000000000000000, .int .u64 1000000000000000000, .int .u64 10000000000000000000] false false, .dead, .dead, .cells [.int .u8 0, .int .u8 1, .int .u8 28, .int .u8 2, .int .u8 29, .int .u8 14, .int .u8 24, .int .u8 3, .int .u8 30, .int .u8 22, .int .u8 20, .int .u8 15, .int .u8 25, .int .u8 17, .int .u8 4, .int .u8 8, .int .u8 31, .int .u8 27, .int .u8 13, .int .u8 23, .int .u8 21, .int .u8 19, .int .u8 16, .int .u8 7, .int .u8 26, .int .u8 12, .int .u8 18, .int .u8 6, .int .u8 11, .int .u8 5, .int .u8 10, .int .u8 9] false false, .cells [.int .u8 0, .int .u8 1, .int .u8 56, .int .u8 2, .int .u8 57, .int .u8 49, .int .u8 28, .int .u8 3, .int .u8 61, .int .u8 58, .int .u8 42, .int .u8 50, .int .u8 38, .int .u8 29, .int .u8 17, .int .u8 4, .int .u8 62, .int .u8 47, .int .u8 59, .int .u8 36, .int .u8 45, .int .u8 43, .int .u8 51, .int .u8 22, .int .u8 53, .int .u8 39, .int .u8 33, .int .u8 30, .int .u8 24, .int .u8 18, .int .u8 12, .int .u8 5, .int .u8 63, .int .u8 55, .int .u8 48, .int .u8 27, .int .u8 60, .int .u8 41, .int .u8 37, .int .u8 16, .int .u8 46, .int .u8 35, .int .u8 44, .int .u8 21, .int .u8 52, .int .u8 32, .int .u8 23, .int .u8 11, .int .u8 54, .int .u8 26, .int .u8 40, .int .u8 15, .int .u8 34, .int .u8 20, .int .u8 31, .int .u8 10, .int .u8 25, .int .u8 14, .int .u8 19, .int .u8 9, .int .u8 13, .int .u8 8, .int .u8 7, .int .u8 6] false false]
set_option maxRecDepth 1000000 in
theorem awake_runs : runsTo tabE 100000000 15 [] glob0 true = true := by decide +kernel
def isIntA : AV → Bool
  | .int _ _ => true
  | _ => false
theorem closB_ints {n : Nat} {c : List AV} {mu tl : Bool} (h : c.all isIntA = true) : closB n (.cells c mu tl) := fun i x hx => by
  have := List.all_eq_true.1 h x (List.mem_of_getElem? hx)
  cases x with
  | int k z => exact (clos_int k z).mono (Nat.zero_le _)
  | _ => cases this
theorem glob0_clos (b : Nat) (x : ABlk) (hb : glob0[b]? = some x) : closB glob0.length x := by
  have hx := List.mem_of_getElem? hb
  simp only [glob0, List.mem_cons, List.not_mem_nil, or_false] at hx
  rcases hx with rfl | rfl | rfl | rfl | rfl | rfl | rfl <;> first | exact closB_ints (by decide) | trivial
theorem glob0_len : glob0.length = Go.Proofs.Tryz.prog.globals.size := by kernel_rfl
theorem awake_ok (k : AHeap) (e : Ext glob0 k) : RCall Go.Proofs.Tryz.prog 15 [] k (fun v _ => v = .bool true) := by
  obtain ⟨g, rfl⟩ := e
  obtain ⟨g0, hs⟩ := SCall.of_run tmix tabE_ok awake_runs
  have := hs.frame (k := g) glob0_len glob0_clos ⟨fun _ => none, [], by simp, rfl⟩ (clos_bool true)
  exact ⟨_, [], by simpa using this, rfl⟩
end Go.Abs
