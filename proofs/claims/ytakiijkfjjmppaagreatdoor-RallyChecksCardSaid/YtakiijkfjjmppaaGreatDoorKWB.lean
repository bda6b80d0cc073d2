/-
 What functions of the program that RallyChecks reaches do, one contract each, part 2.
-/
import Derived.Test.YtakiijkfjjmppaaGreatDoorKWA
import Derived.Test.YtakiijkfjjmppaaGreatDoorKSlA
set_option linter.unusedVariables false
set_option linter.unusedSimpArgs false
set_option linter.unusedSectionVars false
set_option maxRecDepth 100000
set_option maxHeartbeats 1000000
namespace Go.Proofs.W
open Go Go.Sl Go.RowKit Go.Proofs
attribute [local irreducible] Go.Sl.Eff
theorem kV : bY Tryz.prog 158 = some (none) := by kernel_rfl
theorem aO7 : bY Tryz.prog 164 = some (none) := by kernel_rfl
theorem fE : bY Tryz.prog 68 = some (none) := by kernel_rfl
theorem lT : bY Tryz.prog 77 = some (none) := by kernel_rfl
theorem aJ4 : bY Tryz.prog 79 = some (some 4) := by kernel_rfl
theorem kO : aV Tryz.prog 73 := aL Tryz.func73 (by kernel_rfl) (by kernel_rfl)
theorem zQ : aV Tryz.prog 77 := aL Tryz.func77 (by kernel_rfl) (by kernel_rfl)
theorem aJ5 : aV Tryz.prog 78 := aL Tryz.func78 (by kernel_rfl) (by kernel_rfl)
theorem bC2 : aV Tryz.prog 79 := aL Tryz.func79 (by kernel_rfl) (by kernel_rfl)
theorem bC3 : aV Tryz.prog 80 := aL Tryz.func80 (by kernel_rfl) (by kernel_rfl)
theorem rD : bC Tryz.prog 156 0 = some 0 := by kernel_rfl
theorem mV : bC Tryz.prog 156 2 = some 2 := by kernel_rfl
theorem aJ6 : bC Tryz.prog 156 3 = some 3 := by kernel_rfl
theorem bC4 : bC Tryz.prog 156 4 = some 4 := by kernel_rfl
theorem kP : bC Tryz.prog 169 0 = some 0 := by kernel_rfl
theorem rF : bC Tryz.prog 169 1 = some 6 := by kernel_rfl
theorem bC5 : bC Tryz.prog 169 2 = some 12 := by kernel_rfl
theorem aJ7 : bC Tryz.prog 169 3 = some 13 := by kernel_rfl
theorem iG : bC Tryz.prog 169 4 = some 14 := by kernel_rfl
theorem iL : bC Tryz.prog 23 0 = some 0 := by kernel_rfl
theorem jK : bC Tryz.prog 23 5 = some 5 := by kernel_rfl
theorem gV : bC Tryz.prog 79 0 = some 0 := by kernel_rfl
theorem vC : bC Tryz.prog 79 1 = some 1 := by kernel_rfl
theorem vD : bC Tryz.prog 79 2 = some 2 := by kernel_rfl
theorem oZ : bC Tryz.prog 79 3 = some 3 := by kernel_rfl
theorem cK : Tryz.prog.follows .mixedOrders = true := by kernel_rfl
structure GPlan where
 posts : Int
 silence : Int
 clear : Int
 interval : Int
 missing : Int
 cars : Int
def GPlan.cells (p : GPlan) : List Value := [.int .i64 p.posts, .int .i64 p.silence, .int .i64 p.clear, .int .i64 p.interval, .int .i64 p.missing, .int .i64 p.cars]
structure GState where
 started : Bool
 second : Int
 post : Int
 safe : Bool
 found : Bool
def GState.cells (c : GState) : List Value := [.bool c.started, .int .i64 c.second, .int .i64 c.post, .bool c.safe, .bool c.found]
structure GuardSt where
 plan : GPlan
 opened : Latest
 covered : Latest
 red : List Latest
 posts : List Latest
 cars : List GState
structure GEvent where
 kind : Int
 second : Int
 post : Int
 car : Int
def GEvent.cells (e : GEvent) : List Value := [.int .i64 e.kind, .int .i64 e.second, .int .i64 e.post, .int .i64 e.car]
abbrev slv (b n : Nat) : Value := .slice (some ⟨b, 0, none⟩) n n
def GuardSt.cells (g : GuardSt) (rb pb cb : Nat) : List Value :=
 [.int .i64 g.plan.posts, .int .i64 g.plan.silence, .int .i64 g.plan.clear, .int .i64 g.plan.interval, .int .i64 g.plan.missing, .int .i64 g.plan.cars,
  .bool g.opened.value, .int .i64 g.opened.second, .bool g.opened.heard, .bool g.covered.value, .int .i64 g.covered.second, .bool g.covered.heard,
  slv rb g.red.length, slv pb g.posts.length, slv cb g.cars.length]
structure GAt where
 g : Nat
 r : Nat
 p : Nat
 c : Nat
abbrev GuardSt.eg (g : GuardSt) (l : GAt) : Ent := cel l.g 169 (g.cells l.r l.p l.c)
abbrev GuardSt.er (g : GuardSt) (l : GAt) : Ent := cel l.r 166 (bT (g.red.map Latest.cells))
abbrev GuardSt.ep (g : GuardSt) (l : GAt) : Ent := cel l.p 166 (bT (g.posts.map Latest.cells))
abbrev GuardSt.ec (g : GuardSt) (l : GAt) : Ent := cel l.c 156 (bT (g.cars.map GState.cells))
structure GuardSt.Fine (g : GuardSt) : Prop where
 posts : g.plan.posts = (g.posts.length : Int)
 reds : g.plan.posts = (g.red.length : Int)
 cars : g.plan.cars = (g.cars.length : Int)
 np : g.posts.length ≤ 60
 nc : 1 ≤ g.cars.length ∧ g.cars.length ≤ 200
 p1 : 1 ≤ g.posts.length
 sil : 1 ≤ g.plan.silence ∧ g.plan.silence ≤ 100000
 cle : 1 ≤ g.plan.clear ∧ g.plan.clear ≤ g.plan.posts
 int : 0 ≤ g.plan.interval ∧ g.plan.interval ≤ 100000
 mis : 1 ≤ g.plan.missing ∧ g.plan.missing ≤ 100000
def gN (pl : GPlan) (k s p c : Int) : Bool :=
 !(decide (k < 1) || decide (10 < k) || !(eK s 0 100000) || (!(k == 3 || k == 4 || k == 5 || k == 8) && (p != 0)) || (!(k == 8 || k == 9 || k == 10) && (c != 0))) && (eK p 0 (pl.posts - 1) && eK c 0 (pl.cars - 1))
def GuardSt.hear (g : GuardSt) (k s : Int) (p c : Nat) : GuardSt :=
 let rep : List Latest := match g.posts[p]? with | some x => g.posts.set p (x.hear true s true) | none => g.posts
 if k = 1 ∨ k = 2 then { g with opened := g.opened.hear (k == 1) s false }
 else if k = 6 ∨ k = 7 then { g with covered := g.covered.hear (k == 6) s false }
 else if k = 3 then { g with posts := rep }
 else if k = 4 ∨ k = 5 then { g with red := (match g.red[p]? with | some x => g.red.set p (x.hear (k == 4) s true) | none => g.red), posts := rep }
 else match g.cars[c]? with
  | none => g
  | some x =>
   if k = 8 then { g with posts := rep, cars := g.cars.set c { x with post := if x.started then max x.post p else x.post } }
   else if k = 9 then { g with cars := g.cars.set c { x with safe := x.safe || x.started } }
   else { g with cars := g.cars.set c { x with found := x.found || x.started } }
section
variable {w0 : World} {M : List Ent}
theorem hP {g : GuardSt} {l : GAt} (hg : g.eg l ∈ M) : ∀ w, Ok w0 M w → Calls Tryz.prog 77 #[.pointer (some ⟨l.g, 0, none⟩)] w (fun e w' => e = .returned (.bool (decide (0 < (g.cars.length : Int)))) ∧ Ok w0 M w') := by
 refine enter (vs := [_]) Tryz.func77 rfl Tryz.ntmps77 rfl (aE (aA (tv (aD rfl) (aF (Tr.keep (env' := [(0, _)]) ⟨rfl, trivial⟩ ?_)))))
 refine aB (aE (aA (tv (aC rfl) (tv (nQ Tryz.underlying68 rfl rfl) (tv (aC rfl) ?_)))))
 apply bH 7 (s := 5) (d := 12) rfl
 ·intro hg1 K hK
  refine bE hg1 rfl rfl (aC rfl) (bE hg1 rfl rfl (aM rfl) (bE hg1 rfl rfl (aI iG rfl) (bE hg1 rfl rfl (aG kV rfl (aK hg rfl)) (bE hg1 rfl rfl (aP Tryz.underlying158 rfl) (bE hg1 rfl rfl (fC rfl rfl) ?_)))))
  refine tv (bV hg1 rfl rfl) ?_
  iterate 6 refine Tr.weak2 rfl ?_
  exact hK _ (dT hg1)
 ·intro hg1 K hK
  refine aH hg1 rfl rfl rfl rfl (aH hg1 rfl rfl rfl rfl (aH hg1 rfl rfl rfl rfl (aH hg1 rfl rfl rfl rfl (aH hg1 rfl rfl rfl rfl (aH hg1 rfl rfl rfl rfl ?_)))))
  refine tv (bW hg1 rfl rfl) ?_
  iterate 6 refine Tr.weak2 rfl ?_
  exact hK _ (dU hg1)
 refine tv (aD rfl) (aF (Tr.keep (env' := [(2, _)]) ⟨rfl, trivial⟩ (aB (aQ (aW rfl rfl (fun w hw => ?_))))))
 exact ⟨by simp, hw⟩
theorem iQ {g : GuardSt} {l : GAt} (k s p c : Int) (hg : g.eg l ∈ M) (hf : g.Fine) : ∀ w, Ok w0 M w → Calls Tryz.prog 78 #[.pointer (some ⟨l.g, 0, none⟩), .agg #[.int .i64 k, .int .i64 s, .int .i64 p, .int .i64 c]] w
  (fun e w' => e = .returned (.bool (gN g.plan k s p c)) ∧ Ok w0 M w') := by
 have h1 := hf.posts; have h2 := hf.np; have h3 := hf.cars; have h4 := hf.nc; have h5 := hf.p1
 refine enter (vs := [_, _]) Tryz.func78 rfl Tryz.ntmps78 rfl (aE (aA (te (cH rfl rfl fun b3 => (tv (aD rfl) (aF ?_))))))
 refine Tr.keep (env' := [(0, _), (3, _)]) ⟨rfl, rfl, trivial⟩ (aB (aE (aA (tv (aI gV rfl) (tv (aG lT rfl (aK (.head _) rfl)) ?_)))))
 refine tv (cW rfl rfl) (tv (aC rfl) ?_)
 apply aZ 4 (s := 10) (d := 14) rfl
 ·intro hg1 K hK
  refine bE hg1 rfl rfl (aI gV rfl) (bE hg1 rfl rfl (aG lT rfl (aK (.head _) rfl)) (bE hg1 rfl rfl (cW rfl rfl) (tv (bW hg1 rfl rfl) ?_)))
  iterate 3 refine Tr.weak2 rfl ?_
  exact hK _ (dJ hg1)
 ·intro hg1 K hK
  refine aH hg1 rfl rfl rfl rfl (aH hg1 rfl rfl rfl rfl (aH hg1 rfl rfl rfl rfl (tv (bV hg1 rfl rfl) ?_)))
  iterate 3 refine Tr.weak2 rfl ?_
  exact hK _ (dK hg1)
 refine tv (aC rfl) ?_
 apply aZ 4 (s := 15) (d := 19) rfl
 ·intro hg2 K hK
  refine bE hg2 rfl rfl (aI gV rfl) (bE hg2 rfl rfl (aG lT rfl (aK (.head _) rfl)) (bE hg2 rfl rfl (cW rfl rfl) (tv (bW hg2 rfl rfl) ?_)))
  iterate 3 refine Tr.weak2 rfl ?_
  exact hK _ (dJ hg2)
 ·intro hg2 K hK
  refine aH hg2 rfl rfl rfl rfl (aH hg2 rfl rfl rfl rfl (aH hg2 rfl rfl rfl rfl (tv (bV hg2 rfl rfl) ?_)))
  iterate 3 refine Tr.weak2 rfl ?_
  exact hK _ (dK hg2)
 refine tv (aC rfl) ?_
 apply aZ 4 (s := 20) (d := 24) rfl
 ·intro hg3 K hK
  refine bE hg3 rfl rfl (aI gV rfl) (bE hg3 rfl rfl (aG lT rfl (aK (.head _) rfl)) (bE hg3 rfl rfl (cW rfl rfl) (tv (bW hg3 rfl rfl) ?_)))
  iterate 3 refine Tr.weak2 rfl ?_
  exact hK _ (dJ hg3)
 ·intro hg3 K hK
  refine aH hg3 rfl rfl rfl rfl (aH hg3 rfl rfl rfl rfl (aH hg3 rfl rfl rfl rfl (tv (bV hg3 rfl rfl) ?_)))
  iterate 3 refine Tr.weak2 rfl ?_
  exact hK _ (dK hg3)
 refine tv (aD rfl) (aF (Tr.keep (env' := [(0, _), (3, _), (5, _)]) ⟨rfl, rfl, rfl, trivial⟩ (aB (aE (aA ?_)))))
 refine tv (aI gV rfl) (tv (aG lT rfl (aK (.head _) rfl)) (tv (cW rfl rfl) (tv (aC rfl) ?_)))
 apply aZ 4 (s := 28) (d := 32) rfl
 ·intro hg4 K hK
  refine bE hg4 rfl rfl (aI gV rfl) (bE hg4 rfl rfl (aG lT rfl (aK (.head _) rfl)) (bE hg4 rfl rfl (cW rfl rfl) (tv (bW hg4 rfl rfl) ?_)))
  iterate 3 refine Tr.weak2 rfl ?_
  exact hK _ (dJ hg4)
 ·intro hg4 K hK
  refine aH hg4 rfl rfl rfl rfl (aH hg4 rfl rfl rfl rfl (aH hg4 rfl rfl rfl rfl (tv (bV hg4 rfl rfl) ?_)))
  iterate 3 refine Tr.weak2 rfl ?_
  exact hK _ (dK hg4)
 refine tv (aC rfl) ?_
 apply aZ 4 (s := 33) (d := 37) rfl
 ·intro hg5 K hK
  refine bE hg5 rfl rfl (aI gV rfl) (bE hg5 rfl rfl (aG lT rfl (aK (.head _) rfl)) (bE hg5 rfl rfl (cW rfl rfl) (tv (bW hg5 rfl rfl) ?_)))
  iterate 3 refine Tr.weak2 rfl ?_
  exact hK _ (dJ hg5)
 ·intro hg5 K hK
  refine aH hg5 rfl rfl rfl rfl (aH hg5 rfl rfl rfl rfl (aH hg5 rfl rfl rfl rfl (tv (bV hg5 rfl rfl) ?_)))
  iterate 3 refine Tr.weak2 rfl ?_
  exact hK _ (dK hg5)
 refine tv (aD rfl) (aF (Tr.keep (env' := [(0, _), (3, _), (5, _), (6, _)]) ⟨rfl, rfl, rfl, rfl, trivial⟩ (aB (aE (aE ?_)))))
 refine aA (tv (aI gV rfl) (tv (aG lT rfl (aK (.head _) rfl)) (tv (dI rfl rfl) (tv (aC rfl) ?_))))
 apply aZ 4 (s := 41) (d := 45) rfl
 ·intro hg6 K hK
  refine bE hg6 rfl rfl (aI gV rfl) (bE hg6 rfl rfl (aG lT rfl (aK (.head _) rfl)) (bE hg6 rfl rfl (fC rfl rfl) (tv (bW hg6 rfl rfl) ?_)))
  iterate 3 refine Tr.weak2 rfl ?_
  exact hK _ (dJ hg6)
 ·intro hg6 K hK
  refine aH hg6 rfl rfl rfl rfl (aH hg6 rfl rfl rfl rfl (aH hg6 rfl rfl rfl rfl (tv (bV hg6 rfl rfl) ?_)))
  iterate 3 refine Tr.weak2 rfl ?_
  exact hK _ (dK hg6)
 refine tv (aC rfl) ?_
 apply aZ 5 (s := 46) (d := 51) rfl
 ·intro hg7 K hK
  refine bE hg7 rfl rfl (aI vC rfl) (bE hg7 rfl rfl (aG bB rfl (aK (.head _) rfl)) (dB hg7 rfl rfl (aJ kO rfl rfl rfl rfl (cS _ _ _) (bE hg7 rfl rfl (bF rfl) (tv (bW hg7 rfl rfl) ?_)))))
  iterate 4 refine Tr.weak2 rfl ?_
  exact hK _ (dJ hg7)
 ·intro hg7 K hK
  refine aH hg7 rfl rfl rfl rfl (aH hg7 rfl rfl rfl rfl (aH hg7 rfl rfl rfl rfl (aH hg7 rfl rfl rfl rfl (tv (bV hg7 rfl rfl) ?_))))
  iterate 4 refine Tr.weak2 rfl ?_
  exact hK _ (dK hg7)
 refine tv (aC rfl) ?_
 apply aZ 8 (s := 52) (d := 60) rfl
 ·intro hg8 K hK
  refine bE hg8 rfl rfl (aC rfl) (bE hg8 rfl rfl (bF rfl) (bE hg8 rfl rfl (aC rfl) ?_))
  apply bH 4 (s := 55) (d := 59) rfl
  ·intro hg9 K hK
   refine bE hg9 rfl rfl (aI vD rfl) (bE hg9 rfl rfl (aG bB rfl (aK (.head _) rfl)) (bE hg9 rfl rfl (eF rfl rfl) (bE hg8 rfl rfl (bV hg9 rfl rfl) ?_)))
   iterate 3 refine Tr.weak2 rfl ?_
   exact hK _ (dT hg9)
  ·intro hg9 K hK
   refine aH hg9 rfl rfl rfl rfl (aH hg9 rfl rfl rfl rfl (aH hg9 rfl rfl rfl rfl (bE hg8 rfl rfl (bW hg9 rfl rfl) ?_)))
   iterate 3 refine Tr.weak2 rfl ?_
   exact hK _ (dU hg9)
  refine tv (bW hg8 rfl rfl) ?_
  iterate 4 refine Tr.weak2 rfl ?_
  exact hK _ (dJ hg8)
 ·intro hg8 K hK
  refine aH hg8 rfl rfl rfl rfl (aH hg8 rfl rfl rfl rfl (aH hg8 rfl rfl rfl rfl (bZ rfl rfl rfl (bZ rfl rfl rfl (bZ rfl rfl rfl ?_)))))
  refine aH hg8 rfl rfl rfl rfl (tv (bV hg8 rfl rfl) ?_)
  iterate 7 refine Tr.weak2 rfl ?_
  exact hK _ (dK hg8)
 refine tv (aC rfl) ?_
 apply aZ 8 (s := 61) (d := 69) rfl
 ·intro hg10 K hK
  refine bE hg10 rfl rfl (aC rfl) (bE hg10 rfl rfl (bF rfl) (bE hg10 rfl rfl (aC rfl) ?_))
  apply bH 4 (s := 64) (d := 68) rfl
  ·intro hg11 K hK
   refine bE hg11 rfl rfl (aI oZ rfl) (bE hg11 rfl rfl (aG bB rfl (aK (.head _) rfl)) (bE hg11 rfl rfl (eF rfl rfl) (bE hg10 rfl rfl (bV hg11 rfl rfl) ?_)))
   iterate 3 refine Tr.weak2 rfl ?_
   exact hK _ (dT hg11)
  ·intro hg11 K hK
   refine aH hg11 rfl rfl rfl rfl (aH hg11 rfl rfl rfl rfl (aH hg11 rfl rfl rfl rfl (bE hg10 rfl rfl (bW hg11 rfl rfl) ?_)))
   iterate 3 refine Tr.weak2 rfl ?_
   exact hK _ (dU hg11)
  refine tv (bW hg10 rfl rfl) ?_
  iterate 4 refine Tr.weak2 rfl ?_
  exact hK _ (dJ hg10)
 ·intro hg10 K hK
  refine aH hg10 rfl rfl rfl rfl (aH hg10 rfl rfl rfl rfl (aH hg10 rfl rfl rfl rfl (bZ rfl rfl rfl (bZ rfl rfl rfl (bZ rfl rfl rfl ?_)))))
  refine aH hg10 rfl rfl rfl rfl (tv (bV hg10 rfl rfl) ?_)
  iterate 7 refine Tr.weak2 rfl ?_
  exact hK _ (dK hg10)
 refine aF (Tr.keep (env' := [(0, _), (3, _), (69, _)]) ⟨rfl, rfl, rfl, trivial⟩ (aB ?_))
 refine bD rfl (fun hv => ?_) (fun hv => ?_)
 ·skip
  refine aE (aA (tv (aD rfl) (aF (Tr.keep (env' := [(4, _)]) ⟨rfl, trivial⟩ (aB ?_)))))
  refine aQ (aN (aW rfl rfl (fun w hw => (⟨?_, Ok.sub hw (List.sublist_cons_self _ _)⟩))))
  unfold gN; rw [hv]; rfl
 ·skip
  refine aO (aB (aE (Tr.keep (env' := [(0, _), (3, _)]) ⟨rfl, rfl, trivial⟩ ?_)))
  refine mG [(4, .bool (eK p 0 (g.plan.posts - 1) && eK c 0 (g.plan.cars - 1)))] (fun K hK => ?_) ?_
  ·skip
   refine cI cK rfl (dv 0 rfl (.refl _) (aI vD rfl) (dv 1 rfl (.refl _) (aG bB rfl (aK (.head _) rfl)) (dv 2 rfl (.refl _) (aC rfl) (dv 3 rfl (.refl _) (aM rfl) (dv 4 rfl (.refl _) (aI kP rfl) ?_)))))
   refine dv 5 rfl (.refl _) (aI iL rfl) (dv 6 rfl (.refl _) (aG bB rfl (aK (.tail _ hg) rfl)) (dv 7 rfl (.refl _) (cP rfl rfl (by omega)) (de 8 rfl (aJ kO rfl rfl rfl rfl (cS _ _ _) (aU (.refl _) (dv 9 rfl (.refl _) (aC rfl) ?_))))))
   refine dN (s := 79) rfl (fun hd13 => ?_) (fun hd13 => ?_)
   ·skip
    refine dS 10 hd13 rfl (.refl _) rfl rfl (aI oZ rfl) (dS 11 hd13 rfl (.refl _) rfl rfl (aG bB rfl (aK (.head _) rfl)) (dS 12 hd13 rfl (.refl _) rfl rfl (aC rfl) (dS 13 hd13 rfl (.refl _) rfl rfl (aM rfl) (dS 14 hd13 rfl (.refl _) rfl rfl (aI kP rfl) (dS 15 hd13 rfl (.refl _) rfl rfl (aI jK rfl) ?_)))))
    refine dS 16 hd13 rfl (.refl _) rfl rfl (aG bB rfl (aK (.tail _ hg) rfl)) (dS 17 hd13 rfl (.refl _) rfl rfl (cP rfl rfl (by omega)) (tR 18 hd13 rfl (by kernel_rfl) rfl rfl (aJ kO rfl rfl rfl rfl (cS _ _ _) (aU (.refl _) (dv 19 rfl (.refl _) (bV hd13 rfl rfl) (dv 20 rfl (.refl _) (aD rfl) ?_))))))
    refine bQ (by kernel_rfl) ?_
    exact dF hK ⟨(by first | (simp [dM.get, hd13]; done) | exact absurd hd13 (by decide) | (simp_all [dM.get]; done)), rfl, rfl, trivial⟩ (.refl _)
   ·skip
    refine dR 10 hd13 rfl (.refl _) rfl rfl (dR 11 hd13 rfl (.refl _) rfl rfl (dR 12 hd13 rfl (.refl _) rfl rfl (dR 13 hd13 rfl (.refl _) rfl rfl (dR 14 hd13 rfl (.refl _) rfl rfl (dR 15 hd13 rfl (.refl _) rfl rfl ?_)))))
    refine dR 16 hd13 rfl (.refl _) rfl rfl (dR 17 hd13 rfl (.refl _) rfl rfl (dR 18 hd13 rfl (.refl _) rfl rfl (dv 19 rfl (.refl _) (bW hd13 rfl rfl) (dv 20 rfl (.refl _) (aD rfl) (bQ (by kernel_rfl) ?_)))))
    exact dF hK ⟨(by first | (simp [dM.get, hd13]; done) | exact absurd hd13 (by decide) | (simp_all [dM.get]; done)), rfl, rfl, trivial⟩ (.refl _)
  refine Tr.keep (env' := [(4, _)]) ⟨rfl, trivial⟩ (aB (aQ (aW rfl rfl (fun w hw => (⟨?_, Ok.sub hw (List.sublist_cons_self _ _)⟩)))))
  unfold gN; rw [hv]; rfl
theorem aO8 (x : Latest) : x.cells.length = 3 := rfl
theorem aB2 (x : GState) : x.cells.length = 5 := rfl
theorem wA (b : Nat) (T : TypeId) (A B : List Ent) (xs : List Latest) (j : Nat) (o : Nat) (ho : o = j * 3) (x : Latest) (hx : xs[j]? = some x) (v bad : Bool) (s : Int) : ∀ w, Ok w0 (A ++ cel b T (bT (xs.map Latest.cells)) :: B) w →
  Calls Tryz.prog 80 #[.pointer (some ⟨b, o, none⟩), .bool v, .int .i64 s, .bool bad] w (fun e w' => e = .returned (.tuple #[]) ∧ Ok w0 (A ++ cel b T (bT ((xs.set j (x.hear v s bad)).map Latest.cells)) :: B) w') := by
 have h1 := qU Latest.cells xs j x (x.hear v s bad) hx
 have hj := (List.getElem?_eq_some_iff.1 hx).1
 have h2 := kD Latest.cells 3 aO8 xs j (by omega)
 rw [h1.1, h1.2, ho, ← h2]
 exact mT b T A B _ _ x v bad s
theorem rG {n lo hi : Int} : eK n lo hi = true ↔ lo ≤ n ∧ n ≤ hi := by simp [eK]
theorem kI {g : GuardSt} {k s : Int} {p c : Nat} (hf : g.Fine) (h : gN g.plan k s p c = true) : p < g.posts.length ∧ c < g.cars.length := by
 unfold gN at h
 simp only [Bool.and_eq_true, rG] at h
 have h1 := hf.posts; have h2 := hf.cars
 omega
theorem lU {g : GuardSt} {l : GAt} {b2 b3 : Nat} {X Y : Ent} {Fr : List Ent} (k s c : Int) (p : Nat) (x : Latest) (hx : g.posts[p]? = some x) : ∀ w, Ok w0 (cel b3 79 [.int .i64 k, .int .i64 s, .int .i64 (p : Int), .int .i64 c] :: cel b2 68 [.pointer (some ⟨l.g, 0, none⟩)] :: g.eg l :: X :: g.ep l :: Y :: Fr) w →
  Calls Tryz.prog 79 #[.pointer (some ⟨b2, 0, none⟩), .pointer (some ⟨b3, 0, none⟩)] w (fun e w' => e = .returned (.tuple #[]) ∧
   Ok w0 (cel b3 79 [.int .i64 k, .int .i64 s, .int .i64 (p : Int), .int .i64 c] :: cel b2 68 [.pointer (some ⟨l.g, 0, none⟩)] :: g.eg l :: X :: cel l.p 166 (bT ((g.posts.set p (x.hear true s true)).map Latest.cells)) :: Y :: Fr) w') := by
 have hp := (List.getElem?_eq_some_iff.1 hx).1
 refine enter (vs := [_, _]) Tryz.func79 rfl Tryz.ntmps79 rfl (dV (.cons_cons _ (.cons_cons _ (.cons_cons _ (.cons_cons _ (.cons _ (.refl _)))))) cK rfl (dv 0 rfl (.cons_cons _ (.cons_cons _ (.cons_cons _ (.cons_cons _ (.cons _ (.refl _)))))) (aG fE rfl (aK (.tail _ (.head _)) rfl)) (dv 1 rfl (.cons_cons _ (.cons_cons _ (.cons_cons _ (.cons_cons _ (.cons _ (.refl _)))))) (aM rfl) (dv 2 rfl (.cons_cons _ (.cons_cons _ (.cons_cons _ (.cons_cons _ (.cons _ (.refl _)))))) (aI aJ7 rfl) (dv 3 rfl (.cons_cons _ (.cons_cons _ (.cons_cons _ (.cons_cons _ (.cons _ (.refl _)))))) (aG aO7 rfl (aK (.tail _ (.tail _ (.head _))) rfl)) ?_)))))
 refine dv 4 rfl (.cons_cons _ (.cons_cons _ (.cons_cons _ (.cons_cons _ (.cons _ (.refl _)))))) (aI vD rfl) (dv 5 rfl (.cons_cons _ (.cons_cons _ (.cons_cons _ (.cons_cons _ (.cons _ (.refl _)))))) (aG bB rfl (aK (.head _) rfl)) (dv 6 rfl (.cons_cons _ (.cons_cons _ (.cons_cons _ (.cons_cons _ (.cons _ (.refl _)))))) (cL p Tryz.underlying164 tJ rfl rfl rfl rfl hp) (dv 7 rfl (.cons_cons _ (.cons_cons _ (.cons_cons _ (.cons_cons _ (.cons _ (.refl _)))))) (aI vC rfl) (dv 8 rfl (.cons_cons _ (.cons_cons _ (.cons_cons _ (.cons_cons _ (.cons _ (.refl _)))))) (aG bB rfl (aK (.head _) rfl)) (de 9 rfl (fD bC3 rfl rfl rfl rfl (wA _ _ [_, _, _, _] _ _ p _ (by omega) _ hx _ _ _) ?_))))))
 refine aU (.cons_cons _ (.cons_cons _ (.cons_cons _ (.cons_cons _ (.cons _ (.refl _)))))) (bQ (by kernel_rfl) (Tr.keep (env' := []) trivial (eV rfl (fun w hw => ?_))))
 exact ⟨rfl, hw⟩
theorem aB3 {g : GuardSt} {l : GAt} {Fr : List Ent} (s : Int) (p c : Nat) (hf : g.Fine) (hval : gN g.plan 1 s p c = true) : ∀ w, Ok w0 (g.eg l :: g.er l :: g.ep l :: g.ec l :: Fr) w →
  Calls Tryz.prog 28 #[.pointer (some ⟨l.g, 0, none⟩), .agg #[.int .i64 1, .int .i64 s, .int .i64 p, .int .i64 c]] w (fun e w' => e = .returned (.int .i64 0) ∧ Ok w0 ((g.hear 1 s p c).eg l :: (g.hear 1 s p c).er l :: (g.hear 1 s p c).ep l :: (g.hear 1 s p c).ec l :: Fr) w') := by
 have h4 := hf.nc
 obtain ⟨hp0, hc0⟩ := kI hf hval
 have hp : p < g.posts.length := hp0
 have hp2 : p < g.red.length := by have e1 := hf.reds; have e2 := hf.posts; rw [e2] at e1; omega
 have hc : c < g.cars.length := hc0
 obtain ⟨x, hx⟩ : ∃ x, g.posts[p]? = some x := ⟨_, List.getElem?_eq_getElem hp⟩
 obtain ⟨y, hy⟩ : ∃ y, g.red[p]? = some y := ⟨_, List.getElem?_eq_getElem hp2⟩
 obtain ⟨z, hz⟩ : ∃ z, g.cars[c]? = some z := ⟨_, List.getElem?_eq_getElem hc⟩
 refine enter (vs := [_, _]) Tryz.func28 rfl Tryz.ntmps28 rfl (aE (aA (te (eL rfl rfl rfl fun b2 => (te (cH rfl rfl fun b3 => (tv (aD rfl) ?_)))))))
 refine aF (Tr.keep (env' := [(2, _), (3, _)]) ⟨rfl, rfl, trivial⟩ (aB (aE (aE (aA ?_)))))
 refine tv (aG fE rfl (aK (.tail _ (.head _)) rfl)) (te (aJ zQ rfl rfl rfl rfl (hP (.tail _ (.tail _ (.head _)))) (tv (bF rfl) (aF (Tr.keep (env' := [(2, _), (3, _), (9, _)]) ⟨rfl, rfl, rfl, trivial⟩ (aB ?_))))))
 refine bD rfl (fun hr => ?_) (fun hr => ?_)
 ·have hr0 : decide (0 < (g.cars.length : Int)) = true := decide_eq_true (by omega)
  rw [hr0] at hr; cases hr
 ·skip
  refine aO (aB (aE (aE (aA (tv (aG fE rfl (aK (.tail _ (.head _)) rfl)) ?_)))))
  refine tv (aY aJ4 rfl (bL (n := 4) (vs := [_, _, _, _]) (.head _) rfl) rfl) (te (aJ aJ5 rfl rfl rfl rfl (iQ 1 s p c (.tail _ (.tail _ (.head _))) hf) (tv (bF rfl) (aF (Tr.keep (env' := [(2, _), (3, _), (13, _)]) ⟨rfl, rfl, rfl, trivial⟩ (aB ?_))))))
  refine bD rfl (fun hv => ?_) (fun hv => ?_)
  ·rw [hval] at hv; cases hv
  ·skip
   refine aO (aB (aE (cI cK rfl (dv 0 rfl (.refl _) (aG fE rfl (aK (.tail _ (.head _)) rfl)) (dv 1 rfl (.refl _) (aM rfl) ?_)))))
   refine dv 2 rfl (.refl _) (aI iG rfl) (dv 3 rfl (.refl _) (aG kV rfl (aK (.tail _ (.tail _ (.head _))) rfl)) (dv 4 rfl (.refl _) (aI oZ rfl) (dv 5 rfl (.refl _) (aG bB rfl (aK (.head _) rfl)) (dv 6 rfl (.refl _) (cL c Tryz.underlying158 mS rfl rfl rfl rfl hc) (dv 7 rfl (.refl _) (aD rfl) ?_)))))
   refine bQ (by kernel_rfl) (Tr.keep (env' := [(2, _), (3, _), (5, _)]) ⟨rfl, rfl, rfl, trivial⟩ (aB (aE (aA (tv (bG rfl rfl) ?_)))))
   refine tv (aD rfl) (aF (Tr.keep (env' := [(2, _), (3, _), (5, _), (6, _)]) ⟨rfl, rfl, rfl, rfl, trivial⟩ (aB (aE (aE ?_)))))
   refine aA (tv (aI gV rfl) (tv (aG lT rfl (aK (.head _) rfl)) (aF (Tr.keep (env' := [(2, _), (3, _), (5, _), (6, _), (23, _)]) ⟨rfl, rfl, rfl, rfl, rfl, trivial⟩ (aB ?_)))))
   refine aX (aE (aE (aA (tv (cW rfl rfl) (tv (aD rfl) ?_)))))
   refine aF (Tr.keep (env' := [(2, _), (3, _), (5, _), (6, _), (23, _), (24, _)]) ⟨rfl, rfl, rfl, rfl, rfl, rfl, trivial⟩ (aB (bI rfl (aO (aB ?_)))))
   refine bI rfl (dV (.cons_cons _ (.cons_cons _ (.cons _ (.refl _)))) cK rfl (dv 0 rfl (.cons_cons _ (.cons_cons _ (.cons _ (.refl _)))) (aG fE rfl (aK (.tail _ (.head _)) rfl)) (dv 1 rfl (.cons_cons _ (.cons_cons _ (.cons _ (.refl _)))) (aM rfl) (dv 2 rfl (.cons_cons _ (.cons_cons _ (.cons _ (.refl _)))) (aI rF rfl) (dv 3 rfl (.cons_cons _ (.cons_cons _ (.cons _ (.refl _)))) (xQ (j := 0) Tryz.underlying167 tJ rfl rfl rfl (by decide)) ?_)))))
   refine dv 4 rfl (.cons_cons _ (.cons_cons _ (.cons _ (.refl _)))) (aI gV rfl) (dv 5 rfl (.cons_cons _ (.cons_cons _ (.cons _ (.refl _)))) (aG lT rfl (aK (.head _) rfl)) (dv 6 rfl (.cons_cons _ (.cons_cons _ (.cons _ (.refl _)))) (cW rfl rfl) (dv 7 rfl (.cons_cons _ (.cons_cons _ (.cons _ (.refl _)))) (aI vC rfl) (dv 8 rfl (.cons_cons _ (.cons_cons _ (.cons _ (.refl _)))) (aG bB rfl (aK (.head _) rfl)) (de 9 rfl (fD bC3 rfl rfl rfl rfl (mT _ _ [_, _] _ [_, _, _, _, _, _] [_, _, _, _, _, _] g.opened true false s) ?_))))))
   refine aU (.cons_cons _ (.cons_cons _ (.cons _ (.refl _)))) (bQ (by kernel_rfl) (Tr.keep (env' := []) trivial (cX (aB (aE ?_)))))
   refine aA (tv (aD rfl) (aF (Tr.keep (env' := [(4, _)]) ⟨rfl, trivial⟩ (aB (aQ ?_)))))
   refine aW rfl rfl (fun w hw => (⟨rfl, ?_⟩))
   have e1 : g.hear 1 s p c = { g with opened := g.opened.hear true s false } := by simp [GuardSt.hear, hx, hy, hz]
   rw [e1]
   have h := Ok.sub hw (.cons _ (.cons _ (List.Sublist.refl _)))
   first | exact h | (simp only [GuardSt.eg, GuardSt.er, GuardSt.ep, GuardSt.ec, GuardSt.cells, List.length_set] at h ⊢; exact h)
theorem aB4 {g : GuardSt} {l : GAt} {Fr : List Ent} (s : Int) (p c : Nat) (hf : g.Fine) (hval : gN g.plan 3 s p c = true) : ∀ w, Ok w0 (g.eg l :: g.er l :: g.ep l :: g.ec l :: Fr) w →
  Calls Tryz.prog 28 #[.pointer (some ⟨l.g, 0, none⟩), .agg #[.int .i64 3, .int .i64 s, .int .i64 p, .int .i64 c]] w (fun e w' => e = .returned (.int .i64 0) ∧ Ok w0 ((g.hear 3 s p c).eg l :: (g.hear 3 s p c).er l :: (g.hear 3 s p c).ep l :: (g.hear 3 s p c).ec l :: Fr) w') := by
 have h4 := hf.nc
 obtain ⟨hp0, hc0⟩ := kI hf hval
 have hp : p < g.posts.length := hp0
 have hp2 : p < g.red.length := by have e1 := hf.reds; have e2 := hf.posts; rw [e2] at e1; omega
 have hc : c < g.cars.length := hc0
 obtain ⟨x, hx⟩ : ∃ x, g.posts[p]? = some x := ⟨_, List.getElem?_eq_getElem hp⟩
 obtain ⟨y, hy⟩ : ∃ y, g.red[p]? = some y := ⟨_, List.getElem?_eq_getElem hp2⟩
 obtain ⟨z, hz⟩ : ∃ z, g.cars[c]? = some z := ⟨_, List.getElem?_eq_getElem hc⟩
 refine enter (vs := [_, _]) Tryz.func28 rfl Tryz.ntmps28 rfl (aE (aA (te (eL rfl rfl rfl fun b2 => (te (cH rfl rfl fun b3 => (tv (aD rfl) ?_)))))))
 refine aF (Tr.keep (env' := [(2, _), (3, _)]) ⟨rfl, rfl, trivial⟩ (aB (aE (aE (aA ?_)))))
 refine tv (aG fE rfl (aK (.tail _ (.head _)) rfl)) (te (aJ zQ rfl rfl rfl rfl (hP (.tail _ (.tail _ (.head _)))) (tv (bF rfl) (aF (Tr.keep (env' := [(2, _), (3, _), (9, _)]) ⟨rfl, rfl, rfl, trivial⟩ (aB ?_))))))
 refine bD rfl (fun hr => ?_) (fun hr => ?_)
 ·have hr0 : decide (0 < (g.cars.length : Int)) = true := decide_eq_true (by omega)
  rw [hr0] at hr; cases hr
 ·skip
  refine aO (aB (aE (aE (aA (tv (aG fE rfl (aK (.tail _ (.head _)) rfl)) ?_)))))
  refine tv (aY aJ4 rfl (bL (n := 4) (vs := [_, _, _, _]) (.head _) rfl) rfl) (te (aJ aJ5 rfl rfl rfl rfl (iQ 3 s p c (.tail _ (.tail _ (.head _))) hf) (tv (bF rfl) (aF (Tr.keep (env' := [(2, _), (3, _), (13, _)]) ⟨rfl, rfl, rfl, trivial⟩ (aB ?_))))))
  refine bD rfl (fun hv => ?_) (fun hv => ?_)
  ·rw [hval] at hv; cases hv
  ·skip
   refine aO (aB (aE (cI cK rfl (dv 0 rfl (.refl _) (aG fE rfl (aK (.tail _ (.head _)) rfl)) (dv 1 rfl (.refl _) (aM rfl) ?_)))))
   refine dv 2 rfl (.refl _) (aI iG rfl) (dv 3 rfl (.refl _) (aG kV rfl (aK (.tail _ (.tail _ (.head _))) rfl)) (dv 4 rfl (.refl _) (aI oZ rfl) (dv 5 rfl (.refl _) (aG bB rfl (aK (.head _) rfl)) (dv 6 rfl (.refl _) (cL c Tryz.underlying158 mS rfl rfl rfl rfl hc) (dv 7 rfl (.refl _) (aD rfl) ?_)))))
   refine bQ (by kernel_rfl) (Tr.keep (env' := [(2, _), (3, _), (5, _)]) ⟨rfl, rfl, rfl, trivial⟩ (aB (aE (aA (tv (bG rfl rfl) ?_)))))
   refine tv (aD rfl) (aF (Tr.keep (env' := [(2, _), (3, _), (5, _), (6, _)]) ⟨rfl, rfl, rfl, rfl, trivial⟩ (aB (aE (aE ?_)))))
   refine aA (tv (aI gV rfl) (tv (aG lT rfl (aK (.head _) rfl)) (aF (Tr.keep (env' := [(2, _), (3, _), (5, _), (6, _), (23, _)]) ⟨rfl, rfl, rfl, rfl, rfl, trivial⟩ (aB ?_)))))
   refine aX (aE (aE (aA (tv (cW rfl rfl) (tv (aD rfl) ?_)))))
   refine aF (Tr.keep (env' := [(2, _), (3, _), (5, _), (6, _), (23, _), (24, _)]) ⟨rfl, rfl, rfl, rfl, rfl, rfl, trivial⟩ (aB (aR rfl (aA (tv (cW rfl rfl) ?_)))))
   refine tv (aD rfl) (aF (Tr.keep (env' := [(2, _), (3, _), (5, _), (6, _), (23, _), (24, _)]) ⟨rfl, rfl, rfl, rfl, rfl, rfl, trivial⟩ (aB (aR rfl (aE ?_)))))
   refine aE (aA (tv (cW rfl rfl) (tv (aD rfl) (aF (Tr.keep (env' := [(2, _), (3, _), (5, _), (6, _), (23, _), (37, _)]) ⟨rfl, rfl, rfl, rfl, rfl, rfl, trivial⟩ ?_)))))
   refine aB (aR rfl (aA (tv (cW rfl rfl) (tv (aD rfl) (aF ?_)))))
   refine Tr.keep (env' := [(2, _), (3, _), (5, _), (6, _), (23, _), (37, _)]) ⟨rfl, rfl, rfl, rfl, rfl, rfl, trivial⟩ (aB (aR rfl (aE (aA (tv (cW rfl rfl) ?_)))))
   refine tv (aD rfl) (aF (Tr.keep (env' := [(2, _), (3, _), (5, _), (6, _), (23, _), (50, _)]) ⟨rfl, rfl, rfl, rfl, rfl, rfl, trivial⟩ (aB (bI rfl (aA ?_)))))
   refine tv (aC rfl) (te (fD bC2 rfl rfl rfl rfl (lU _ s _ p x hx) (aF (Tr.keep (env' := []) trivial (cX (aB ?_))))))
   refine aE (aA (tv (aD rfl) (aF (Tr.keep (env' := [(4, _)]) ⟨rfl, trivial⟩ (aB ?_)))))
   refine aQ (aW rfl rfl (fun w hw => (⟨rfl, ?_⟩)))
   have e1 : g.hear 3 s p c = { g with posts := g.posts.set p (x.hear true s true) } := by simp [GuardSt.hear, hx, hy, hz]
   rw [e1]
   have h := Ok.sub hw (.cons _ (.cons _ (List.Sublist.refl _)))
   first | exact h | (simp only [GuardSt.eg, GuardSt.er, GuardSt.ep, GuardSt.ec, GuardSt.cells, List.length_set] at h ⊢; exact h)
theorem aB5 {g : GuardSt} {l : GAt} {Fr : List Ent} (s : Int) (p c : Nat) (hf : g.Fine) (hval : gN g.plan 6 s p c = true) : ∀ w, Ok w0 (g.eg l :: g.er l :: g.ep l :: g.ec l :: Fr) w →
  Calls Tryz.prog 28 #[.pointer (some ⟨l.g, 0, none⟩), .agg #[.int .i64 6, .int .i64 s, .int .i64 p, .int .i64 c]] w (fun e w' => e = .returned (.int .i64 0) ∧ Ok w0 ((g.hear 6 s p c).eg l :: (g.hear 6 s p c).er l :: (g.hear 6 s p c).ep l :: (g.hear 6 s p c).ec l :: Fr) w') := by
 have h4 := hf.nc
 obtain ⟨hp0, hc0⟩ := kI hf hval
 have hp : p < g.posts.length := hp0
 have hp2 : p < g.red.length := by have e1 := hf.reds; have e2 := hf.posts; rw [e2] at e1; omega
 have hc : c < g.cars.length := hc0
 obtain ⟨x, hx⟩ : ∃ x, g.posts[p]? = some x := ⟨_, List.getElem?_eq_getElem hp⟩
 obtain ⟨y, hy⟩ : ∃ y, g.red[p]? = some y := ⟨_, List.getElem?_eq_getElem hp2⟩
 obtain ⟨z, hz⟩ : ∃ z, g.cars[c]? = some z := ⟨_, List.getElem?_eq_getElem hc⟩
 refine enter (vs := [_, _]) Tryz.func28 rfl Tryz.ntmps28 rfl (aE (aA (te (eL rfl rfl rfl fun b2 => (te (cH rfl rfl fun b3 => (tv (aD rfl) ?_)))))))
 refine aF (Tr.keep (env' := [(2, _), (3, _)]) ⟨rfl, rfl, trivial⟩ (aB (aE (aE (aA ?_)))))
 refine tv (aG fE rfl (aK (.tail _ (.head _)) rfl)) (te (aJ zQ rfl rfl rfl rfl (hP (.tail _ (.tail _ (.head _)))) (tv (bF rfl) (aF (Tr.keep (env' := [(2, _), (3, _), (9, _)]) ⟨rfl, rfl, rfl, trivial⟩ (aB ?_))))))
 refine bD rfl (fun hr => ?_) (fun hr => ?_)
 ·have hr0 : decide (0 < (g.cars.length : Int)) = true := decide_eq_true (by omega)
  rw [hr0] at hr; cases hr
 ·skip
  refine aO (aB (aE (aE (aA (tv (aG fE rfl (aK (.tail _ (.head _)) rfl)) ?_)))))
  refine tv (aY aJ4 rfl (bL (n := 4) (vs := [_, _, _, _]) (.head _) rfl) rfl) (te (aJ aJ5 rfl rfl rfl rfl (iQ 6 s p c (.tail _ (.tail _ (.head _))) hf) (tv (bF rfl) (aF (Tr.keep (env' := [(2, _), (3, _), (13, _)]) ⟨rfl, rfl, rfl, trivial⟩ (aB ?_))))))
  refine bD rfl (fun hv => ?_) (fun hv => ?_)
  ·rw [hval] at hv; cases hv
  ·skip
   refine aO (aB (aE (cI cK rfl (dv 0 rfl (.refl _) (aG fE rfl (aK (.tail _ (.head _)) rfl)) (dv 1 rfl (.refl _) (aM rfl) ?_)))))
   refine dv 2 rfl (.refl _) (aI iG rfl) (dv 3 rfl (.refl _) (aG kV rfl (aK (.tail _ (.tail _ (.head _))) rfl)) (dv 4 rfl (.refl _) (aI oZ rfl) (dv 5 rfl (.refl _) (aG bB rfl (aK (.head _) rfl)) (dv 6 rfl (.refl _) (cL c Tryz.underlying158 mS rfl rfl rfl rfl hc) (dv 7 rfl (.refl _) (aD rfl) ?_)))))
   refine bQ (by kernel_rfl) (Tr.keep (env' := [(2, _), (3, _), (5, _)]) ⟨rfl, rfl, rfl, trivial⟩ (aB (aE (aA (tv (bG rfl rfl) ?_)))))
   refine tv (aD rfl) (aF (Tr.keep (env' := [(2, _), (3, _), (5, _), (6, _)]) ⟨rfl, rfl, rfl, rfl, trivial⟩ (aB (aE (aE ?_)))))
   refine aA (tv (aI gV rfl) (tv (aG lT rfl (aK (.head _) rfl)) (aF (Tr.keep (env' := [(2, _), (3, _), (5, _), (6, _), (23, _)]) ⟨rfl, rfl, rfl, rfl, rfl, trivial⟩ (aB ?_)))))
   refine aX (aE (aE (aA (tv (cW rfl rfl) (tv (aD rfl) ?_)))))
   refine aF (Tr.keep (env' := [(2, _), (3, _), (5, _), (6, _), (23, _), (24, _)]) ⟨rfl, rfl, rfl, rfl, rfl, rfl, trivial⟩ (aB (aR rfl (aA (tv (cW rfl rfl) ?_)))))
   refine tv (aD rfl) (aF (Tr.keep (env' := [(2, _), (3, _), (5, _), (6, _), (23, _), (24, _)]) ⟨rfl, rfl, rfl, rfl, rfl, rfl, trivial⟩ (aB (aR rfl (aE ?_)))))
   refine aE (aA (tv (cW rfl rfl) (tv (aD rfl) (aF (Tr.keep (env' := [(2, _), (3, _), (5, _), (6, _), (23, _), (37, _)]) ⟨rfl, rfl, rfl, rfl, rfl, rfl, trivial⟩ ?_)))))
   refine aB (bI rfl (aO (aB (bI rfl (dV (.cons_cons _ (.cons_cons _ (.cons _ (.refl _)))) cK rfl ?_)))))
   refine dv 0 rfl (.cons_cons _ (.cons_cons _ (.cons _ (.refl _)))) (aG fE rfl (aK (.tail _ (.head _)) rfl)) (dv 1 rfl (.cons_cons _ (.cons_cons _ (.cons _ (.refl _)))) (aM rfl) (dv 2 rfl (.cons_cons _ (.cons_cons _ (.cons _ (.refl _)))) (aI rF rfl) (dv 3 rfl (.cons_cons _ (.cons_cons _ (.cons _ (.refl _)))) (xQ (j := 1) Tryz.underlying167 tJ rfl rfl rfl (by decide)) (dv 4 rfl (.cons_cons _ (.cons_cons _ (.cons _ (.refl _)))) (aI gV rfl) (dv 5 rfl (.cons_cons _ (.cons_cons _ (.cons _ (.refl _)))) (aG lT rfl (aK (.head _) rfl)) ?_)))))
   refine dv 6 rfl (.cons_cons _ (.cons_cons _ (.cons _ (.refl _)))) (cW rfl rfl) (dv 7 rfl (.cons_cons _ (.cons_cons _ (.cons _ (.refl _)))) (aI vC rfl) (dv 8 rfl (.cons_cons _ (.cons_cons _ (.cons _ (.refl _)))) (aG bB rfl (aK (.head _) rfl)) (de 9 rfl (fD bC3 rfl rfl rfl rfl (mT _ _ [_, _] _ [_, _, _, _, _, _, _, _, _] [_, _, _] g.covered true false s) (aU (.cons_cons _ (.cons_cons _ (.cons _ (.refl _)))) (bQ (by kernel_rfl) ?_))))))
   refine Tr.keep (env' := []) trivial (cX (aB (aE (aA (tv (aD rfl) ?_)))))
   refine aF (Tr.keep (env' := [(4, _)]) ⟨rfl, trivial⟩ (aB (aQ (aW rfl rfl (fun w hw => (⟨rfl, ?_⟩))))))
   have e1 : g.hear 6 s p c = { g with covered := g.covered.hear true s false } := by simp [GuardSt.hear, hx, hy, hz]
   rw [e1]
   have h := Ok.sub hw (.cons _ (.cons _ (List.Sublist.refl _)))
   first | exact h | (simp only [GuardSt.eg, GuardSt.er, GuardSt.ep, GuardSt.ec, GuardSt.cells, List.length_set] at h ⊢; exact h)
theorem aB6 {g : GuardSt} {l : GAt} {Fr : List Ent} (s : Int) (p c : Nat) (hf : g.Fine) (hval : gN g.plan 8 s p c = true) : ∀ w, Ok w0 (g.eg l :: g.er l :: g.ep l :: g.ec l :: Fr) w →
  Calls Tryz.prog 28 #[.pointer (some ⟨l.g, 0, none⟩), .agg #[.int .i64 8, .int .i64 s, .int .i64 p, .int .i64 c]] w (fun e w' => e = .returned (.int .i64 0) ∧ Ok w0 ((g.hear 8 s p c).eg l :: (g.hear 8 s p c).er l :: (g.hear 8 s p c).ep l :: (g.hear 8 s p c).ec l :: Fr) w') := by
 have h4 := hf.nc
 obtain ⟨hp0, hc0⟩ := kI hf hval
 have hp : p < g.posts.length := hp0
 have hp2 : p < g.red.length := by have e1 := hf.reds; have e2 := hf.posts; rw [e2] at e1; omega
 have hc : c < g.cars.length := hc0
 obtain ⟨x, hx⟩ : ∃ x, g.posts[p]? = some x := ⟨_, List.getElem?_eq_getElem hp⟩
 obtain ⟨y, hy⟩ : ∃ y, g.red[p]? = some y := ⟨_, List.getElem?_eq_getElem hp2⟩
 obtain ⟨z, hz⟩ : ∃ z, g.cars[c]? = some z := ⟨_, List.getElem?_eq_getElem hc⟩
 have hsp := fun z' => qU GState.cells g.cars c z z' hz
 have hpl := kD GState.cells 5 aB2 g.cars c (by omega)
 generalize bT ((g.cars.take c).map GState.cells) = pre at hsp hpl
 generalize bT ((g.cars.drop (c + 1)).map GState.cells) = post at hsp
 show ∀ w, Ok w0 (g.eg l :: g.er l :: g.ep l :: cel l.c 156 (bT (g.cars.map GState.cells)) :: Fr) w → _
 rw [(hsp z).1]
 refine enter (vs := [_, _]) Tryz.func28 rfl Tryz.ntmps28 rfl (aE (aA (te (eL rfl rfl rfl fun b2 => (te (cH rfl rfl fun b3 => (tv (aD rfl) ?_)))))))
 refine aF (Tr.keep (env' := [(2, _), (3, _)]) ⟨rfl, rfl, trivial⟩ (aB (aE (aE (aA ?_)))))
 refine tv (aG fE rfl (aK (.tail _ (.head _)) rfl)) (te (aJ zQ rfl rfl rfl rfl (hP (.tail _ (.tail _ (.head _)))) (tv (bF rfl) (aF (Tr.keep (env' := [(2, _), (3, _), (9, _)]) ⟨rfl, rfl, rfl, trivial⟩ (aB ?_))))))
 refine bD rfl (fun hr => ?_) (fun hr => ?_)
 ·have hr0 : decide (0 < (g.cars.length : Int)) = true := decide_eq_true (by omega)
  rw [hr0] at hr; cases hr
 ·skip
  refine aO (aB (aE (aE (aA (tv (aG fE rfl (aK (.tail _ (.head _)) rfl)) ?_)))))
  refine tv (aY aJ4 rfl (bL (n := 4) (vs := [_, _, _, _]) (.head _) rfl) rfl) (te (aJ aJ5 rfl rfl rfl rfl (iQ 8 s p c (.tail _ (.tail _ (.head _))) hf) (tv (bF rfl) (aF (Tr.keep (env' := [(2, _), (3, _), (13, _)]) ⟨rfl, rfl, rfl, trivial⟩ (aB ?_))))))
  refine bD rfl (fun hv => ?_) (fun hv => ?_)
  ·rw [hval] at hv; cases hv
  ·skip
   refine aO (aB (aE (cI cK rfl (dv 0 rfl (.refl _) (aG fE rfl (aK (.tail _ (.head _)) rfl)) (dv 1 rfl (.refl _) (aM rfl) ?_)))))
   refine dv 2 rfl (.refl _) (aI iG rfl) (dv 3 rfl (.refl _) (aG kV rfl (aK (.tail _ (.tail _ (.head _))) rfl)) (dv 4 rfl (.refl _) (aI oZ rfl) (dv 5 rfl (.refl _) (aG bB rfl (aK (.head _) rfl)) (dv 6 rfl (.refl _) (nT c pre.length Tryz.underlying158 mS rfl rfl rfl rfl hc (by rw [Nat.zero_add, hpl])) (dv 7 rfl (.refl _) (aD rfl) ?_)))))
   refine bQ (by kernel_rfl) (Tr.keep (env' := [(2, _), (3, _), (5, _)]) ⟨rfl, rfl, rfl, trivial⟩ (aB (aE (aA (tv (bG rfl rfl) ?_)))))
   refine tv (aD rfl) (aF (Tr.keep (env' := [(2, _), (3, _), (5, _), (6, _)]) ⟨rfl, rfl, rfl, rfl, trivial⟩ (aB (aE (aE ?_)))))
   refine aA (tv (aI gV rfl) (tv (aG lT rfl (aK (.head _) rfl)) (aF (Tr.keep (env' := [(2, _), (3, _), (5, _), (6, _), (23, _)]) ⟨rfl, rfl, rfl, rfl, rfl, trivial⟩ (aB ?_)))))
   refine aX (aE (aE (aA (tv (cW rfl rfl) (tv (aD rfl) ?_)))))
   refine aF (Tr.keep (env' := [(2, _), (3, _), (5, _), (6, _), (23, _), (24, _)]) ⟨rfl, rfl, rfl, rfl, rfl, rfl, trivial⟩ (aB (aR rfl (aA (tv (cW rfl rfl) ?_)))))
   refine tv (aD rfl) (aF (Tr.keep (env' := [(2, _), (3, _), (5, _), (6, _), (23, _), (24, _)]) ⟨rfl, rfl, rfl, rfl, rfl, rfl, trivial⟩ (aB (aR rfl (aE ?_)))))
   refine aE (aA (tv (cW rfl rfl) (tv (aD rfl) (aF (Tr.keep (env' := [(2, _), (3, _), (5, _), (6, _), (23, _), (37, _)]) ⟨rfl, rfl, rfl, rfl, rfl, rfl, trivial⟩ ?_)))))
   refine aB (aR rfl (aA (tv (cW rfl rfl) (tv (aD rfl) (aF ?_)))))
   refine Tr.keep (env' := [(2, _), (3, _), (5, _), (6, _), (23, _), (37, _)]) ⟨rfl, rfl, rfl, rfl, rfl, rfl, trivial⟩ (aB (aR rfl (aE (aA (tv (cW rfl rfl) ?_)))))
   refine tv (aD rfl) (aF (Tr.keep (env' := [(2, _), (3, _), (5, _), (6, _), (23, _), (50, _)]) ⟨rfl, rfl, rfl, rfl, rfl, rfl, trivial⟩ (aB (aR rfl (aE ?_)))))
   refine aE (aA (tv (cW rfl rfl) (tv (aD rfl) (aF (Tr.keep (env' := [(2, _), (3, _), (5, _), (6, _), (23, _), (54, _)]) ⟨rfl, rfl, rfl, rfl, rfl, rfl, trivial⟩ ?_)))))
   refine aB (aR rfl (aA (tv (cW rfl rfl) (tv (aD rfl) (aF ?_)))))
   refine Tr.keep (env' := [(2, _), (3, _), (5, _), (6, _), (23, _), (54, _)]) ⟨rfl, rfl, rfl, rfl, rfl, rfl, trivial⟩ (aB (aR rfl (aE (aA (tv (cW rfl rfl) ?_)))))
   refine tv (aD rfl) (aF (Tr.keep (env' := [(3, _), (5, _), (6, _), (23, _), (72, _)]) ⟨rfl, rfl, rfl, rfl, rfl, trivial⟩ (aB (bI rfl (aE ?_)))))
   refine aE (aA (tv (aC rfl) (tv (aM rfl) (tv (aI rD rfl) (tv (aG pK rfl (aK (.tail _ (.tail _ (.tail _ (.tail _ (.tail _ (.head _)))))) (nP rfl))) ?_)))))
   refine aF (Tr.keep (env' := [(3, _), (5, _), (6, _), (77, _)]) ⟨rfl, rfl, rfl, rfl, trivial⟩ (aB ?_))
   refine bD rfl (fun hst => ?_) (fun hst => ?_)
   ·skip
    refine dV (.cons_cons _ (.cons_cons _ (.cons_cons _ (.cons_cons _ (.cons_cons _ (.cons _ (.refl _))))))) cK rfl (dv 0 rfl (.cons_cons _ (.cons_cons _ (.cons_cons _ (.cons_cons _ (.cons_cons _ (.cons _ (.refl _))))))) (aC rfl) (dv 1 rfl (.cons_cons _ (.cons_cons _ (.cons_cons _ (.cons_cons _ (.cons_cons _ (.cons _ (.refl _))))))) (aC rfl) (dv 2 rfl (.cons_cons _ (.cons_cons _ (.cons_cons _ (.cons_cons _ (.cons_cons _ (.cons _ (.refl _))))))) (aM rfl) (dv 3 rfl (.cons_cons _ (.cons_cons _ (.cons_cons _ (.cons_cons _ (.cons_cons _ (.cons _ (.refl _))))))) (aI mV rfl) (dv 5 rfl (.cons_cons _ (.cons_cons _ (.cons_cons _ (.cons_cons _ (.cons_cons _ (.cons _ (.refl _))))))) (aI vD rfl) ?_)))))
    refine dv 6 rfl (.cons_cons _ (.cons_cons _ (.cons_cons _ (.cons_cons _ (.cons_cons _ (.cons _ (.refl _))))))) (aG bB rfl (aK (.head _) rfl)) (de 4 rfl (iK (aG bB rfl (aK (.tail _ (.tail _ (.tail _ (.tail _ (.tail _ (.head _)))))) (nP rfl))) rfl (aU (.cons_cons _ (.cons_cons _ (.cons_cons _ (.cons_cons _ (.cons_cons _ (.cons _ (.refl _))))))) (dv 7 rfl (.cons_cons _ (.cons_cons _ (.cons_cons _ (.cons_cons _ (.cons_cons _ (.cons _ (.refl _))))))) (bI3 rfl rfl) (dv 8 rfl (.cons_cons _ (.cons_cons _ (.cons_cons _ (.cons_cons _ (.cons_cons _ (.cons _ (.refl _))))))) (aM rfl) (dv 9 rfl (.cons_cons _ (.cons_cons _ (.cons_cons _ (.cons_cons _ (.cons_cons _ (.cons _ (.refl _))))))) (aI mV rfl) ?_))))))
    refine de 10 rfl (bR eR rfl rfl rfl (.app (.succ (.succ .zero))) (.there (.there (.there (.there (.there .here))))) (aU (.cons_cons _ (.cons_cons _ (.cons_cons _ (.cons_cons _ (.cons_cons _ (.cons _ (.refl _))))))) (bQ (by kernel_rfl) (Tr.keep (env' := [(6, _)]) ⟨rfl, trivial⟩ (aB (aA ?_))))))
    refine tv (aC rfl) (te (fD bC2 rfl rfl rfl rfl (lU _ s _ p x hx) (aF (Tr.keep (env' := []) trivial (cX (aB ?_))))))
    refine aE (aA (tv (aD rfl) (aF (Tr.keep (env' := [(4, _)]) ⟨rfl, trivial⟩ (aB ?_)))))
    refine aQ (aW rfl rfl (fun w hw => (⟨rfl, ?_⟩)))
    have e1 : g.hear 8 s p c = { g with posts := g.posts.set p (x.hear true s true), cars := g.cars.set c { z with post := if z.started then max z.post p else z.post } } := by simp [GuardSt.hear, hx, hy, hz]
    rw [e1]
    have h := Ok.sub hw (.cons _ (.cons _ (List.Sublist.refl _)))
    simp only [GuardSt.eg, GuardSt.er, GuardSt.ep, GuardSt.ec, GuardSt.cells, List.length_set] at h ⊢
    rw [(hsp _).2]
    simpa [GState.cells, hst] using h
   ·skip
    refine aO (aB (aA (tv (aC rfl) (te (fD bC2 rfl rfl rfl rfl (lU _ s _ p x hx) (aF ?_))))))
    refine Tr.keep (env' := []) trivial (cX (aB (aE (aA (tv (aD rfl) ?_)))))
    refine aF (Tr.keep (env' := [(4, _)]) ⟨rfl, trivial⟩ (aB (aQ (aW rfl rfl (fun w hw => (⟨rfl, ?_⟩))))))
    have e1 : g.hear 8 s p c = { g with posts := g.posts.set p (x.hear true s true), cars := g.cars.set c { z with post := if z.started then max z.post p else z.post } } := by simp [GuardSt.hear, hx, hy, hz]
    rw [e1]
    have h := Ok.sub hw (.cons _ (.cons _ (List.Sublist.refl _)))
    simp only [GuardSt.eg, GuardSt.er, GuardSt.ep, GuardSt.ec, GuardSt.cells, List.length_set] at h ⊢
    rw [(hsp _).2]
    simpa [GState.cells, hst] using h
end
end Go.Proofs.W
