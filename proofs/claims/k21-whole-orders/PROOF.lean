import PyProof.Rows.All
import Wide.All
import OpenK.AllK
import Wide.FinOn
import KE.SortKeyHeap
import HandS.ForMost
import HandS.Lambda
import HandS.SortKw
import PyProof.TupleOfSeq
import HandS.Walk
import HandS.Codes
import HandS.IsInst
import HandS.EndTab
import PySem.Challenge.RW_lasttext_k21_whole_orders_keep_the_other
set_option Elab.async false
set_option linter.all false
set_option maxRecDepth 100000
set_option maxHeartbeats 4000000
/-! K21, the mathematics: ranks, the order of names, what a left-out name does to it. -/
namespace K21
open PySem

/-- one sign of a name -/
def rkStep (v : Int) (c : Nat) : Int := (v * 131 + (c : Int) + 7) % 1000003
def rkFold (v : Int) (cs : List Nat) : Int := cs.foldl rkStep v
def rkHead (s r : Int) : Int := (s * 7919 + r * 104729 + 12345) % 1000003
def rkLast (v : Int) : Int := (v * v + 3 * v + 1) % 1000003
/-- the rank of a name -/
def rk (s r : Int) (x : Str) : Int := rkLast (rkFold (rkHead s r) x.cps.toList)

theorem modB (z : Int) : 0 ≤ z % 1000003 ∧ z % 1000003 < 1000003 := ⟨Int.emod_nonneg _ (by decide), Int.emod_lt_of_pos _ (by decide)⟩

theorem rkFold_bound : ∀ (cs : List Nat) (v : Int), 0 ≤ v ∧ v < 1000003 → 0 ≤ rkFold v cs ∧ rkFold v cs < 1000003
  | [], _, h => h
  | c :: cs, _, _ => rkFold_bound cs (rkStep _ c) (modB _)

/-- the key of a name, as data -/
def kd (s r : Int) (x : Str) : PyData := .tuple [.int (rk s r x), .str x]
/-- the order of names -/
noncomputable def ordL (s r : Int) (xs : List Str) : List Str := xs.mergeSort (PySem.W.dataLe false (kd s r))

theorem ordL_perm (s r : Int) (xs : List Str) : (ordL s r xs).Perm xs := List.mergeSort_perm _ _
theorem ordL_len (s r : Int) (xs : List Str) : (ordL s r xs).length = xs.length := (ordL_perm s r xs).length_eq
theorem filter_swap {α : Type} (p q : α → Bool) (l : List α) : (l.filter p).filter q = (l.filter q).filter p := by
  rw [List.filter_filter, List.filter_filter]
  congr 1
  funext a
  exact Bool.and_comm _ _
/-- what is left out does not change the order of the others -/
theorem ordL_filter (s r : Int) (p : Str → Bool) (xs : List Str) : (ordL s r xs).filter p = ordL s r (xs.filter p) := by
  have T : PySem.W.TotalLe (PySem.W.dataLe false (kd s r)) := PySem.W.sortLe_total _ _ _
  refine PySem.W.sort_unique T ((PySem.W.sort_pairwise T xs).sublist List.filter_sublist) fun c => ?_
  show ((ordL s r xs).filter p).filter _ = _
  rw [filter_swap]
  show (((xs.mergeSort (PySem.W.dataLe false (kd s r))).filter _).filter p) = _
  rw [PySem.W.sort_stable T, filter_swap]
theorem ordL_one (s r : Int) (x : Str) : ordL s r [x] = [x] := List.perm_singleton.mp (ordL_perm s r [x])
theorem kd_alike (s r : Int) (xs : List Str) : PySem.W.AllAlike (xs.map (kd s r)) := by
  intro d hd e he
  obtain ⟨x, _, rfl⟩ := List.mem_map.mp hd
  obtain ⟨y, _, rfl⟩ := List.mem_map.mp he
  simp [kd, PySem.W.alike, PySem.W.alikeAll]
theorem kd_sortable (s r : Int) (xs : List Str) : PySem.W.Sortable (xs.map (kd s r)) := .inl fun d hd => by
  obtain ⟨x, _, rfl⟩ := List.mem_map.mp hd
  exact ⟨_, _, rfl⟩
theorem kd_depth (s r : Int) (x : Str) : (kd s r x).depth = 1 := by simp [kd, PyData.depth, PyData.depthAll]

/-! two sorted lists of texts that are the same up to order -/
theorem not_lt_pair : ∀ (p : Str) (l : List Str), PyProof.Rows.risingS p l = true → (p :: l).Pairwise fun a b => a.cps.toList ≤ b.cps.toList
  | p, [], _ => List.pairwise_singleton _ _
  | p, x :: r, h => by
    have h' : (!Spec.ltCps x.cps.toList p.cps.toList && PyProof.Rows.risingS x r) = true := h
    rw [Bool.and_eq_true, Bool.not_eq_true', PyProof.Rows.ltCps_eq, decide_eq_false_iff_not] at h'
    obtain ⟨h1, h2⟩ := h'
    have ih := not_lt_pair x r h2
    have hpx : p.cps.toList ≤ x.cps.toList := List.not_lt.mp h1
    refine List.pairwise_cons.mpr ⟨fun b hb => ?_, ih⟩
    rcases List.mem_cons.mp hb with rfl | hb
    · exact hpx
    · exact List.le_trans hpx ((List.pairwise_cons.mp ih).1 b hb)
theorem sortedS_pair : ∀ l : List Str, PyProof.Rows.sortedS l = true → l.Pairwise fun a b => a.cps.toList ≤ b.cps.toList
  | [], _ => List.Pairwise.nil
  | x :: r, h => not_lt_pair x r h
theorem sortedS_one {l m : List Str} (h1 : PyProof.Rows.sortedS l = true) (h2 : PyProof.Rows.sortedS m = true) (p : l.Perm m) : l = m := by
  refine List.Perm.eq_of_pairwise (le := fun a b : Str => a.cps.toList ≤ b.cps.toList) (fun a b _ _ ab ba => ?_) (sortedS_pair l h1) (sortedS_pair m h2) p
  exact PySem.W.str_of_cps (List.le_antisymm ab ba)
end K21
/-! K21, the lambda: a lambda of one parameter, called by a built-in. -/
namespace K21
open PySem PySem.Spec PyProof.Rows L2 LamX

/-- a lambda of the one parameter a, which nothing captures; what else it reads is captured or global -/
structure Lam1 (sc scope : Scope) (a : Str) : Prop where
  kind : scope.kind = .function
  co : scope.isCoroutine = false
  gen : scope.isGenerator = false
  own : ∀ y ∈ scope.names, y.2 ≠ .cell
  loc : ∀ y ∈ scope.names, y.2 = .local → y.1 = a
  par : scope.names.lookup a = some .local
  free : ∀ y ∈ scope.names, y.2 = .free → sc.names.lookup y.1 = some .cell
theorem Lam1.has {X : Cx} {scope : Scope} {a : Str} (L : Lam1 X.env.scope scope a) (ok : X.Ok) : ∀ y ∈ scope.names, y.2 = .free → ∃ c, X.env.cells.lookup y.1 = some c :=
  fun y hy e => ok.has _ (.inl (L.free y hy e))
/-- where the lambda's body runs: the maker's names by their cells, its own parameter behind them -/
def lamC (X : Cx) (A : Around) (s : Shared) (H : Hp) (scope : Scope) (a : Str) (f c' : Addr) : Cx :=
  { lamCx X A X.stack s H (fun _ _ _ => False) scope f c' with N := X.N ++ [a], xe := fun _ _ => False }

section
variable {X : Cx} {pins : List (Addr × Obj)} {σ : L2.St} {H : Hp} {s : Shared} {A : Around} {scope : Scope} {a : Str} {f c' : Addr}
theorem lamC_start {h₁ : Heap} {tk : Nat} {v : V} {u : Value} (I : Inv X pins σ H s) (L : Lam1 X.env.scope scope a) (na : a ∉ X.N) (e0 : Env0 X.prog X.w X.K X.mg X.base A X.stack s H) (hd : A.handled = none)
    (hns : h₁.Ns s.heap.objs.size fun y => ([(a, u)] : List (Str × Value)).reverse.lookup y) (kp : ∀ b o, s.heap.get? b = some o → h₁.get? b = some o) (r : RelV v u) :
    Inv (lamC X A s H scope a f c') [] (σ ++ [some v]) H { s with heap := h₁, toks := tk } := by
  have hfree := L.has I.ok
  have down : ∀ {y c}, (cloFrom X.env.cells scope.names []).lookup y = some c → X.env.cells.lookup y = some c := fun {y c} e => by
    rcases cloFrom_mem (PySem.mem_of_lookup e) with z | ⟨z1, z2⟩
    · cases z
    · obtain ⟨c1, hc⟩ := hfree _ z1 rfl
      have hc1 : X.env.cells.lookup y = some c1 := hc
      rw [hc1] at z2 ⊢
      rw [z2]
      rfl
  have up : ∀ {y}, scope.names.lookup y = some .free → ∃ c, (cloFrom X.env.cells scope.names []).lookup y = some c := fun {y} hl =>
    L2.mem_lookup (cloFrom_has (cells := X.env.cells) (acc := []) (PySem.mem_of_lookup hl))
  have cellK : ∀ {c : Addr} {w : Option Value}, s.heap.IsCell c w → h₁.IsCell c w := fun {c w} ⟨o, ho, hd⟩ => ⟨o, kp _ _ ho, hd⟩
  have noA : ∀ b : Addr, b ∉ (lamC X A s H scope a f c').ex := fun b z => absurd (show b ∈ ([] : List Addr) from z) (by simp)
  refine ⟨⟨e0.mod, L.kind, rfl, rfl, Nat.le_refl _, fun y z c e1 e2 => I.ok.inj y z c (down e1) (down e2), fun y hy => ?_, fun y c z _ => ?_, fun _ => hd, Around.frames_deeper e0.frames, .inr ⟨rfl, rfl⟩, fun b z => absurd z (noA b), e0.bs, e0.bsz, fun b _ _ => noA b,
      fun b z => absurd z (noA b), e0.funs, e0.frf⟩,
    rfl, e0.bare, Un.kept kp, ⟨_, hns, fun i y w e1 e2 e3 => ?_⟩, fun y c e => ?_, e0.hok.fresh (Nat.le_refl _), fun y c e => ?_, fun q hq => absurd (show q ∈ ([] : List (Addr × Obj)) ++ [] from hq) (by simp), e0.hok.kept kp, ?_⟩
  · have hy : scope.names.lookup y = some .cell ∨ scope.names.lookup y = some .free := hy
    rcases hy with hy | hy
    · exact absurd rfl (L.own _ (PySem.mem_of_lookup hy))
    · exact up hy
  · have z : false = true := z
    cases z
  · have e1 : (X.N ++ [a])[i]? = some y := e1
    have e3 : Vis scope y := e3
    rcases e3 with k | k | k
    · obtain rfl : y = a := L.loc _ (PySem.mem_of_lookup k) rfl
      have hi : i = X.N.length := by
        by_cases hlt : i < X.N.length
        · rw [List.getElem?_append_left hlt] at e1
          exact absurd (List.mem_of_getElem? e1) na
        · obtain ⟨h1, _⟩ := List.getElem?_eq_some_iff.mp e1
          rw [List.length_append, List.length_singleton] at h1
          omega
      rw [hi, ← I.len, List.getElem?_concat_length] at e2
      cases e2
      exact ⟨u, r, .inl ⟨k, by simp [List.lookup]⟩⟩
    · exact absurd rfl (L.own _ (PySem.mem_of_lookup k))
    · have hlt : i < X.N.length := by
        refine Nat.lt_of_not_le fun q => ?_
        obtain ⟨h1, h2⟩ := List.getElem?_eq_some_iff.mp e1
        rw [List.length_append, List.length_singleton] at h1
        have hi : i = X.N.length := by omega
        rw [hi, List.getElem?_concat_length] at e1
        cases e1
        rw [L.par] at k
        cases k
      rw [List.getElem?_append_left hlt] at e1
      rw [List.getElem?_append_left (by rw [I.len]; exact hlt)] at e2
      obtain ⟨m, hn, hl⟩ := I.loc
      have kc : X.env.scope.names.lookup y = some .cell := L.free _ (PySem.mem_of_lookup k) rfl
      obtain ⟨w', rw', q⟩ := hl i y w e1 e2 (.inr (.inl kc))
      obtain ⟨c2, h2⟩ := up k
      refine ⟨w', rw', .inr ⟨.inr k, c2, h2, ?_⟩⟩
      rcases q with ⟨k', _⟩ | ⟨_, c3, e', z⟩
      · have k' : X.env.scope.names.lookup y = some .local := k'
        rw [kc] at k'
        cases k'
      · rw [down h2] at e'
        cases e'
        exact cellK z
  · obtain ⟨w', z⟩ := I.cell y c (down e)
    exact ⟨w', cellK z⟩
  · exact I.freeC y c (down e)
  · show (σ ++ [some v]).length = (X.N ++ [a]).length
    rw [List.length_append, List.length_append, I.len]
    rfl
/-- f(u), f the lambda -/
theorem lam_call {params : Arguments} {body : Expr} {pm ctv : Value} {k : Nat} {v : V} {u : Value} {tb : TE} {Q : VK} (I : Inv X pins σ H s) (L : Lam1 X.env.scope scope a) (na : a ∉ X.N) (e0 : Env0 X.prog X.w X.K X.mg X.base A X.stack s H) (hr : Room (k + 1) A)
    (of1 : s.heap.get? f = some (PySem.W.kla_obj "<lambda>" (X.env.qual ++ "<lambda>") params body scope (cloFrom X.env.cells scope.names []) pm c' ctv)) (hco : H c' = some (CodeO c' (X.env.qual ++ "<lambda>")))
    (hbind : ∀ w : Value, bindArgs (PySem.W.kla_fn "<lambda>" (X.env.qual ++ "<lambda>") params body scope (cloFrom X.env.cells scope.names []) pm (.ref c') ctv) ⟨[w], []⟩ = pure [(a, w)])
    (hbody : PE (lamC X A s H scope a f c') body tb) (r : RelV v u) (ht : tb (σ ++ [some v]) H Q) : wpAny (model X.prog X.w) A (call (.ref f) [u]) (EP X pins σ Q) (fun _ _ => False) s := by
  obtain ⟨⟨oc, vs, t, hoc, hdc, hvc⟩, _, _⟩ := I.hok c' _ hco
  have rc : codeAny (model X.prog X.w) A (.call (.ref f) ⟨[u], []⟩) (CR CX0 X.stack X.prog X.w H s Q E0) s := by
    refine PySem.W.kla_callFunE hr.depth of1 rfl L.co L.gen rfl ⟨c', oc, vs, t, rfl, hoc, hdc, hvc⟩ ?_
    rw [hbind]
    refine wpAny_pure (wpAny_newFunctionEnv L.own (fun y hy => ?_) (fun h₁ hns hsb => ⟨I.nolimit.fresh _ hsb, ?_⟩) L.kind)
    · obtain rfl := List.mem_singleton.mp hy
      exact L.par
    · show codeAny _ _ (.expr body (lamEnv X scope s.heap.objs.size f c')) _ _
      have kp : ∀ b o, s.heap.get? b = some o → h₁.get? b = some o := fun b o e => hsb.extBut b o (Nat.ne_of_lt (Heap.lt_size e)) (Heap.get?_push_of_some _ e)
      have J := lamC_start (f := f) (c' := c') (tk := s.toks + ([(a, u)] : List (Str × Value)).length) I L na e0 hr.hd hns kp r
      refine PySem.W.kla_codeExpr (wpAny_mono (hbody.run [] _ _ H Q J ht) (fun w s' hq => ?_) fun e s' hq => hq.elim)
      obtain ⟨w', H', J', rv, q⟩ := hq
      exact ⟨w', H', J'.os, J'.bare, J'.base, J'.hok, rv, q⟩
  refine wpAny_call (codeAny_mono rc fun r s' hq => ?_)
  cases r with
  | error e => exact False.elim hq
  | ok fl =>
    cases fl with
    | ret u => exact I.after hq
    | next => exact False.elim hq
    | brk => exact False.elim hq
    | cont => exact False.elim hq
end
end K21
/-! K21, the sort: sorted(a tuple of texts, key=a lambda that gives pairs of a number and the text). -/
namespace K21
open PySem PySem.Spec PyProof.Rows L2 LamX

/-- a key as data -/
def kdOf (key : Str → Int) (x : Str) : PyData := .tuple [.int (key x), .str x]
theorem kdOf_alike (key : Str → Int) (xs : List Str) : PySem.W.AllAlike (xs.map (kdOf key)) := by
  intro d hd e he
  obtain ⟨x, _, rfl⟩ := List.mem_map.mp hd
  obtain ⟨y, _, rfl⟩ := List.mem_map.mp he
  simp [kdOf, PySem.W.alike, PySem.W.alikeAll]
theorem kdOf_sortable (key : Str → Int) (xs : List Str) : PySem.W.Sortable (xs.map (kdOf key)) := .inl fun d hd => by
  obtain ⟨x, _, rfl⟩ := List.mem_map.mp hd
  exact ⟨_, _, rfl⟩
noncomputable def srt (key : Str → Int) (xs : List Str) : List Str := xs.mergeSort (PySem.W.dataLe false (kdOf key))
theorem srt_len (key : Str → Int) (xs : List Str) : (srt key xs).length = xs.length := (List.mergeSort_perm _ _).length_eq

/-- the value v is a pair that stands for the key of x -/
def KeyAt (H : Hp) (key : Str → Int) (v : Value) (x : Str) : Prop := ∃ t, v = .ref t ∧ H t = some (.tup [.int (key x), .str x])
theorem KeyAt.same {H H' : Hp} {key : Str → Int} {v : Value} {x : Str} (h : KeyAt H key v x) (e : Same H H') : KeyAt H' key v x :=
  let ⟨t, e1, e2⟩ := h
  ⟨t, e1, e _ _ e2⟩
theorem KeyAt.reads {P : Program} {w : World} {H : Hp} {h : Heap} {key : Str → Int} {v : Value} {x : Str} (k : KeyAt H key v x) (ok : HOk P w H h) : ∃ as, Reads h v (kdOf key x) as := by
  obtain ⟨t, rfl, e⟩ := k
  obtain ⟨_, its, rv, o, ho, hc, n, hd⟩ := ok t _ e
  obtain ⟨u1, u2, rfl, ⟨t1, rfl⟩, ⟨t2, rfl⟩⟩ := vals2 rv
  exact ⟨_, .tuple ho hc hd (.cons (.int _ _) (.cons (.str _ _) .nil))⟩
theorem vals_of_each : ∀ {out : List Value} {xs : List Str}, PySem.W.EachIs (fun (v : Value) (x : Str) => RelV (.str x) v) out xs → Vals (xs.map V.str) out
  | _, _, .nil => .nil
  | _, _, .cons h t => .cons h (vals_of_each t)
theorem each_of_vals : ∀ {vs : List Value} {xs : List Str}, Vals (xs.map V.str) vs → PySem.W.EachIs (fun (v : Value) (x : Str) => RelV (.str x) v) vs xs
  | _, [], r => by
    cases r
    exact .nil
  | _, x :: xs, r => by
    cases r with
    | cons r1 r2 => exact .cons r1 (each_of_vals r2)

section
variable {X : Cx} {pins : List (Addr × Obj)} {σ : L2.St} {H : Hp} {s : Shared}
/-- an address of our own that is not tracked -/
structure Own (X : Cx) (pins : List (Addr × Obj)) (b : Addr) : Prop where
  new : X.s_0.heap.objs.size ≤ b
  loc : b ≠ X.env.locals
  nofr : b ∉ X.fs
  cells : ∀ x c, X.env.cells.lookup x = some c → c ≠ b
  pins : ∀ p ∈ X.pn ++ pins, p.1 ≠ b
theorem Inv.own (I : Inv X pins σ H s) {b : Addr} (h : s.heap.objs.size ≤ b) : Own X pins b where
  new := Nat.le_trans I.sz h
  loc := fun e => Nat.lt_irrefl _ (Nat.lt_of_lt_of_le I.lt (e ▸ h))
  nofr := I.nofs h
  cells := fun x c e z => by
    obtain ⟨v, o, ho, _⟩ := I.cell x c e
    exact Nat.lt_irrefl _ (Nat.lt_of_lt_of_le (Heap.lt_size ho) (z ▸ h))
  pins := fun p hp z => Nat.lt_irrefl _ (Nat.lt_of_lt_of_le (Heap.lt_size (I.pin p hp).1) (z ▸ h))
/-- the list at D gets its items, the list at K is dropped -/
theorem inv_swap {D K : Addr} {ys : List V} {h' : Heap} {tk : Nat} (I : Inv X pins σ H s) (oD : Own X pins D) (oK : Own X pins K) (nD : H D = none) (nK : H K = none)
    (keep : ∀ b o, b ≠ D → b ≠ K → s.heap.get? b = some o → h'.get? b = some o) (new : ObjOk X.prog X.w (upd H D (.lst ys)) h' D (.lst ys)) :
    Inv X pins σ (upd H D (.lst ys)) { s with heap := h', toks := tk } := by
  have ne : ∀ b u, H b = some u → b ≠ D ∧ b ≠ K := fun b u e => ⟨ne_of_none e nD, ne_of_none e nK⟩
  refine Inv.step (g' := s.gens) (d' := s.drawn) (ch := [D, K]) I (fun b hb => ?_) (fun b o _ _ hc e _ => ?_) (fun b o _ _ hc e _ => ?_) (fun b o hc e n => ?_) (fun b o hc e => ?_) (fun b xs e => ?_) (fun b o u e => ?_) (fun b ps e => ?_) (fun m hm => ?_) (fun b u e => ?_) I.bare
  · rcases List.mem_cons.mp hb with rfl | hb
    · exact ⟨.inr oD.new, oD.loc, oD.cells, oD.pins⟩
    · obtain rfl := List.mem_singleton.mp hb
      exact ⟨.inr oK.new, oK.loc, oK.cells, oK.pins⟩
  · exact keep b o (fun z => hc (by simp [z])) (fun z => hc (by simp [z])) e
  · exact ⟨o.slots, keep b o (fun z => hc (by simp [z])) (fun z => hc (by simp [z])) e⟩
  · rw [upd_ne (fun z => hc (by simp [z]))]
    exact n
  · exact ⟨o, keep b o (fun z => hc (by simp [z])) (fun z => hc (by simp [z])) e⟩
  · rw [upd_ne (ne b _ e).1]
    exact e
  · rw [upd_ne (ne b _ e).1]
    exact e
  · exact ⟨#[], by rw [upd_ne (ne b _ e).1, e]; simp⟩
  · obtain ⟨o, es, ep, ho, r⟩ := hm
    exact ⟨o, es, ep, keep _ o oD.loc.symm oK.loc.symm ho, r⟩
  · by_cases hb : b = D
    · subst hb
      rw [upd_same] at e
      cases e
      exact new
    · rw [upd_ne hb] at e
      refine (I.hok b u e).stay (fun c w hc q => ?_) (fun c q => ?_) fun c xs q => ?_
      · have h2 : ∃ z, H c = some z := by
          rcases hc with z | z
          · exact ⟨_, z ▸ e⟩
          · exact ⟨_, z⟩
        obtain ⟨z, hz⟩ := h2
        exact keep c w (ne c z hz).1 (ne c z hz).2 q
      · rw [upd_ne (ne c _ q).1]
        exact q
      · rw [upd_ne (ne c _ q).1]
        exact q

/-- while the keys are made: the sorted list at D is empty, the keys so far stand at K -/
theorem krest {D K f : Addr} {fo : Obj} {e1 : Nat} {vs : List Value} {xs : List Str} {key : Str → Int} {R : PySem.Fin → Shared → Prop} {E : Value → Shared → Prop}
    (I : Inv X pins σ H s) (oD : Own X pins D) (oK : Own X pins K) (hDK : K ≠ D) (hfD : f ≠ D) (hfK : f ≠ K) (nD : H D = none) (nK : H K = none) (atD : s.heap.get? D = some (seqObj "list" #[] e1)) (atK : s.heap.get? K = some (seqObj "list" #[] 0))
    (atf : s.heap.get? f = some fo) (nf : H f = none) (fL : f ≠ X.env.locals) (ff : f ∉ X.fs) (fd : ∀ v, fo.data ≠ .cell v) (rv : Vals (xs.map V.str) vs) (hz : vs.length ≤ sizeLine) (hu : X.A.units + 64 < cLine)
    (turn : ∀ (pins' : List (Addr × Obj)) (s' : Shared) (H' : Hp) (v : Value) (x : Str), Inv X pins' σ H' s' → Same H H' → s'.heap.get? f = some fo → x ∈ xs → RelV (.str x) v →
      wpAny (model X.prog X.w) X.A.in1.in1 (call (.ref f) [v]) (EP X pins' σ fun y H2 => ∃ t, y = .ref t ∧ Same H' H2 ∧ H2 t = some (.tup [.int (key x), .str x])) (fun _ _ => False) s')
    (done : ∀ (s' : Shared) (H' : Hp), Inv X pins σ (upd H' D (.lst ((srt key xs).map V.str))) s' → Same H H' → H' D = none → R (.done (.ret .none)) s') :
    wpAny (model X.prog X.w) X.A.in1.in1 (ksk_rest D (.ref f) false vs.toArray e1 (.ref K)) R E s := by
  have hlen : xs.length = vs.length := by
    have q := rv.length
    rw [List.length_map] at q
    exact q
  unfold ksk_rest
  refine wpAny_bind (wpAny_rule ?_)
  first
    | rw [List.forIn_toArray]
    | (rw [← Array.forIn_toList]; simp only [List.toList_toArray])
    | rw [← Array.forIn_toList]
  refine wpAny_bind (ksk_fold (fun i s' => ∃ (H' : Hp) (kA : Array Value) (ep : Nat), Inv X pins σ H' s' ∧ Same H H' ∧ H' D = none ∧ H' K = none ∧ H' f = none ∧ s'.heap.get? K = some (seqObj "list" kA ep) ∧ s'.heap.get? D = some (seqObj "list" #[] e1) ∧
      s'.heap.get? f = some fo ∧ PySem.W.EachIs (KeyAt H' key) kA.toList (xs.take i)) vs 0 s ⟨H, #[], 0, I, .refl H, nD, nK, nf, atK, atD, atf, by rw [List.take_zero]; exact .nil⟩ ?step ?done)
  case step =>
    rintro j v s' hv ⟨H', kA, ep, I', sm, mD, mK, mf, bK, bD, bf, hk⟩
    simp only [Nat.zero_add] at hk ⊢
    have hj : j < vs.length := (List.getElem?_eq_some_iff.mp hv).1
    obtain ⟨x, hx⟩ : ∃ x, xs[j]? = some x := ⟨_, List.getElem?_eq_getElem (by omega)⟩
    have hxm : x ∈ xs := List.mem_of_getElem? hx
    have rx : RelV (.str x) v := by
      obtain ⟨u, hu', ru⟩ := rv.get (i := j) (x := .str x) (by rw [List.getElem?_map, hx]; rfl)
      rw [hv] at hu'
      cases hu'
      exact ru
    have kz : kA.size ≤ vs.length := by
      have q := hk.length
      rw [Array.length_toList, List.length_take] at q
      omega
    have J : Inv X ((K, seqObj "list" kA ep) :: (D, seqObj "list" #[] e1) :: (f, fo) :: pins) σ H' s' := I'.pins_of fun p hp => by
      rcases List.mem_cons.mp hp with rfl | hp
      · exact ⟨bK, mK, oK.loc, oK.nofr, fun v z => by cases z⟩
      · rcases List.mem_cons.mp hp with rfl | hp
        · exact ⟨bD, mD, oD.loc, oD.nofr, fun v z => by cases z⟩
        · rcases List.mem_cons.mp hp with rfl | hp
          · exact ⟨bf, mf, fL, ff, fd⟩
          · exact I'.pin p (List.mem_append_right _ hp)
    refine wpAny_bind (wpAny_attempt (wpAny_mono (turn _ s' H' v x J sm bf hxm rx) (fun u s2 he => ?_) fun _ _ hF => hF.elim))
    obtain ⟨y, H2, J2, ry, t, rfl, sm2, ht⟩ := he
    obtain rfl : u = .ref t := ry
    try dsimp only
    have pK := J2.pin _ (List.mem_append_right _ (.head _))
    have pD := J2.pin _ (List.mem_append_right _ (.tail _ (.head _)))
    have pf := J2.pin _ (List.mem_append_right _ (.tail _ (.tail _ (.head _))))
    have J3 : Inv X pins σ H2 s2 := J2.pins_of fun p hp => J2.pin p (List.mem_append_right _ (.tail _ (.tail _ (.tail _ hp))))
    have hupd : ∃ ep', (s2.heap.update K (Obj.mapSeq (·.push (Value.ref t)))).get? K = some (seqObj "list" (kA.push (.ref t)) ep') := ⟨_, get?_update_seq pK.1 (·.push (Value.ref t))⟩
    obtain ⟨ep', hK'⟩ := hupd
    have other : ∀ b o, b ≠ K → s2.heap.get? b = some o → (s2.heap.update K (Obj.mapSeq (·.push (Value.ref t)))).get? b = some o := fun b o hb e => (Heap.get?_update_ne _ _ _ _ hb).trans e
    refine wpAny_bind (listUpdate_at pK.1 rfl ?_ (Nat.le_trans kz hz) (Nat.le_trans (Nat.le_of_eq (Array.size_push ..)) (Nat.succ_le_succ (Nat.le_trans kz hz))))
    refine wpAny_pure ⟨rfl, H2, kA.push (.ref t), ep', J3.turned (t' := s2.toks) other pK.2.1 oK.loc (.inr oK.new) oK.cells oK.pins, sm.trans sm2, pD.2.1, pK.2.1, pf.2.1, hK', other _ _ hDK.symm pD.1, other _ _ hfK pf.1, ?_⟩
    have ek : xs.take (j + 1) = xs.take j ++ [x] := by
      rw [List.take_add_one, hx]
      rfl
    have ea : (kA.push (Value.ref t)).toList = kA.toList ++ [.ref t] := by simp
    rw [ek, ea]
    exact PySem.W.each_snoc ⟨t, rfl, ht⟩ (hk.mono fun v x q => q.same sm2)
  case done =>
    rintro s' ⟨H', kA, ep, I', sm, mD, mK, mf, bK, bD, bf, hk⟩
    have e3 : xs.take (0 + vs.length) = xs := List.take_of_length_le (by omega)
    rw [e3] at hk
    have hr : PySem.W.EachIs (fun v d => ∃ as, Reads s'.heap v d as) kA.toList (xs.map (kdOf key)) := by
      have q : PySem.W.EachIs (fun v x => ∃ as, Reads s'.heap v (kdOf key x) as) kA.toList xs := hk.mono fun v x z => z.reads I'.hok
      exact PySem.W.each_map _ q
    have hsz : kA.size = vs.length := by
      have q := hk.length
      rw [Array.length_toList] at q
      omega
    try dsimp only
    refine wpAny_bind (listItems_at bK rfl ?_)
    have S : PySem.W.SortsAt X.prog X.w X.A.in1.in1 s' (PySem.W.dataKind s'.heap (xs.map (kdOf key))) kA.toList :=
      .data hr (kdOf_alike key xs) (kdOf_sortable key xs) fun d hd => by
        obtain ⟨x, _, rfl⟩ := List.mem_map.mp hd
        have h1 : (kdOf key x).depth = 1 := by simp [kdOf, PyData.depth, PyData.depthAll]
        rw [h1]
        show X.A.units + 1 + 1 + 1 < cLine
        omega
    refine PySem.W.keyH_end (b := false) (κ := PySem.W.dataKind s'.heap (xs.map (kdOf key))) (h₁ := PySem.W.hideAll s'.heap [K]) (fun b o _ e => PySem.W.of_hideAll [K] e) (PySem.W.hideAll_none [K] (.head _)) bK bD hDK S hsz hz fun h3 tk c k3 n3 => ?_
    have ko : PySem.W.KeyedOut false (xs.map (kdOf key)) vs (PySem.W.sortVals (PySem.W.dataKind s'.heap (xs.map (kdOf key))) false kA.toList vs) := ⟨s'.heap, kA.toList, kdOf_alike key xs, rfl, hr⟩
    have eo := PySem.W.keyedOut_each (kdOf key) ko (each_of_vals rv)
    have hout := vals_of_each eo
    refine done _ H' (inv_swap I' oD oK mD mK (fun b o h1 h2 e => k3 b o h1 (PySem.W.hideAll_get [K] e (by simpa using h2))) ⟨?_, _, c, hout, n3⟩) sm mD
    rw [List.length_map, srt_len, hlen]
    exact hz
end
end K21
/-! K21, the rule for sorted(e, key=lambda a: ..). -/
namespace K21
open PySem PySem.Spec PyProof.Rows L2 LamX

theorem ExtN.tuple {K : PySem.W.Frag} {H H' : Hp} {a : Addr} {xs : List V} (e : ExtN H H') (h : SqT K H a xs) : SqT K H' a xs := by
  rcases h with (h | ⟨o, h⟩) | h
  · exact .inl (.inl (e _ _ h fun ps z => by cases z))
  · exact .inl (.inr ⟨o, e _ _ h fun ps z => by cases z⟩)
  · exact .inr h
theorem ExtN.list {K : PySem.W.Frag} {H H' : Hp} {a : Addr} {xs : List V} (e : ExtN H H') (h : SqL K H a xs) : SqL K H' a xs := by
  rcases h with (h | ⟨o, h⟩) | h
  · exact .inl (.inl (e _ _ h fun ps z => by cases z))
  · exact .inl (.inr ⟨o, e _ _ h fun ps z => by cases z⟩)
  · exact .inr h

theorem lt_ne2 {n : Nat} : n + 2 ≠ n := by omega
theorem lt_ne3 {m n : Nat} (h : m < n) : m ≠ n + 2 := by omega

section
variable {X : Cx} {pins : List (Addr × Obj)} {σ : L2.St} {H : Hp} {s : Shared}
/-- sorted(t, key=f), t a tuple of texts -/
theorem sorted_call {l f : Addr} {fo : Obj} {xs : List Str} {key : Str → Int} {Q : VK} (I : Inv X pins σ H s) (hl : SqT X.K H l (xs.map V.str)) (hx : xs.length ≤ 1000) (atf : s.heap.get? f = some fo) (nf : H f = none) (ff : f ∉ X.fs) (fd : ∃ d, fo.data = .func d) (hu : X.A.units + 64 < cLine)
    (turn : ∀ (pins' : List (Addr × Obj)) (s' : Shared) (H' : Hp) (v : Value) (x : Str), Inv X pins' σ H' s' → Same H H' → s'.heap.get? f = some fo → x ∈ xs → RelV (.str x) v →
      wpAny (model X.prog X.w) X.A.in1.in1 (call (.ref f) [v]) (EP X pins' σ fun y H2 => ∃ t, y = .ref t ∧ Same H' H2 ∧ H2 t = some (.tup [.int (key x), .str x])) (fun _ _ => False) s')
    (q : ∀ (p : Addr) (H' : Hp), Same H H' → H p = none → H' p = some (.lst ((srt key xs).map V.str)) → Q (.ref p) H') :
    wpAny (model X.prog X.w) X.A (call (.builtin "sorted") [.ref l] [(Str.ofString "key", .ref f)]) (EP X pins σ Q) X.xe s := by
  obtain ⟨its, rv, ⟨o, ho, hc, n, hd⟩, hz⟩ := I.tuple hl
  obtain ⟨d, fd⟩ := fd
  have fL : f ≠ X.env.locals := fun z => by
    obtain ⟨m, ⟨o2, es, ep, h2, hd2, _⟩, _⟩ := I.loc
    rw [z, h2] at atf
    cases atf
    rw [hd2] at fd
    cases fd
  have zv : its.length ≤ sizeLine := by
    rw [← rv.length]
    exact hz
  refine call_function_entry_kw kind_sorted plain_sorted entry_sorted (PyProof.Rows.ksk_s1 _ _) ?_
  unfold Builtin.«sorted»
  refine wpAny_bind (m := checkCount "sorted" 1 1 _) (wpAny_pure ?_)
  refine wpAny_bind (wpAny_collect_seq l (.inr rfl) ho hc hd (fun h1 kp => ?_) (by rw [List.size_toArray]; exact zv))
  rw [List.toList_toArray]
  refine wpAny_bind (wpAny_newList ?_ zv)
  have I1 : Inv X pins σ H { s with heap := h1 } := I.kept (t' := s.toks) kp
  have ho1 : (h1.push (seqObj "list" its.toArray 0)).get? h1.objs.size = some (seqObj "list" its.toArray 0) := Heap.get?_push_size _ rfl
  refine wpAny_bind (wpAny_holding (wpAny_call_entry_kw PyProof.Rows.slot_list_sort ⟨_, ho1, rfl⟩ PyProof.Rows.entry_list_sort ?_ (PyProof.Rows.ksk_l1 _ _)))
  rw [PyProof.Rows.ksk_t1]
  unfold ksk_tree
  refine wpAny_bind (listItems_at ho1 rfl ?_)
  refine wpAny_bind (listUpdate_at ho1 rfl ?_ (by rw [List.size_toArray]; exact zv) (Nat.zero_le _))
  obtain ⟨e1, ho2⟩ : ∃ e1, ((h1.push (seqObj "list" its.toArray 0)).update h1.objs.size (Obj.mapSeq fun _ => (#[] : Array Value))).get? h1.objs.size = some (seqObj "list" #[] e1) := ⟨_, get?_update_seq ho1 fun _ => #[]⟩
  refine wpAny_bind (seqEpoch_at ho2 rfl ?_)
  refine wpAny_bind (wpAny_newTuple ?_ (by show its.length ≤ _; exact zv))
  refine wpAny_bind (wpAny_newList ?_ (Nat.zero_le _))
  refine wpAny_holding ?_
  have hsz : ((((h1.push (seqObj "list" its.toArray 0)).update h1.objs.size (Obj.mapSeq fun _ => (#[] : Array Value)))).push (seqObj "tuple" its.toArray 0)).objs.size = h1.objs.size + 2 := by
    rw [size_push', Heap.size_update, size_push']
  have old : ∀ b o, h1.get? b = some o → ((((h1.push (seqObj "list" its.toArray 0)).update h1.objs.size (Obj.mapSeq fun _ => (#[] : Array Value))).push (seqObj "tuple" its.toArray 0)).push (seqObj "list" #[] 0)).get? b = some o := fun b o e =>
    Heap.get?_push_of_some _ (Heap.get?_push_of_some _ ((Heap.get?_update_ne _ _ _ _ (Nat.ne_of_lt (Heap.lt_size e))).trans (Heap.get?_push_of_some _ e)))
  have lf : f < h1.objs.size := Heap.lt_size (kp _ _ atf)
  have I5 := I1.kept (t' := s.toks) old
  refine krest (X := X) (pins := pins) (σ := σ) (H := H) (D := h1.objs.size) (K := ((((h1.push (seqObj "list" its.toArray 0)).update h1.objs.size (Obj.mapSeq fun _ => (#[] : Array Value)))).push (seqObj "tuple" its.toArray 0)).objs.size) I5 (Inv.own I1 (Nat.le_refl _))
    (Inv.own I1 (by rw [hsz]; show h1.objs.size ≤ h1.objs.size + 2; omega)) (by rw [hsz]; exact lt_ne2) (Nat.ne_of_lt lf) (by rw [hsz]; exact lt_ne3 lf) (I1.hok.fresh (Nat.le_refl _)) (I1.hok.fresh (by rw [hsz]; show h1.objs.size ≤ h1.objs.size + 2; omega))
    (Heap.get?_push_of_some _ (Heap.get?_push_of_some _ ho2)) (Heap.get?_push_size _ rfl) (old _ _ (kp _ _ atf)) nf fL ff (fun v z => by rw [fd] at z; cases z) rv zv hu turn fun s' H' J sm nD => ?_
  refine ⟨_, rfl, wpAny_pure ⟨_, rfl, .ref h1.objs.size, _, J, rfl, ?_⟩⟩
  refine q _ _ (fun b o e => ?_) (sm.free nD) upd_same
  rw [upd_ne (ne_of_none (sm _ _ e) nD)]
  exact sm _ _ e
end
end K21
/-! K21, sorted(e, key=lambda a: ..) as a rule of the layer. -/
namespace K21
open PySem PySem.Spec PyProof.Rows L2 LamX

/-- what it asks: the tables, a tuple of texts; for each text the lambda's body gives the pair (key, text); then what follows with the sorted list -/
def tSK (K : PySem.W.Frag) (T : List (Addr × Str)) (ta : TA) (tb : TE) : TE := fun σ H Q => ta σ H fun vs H1 => Tabs T H1 ∧ ∃ (b : Addr) (xs : List Str) (key : Str → Int), vs = [.ref b] ∧ SqT K H1 b (xs.map V.str) ∧ xs.length ≤ 1000 ∧
  (∀ x ∈ xs, ∀ (H' : Hp) (Q' : VK), ExtN H1 H' → (∀ (t : Addr) (H2 : Hp), Same H' H2 → H2 t = some (.tup [.int (key x), .str x]) → Q' (.ref t) H2) → tb (σ ++ [some (.str x)]) H' Q') ∧
  ∀ (p : Addr) (H' : Hp), ExtN H1 H' → Tabs T H' → H' p = some (.lst ((srt key xs).map V.str)) → Q (.ref p) H'

theorem pe_sortedLam {X : Cx} {T : List (Addr × Str)} {c P : Addr} {k : Nat} {e : Expr} {ta : TA} {tb : TE} {p lpos kpos pos : Pos} {params : Arguments} {body : Expr} {scope : Scope} {a : Str}
    (hg : Gl X "sorted") (hm : X.mg "sorted" = none) (ha : PA X [e] ta) (TB : TabB X.base X.mg c P) (hcode : X.env.code = .ref c) (hmT : (P, X.env.qual ++ "<lambda>") ∈ T) (hu : ∀ p ∈ T, p.1 = P → p.2 = X.env.qual ++ "<lambda>")
    (hr : Room (k + 3) X.A) (L : Lam1 X.env.scope scope a) (na : a ∉ X.N) (hdef : defaultsOf params X.env = ([], []))
    (hbind : ∀ (q : Str) (cl : List (Str × Addr)) (pm cv ctv w : Value), bindArgs (PySem.W.kla_fn "<lambda>" q params body scope cl pm cv ctv) ⟨[w], []⟩ = pure [(a, w)])
    (hbody : ∀ (A : Around) (s : Shared) (H : Hp) (f c' : Addr), Room k (A.deeper (lamEnv X scope s.heap.objs.size f c')) → PE (lamC X A s H scope a f c') body tb)
    (he : backTo pos (starEach [e] X.env) = (false, eval e X.env) :: backTo pos (starEach [] X.env) := by rfl) (hpl : (backTo pos (starEach [e] X.env)).any (·.1) = false := by rfl) :
    PE X (.Call (.Name "sorted" p) [e] [⟨some "key", .Lambda params body scope lpos, kpos⟩] pos) (tSK X.K T ta tb) := by
  refine ⟨fun pins s σ H Q I h => ?_⟩
  refine wpAny_Call_Name_kw (ld_blt I hg hm (by first | rfl | decide +kernel) ?_ (by decide) (by decide))
  refine PyProof.Rows.callWith_kw (thn (ha.run pos pins s σ H _ I h) fun us s1 ⟨vs, H1, I1, r1, q1⟩ => ?_) he hpl (by rfl) (by rfl)
  obtain ⟨hT, b, xs, key, rfl, hb, hx, hturn, hq⟩ := q1
  obtain rfl := Vals.ref1 r1
  show wpAny _ _ (evalAll ((do let v ← eval (.Lambda params body scope lpos) X.env; standAt pos; pure v) :: [])) _ _ s1
  refine wpAny_evalAll_cons (wpAny_bind (lam_make2 I1 TB hcode hmT hu hT hdef (L.has I1.ok) fun f c' pm ctv H2 s2 I2 eN T2 of2 nf nff hco => wpAny_bind (wpAny_standAt (wpAny_pure (wpAny_evalAll_nil ?_)))))
  show wpAny _ _ (call (.builtin "sorted") [.ref b] [(Str.ofString "key", .ref f)]) _ _ s2
  have ff : f ∉ X.fs := fun z => by
    rcases I2.ok.stk with w | ⟨w, hw⟩
    · rw [w] at nff
      exact nff z
    · rw [w] at nff
      refine nff ?_
      unfold frs
      rw [List.filterMap_cons, hw]
      exact List.mem_cons_of_mem _ z
  refine sorted_call (key := key) I2 (ExtN.tuple eN hb) hx of2 nf ff ⟨_, rfl⟩ hr.units (fun pins' s' H' v x J sm bf hxm rx => ?_) fun p H' sm _ hp => hq p H' (ExtN.trans eN (.of sm)) (T2.ext sm) hp
  exact lam_call (k := k) J L na J.env0.in1.in1 hr.in1.in1 bf (sm _ _ hco) (fun w => hbind _ _ _ _ _ w) (hbody _ _ _ _ _ (hr.in1.in1.deeper _)) rx (hturn x hxm H' _ (eN.trans (.of sm)) fun t H3 sm3 ht => ⟨t, rfl, sm3, ht⟩)
end K21
/-! K21, the program's two defs: rank and order. -/
namespace K21
open PySem PySem.Spec PyProof.Rows L2 LamX

/-! ### the text by places -/
def top (i : Nat) : Stmt := PySem.Challenge.pw_lasttext_k21_whole_orders_keep_the_other.main.body.getD i (.Pass ⟨0, 0, 0, 0⟩)
abbrev sRank : Stmt := top 2
abbrev sOrder : Stmt := top 3

section
variable {P : Program} {w : World} {K : PySem.W.Frag} {mg : Str → Option Value} {base : Heap}
/-! ### rank -/
def spRank : Sp := fun vs H Q _ => ∃ (s r : Int) (x : Str), vs = [.int s, .int r, .str x] ∧ Q (.int (rk s r x)) H
theorem scRank : FnScope ["seed", "round_number", "name", "value", "char"] ["seed", "round_number", "name"] (defScope sRank) := ⟨rfl, rfl, rfl, by decide +kernel, rfl, by decide +kernel, by decide +kernel⟩
theorem fold_next {x : Str} {i : Nat} {c : Nat} {v : Int} (h : x.cps[i]? = some c) : rkStep (rkFold v (x.cps.toList.take i)) c = rkFold v (x.cps.toList.take (i + 1)) := by
  have h' : x.cps.toList[i]? = some c := by rw [Array.getElem?_toList]; exact h
  rw [List.take_add_one, h']
  show _ = ((x.cps.toList.take i) ++ [c]).foldl rkStep v
  rw [List.foldl_append]
  rfl
theorem ok_rank {f : Addr} {fd : FuncData} (F : Fun K "rank" "rank" sRank f fd) (mM : ∃ t, mg "MODULUS" = some (.int 1000003 t)) (mO : mg "ord" = none) : FnOk P w K mg base CX0 1 f fd ["seed", "round_number", "name"] spRank := by
  obtain ⟨tM, mM⟩ := mM
  refine F.ok scRank (fun vs H Q E h => ?_) (fun cdv A outer s H vs Q E hr h => ?_)
  · obtain ⟨s, r, x, rfl, _⟩ := h
    rfl
  · obtain ⟨z, r, x, rfl, k⟩ := h
    refine ⟨_, pss_cons (ps_set (i := 3) scRank.nd rfl (Or.inl rfl) (pe_op op_mod (pe_op op_add (pe_op op_add (pe_op op_mul (pv 0) pe_int) (pe_op op_mul (pv 1) pe_int)) pe_int) (pe_glob rfl mM (v := .int 1000003) ⟨_, rfl⟩)))
      (pss_cons (ps_for PassesOwn.never rfl (pi_str (pv 2)) (pg_name (i := 4) scRank.nd rfl (Or.inl rfl))
        (pss_one (ps_set (i := 3) scRank.nd rfl (Or.inl rfl) (pe_op op_mod (pe_op op_add (pe_op op_add (pe_op op_mul (pv 3) pe_int) (pe_callB call_ord (by rfl) mO (by decide +kernel) (pa_cons (pv 4) pa_nil))) pe_int) (pe_glob rfl mM (v := .int 1000003) ⟨_, rfl⟩)))))
      (pss_one (ps_ret (pe_op op_mod (pe_op op_add (pe_op op_add (pe_op op_mul (pv 3) (pv 3)) (pe_op op_mul pe_int (pv 3))) pe_int) (pe_glob rfl mM (v := .int 1000003) ⟨_, rfl⟩))))), ?_⟩
    refine ⟨_, rfl, _, _, rfl, rfl, .inr ⟨by decide, by decide⟩, _, rfl, _, _, rfl, rfl, .inr ⟨by decide, by decide⟩, _, _, rfl, rfl, _, _, rfl, rfl, _, _, rfl, rfl, (by show (0 : Int) < 1000003; decide), ?_⟩
    refine ⟨_, rfl, x, rfl, for_it walk_str (fun i σ H' => H' = H ∧ ∃ (v : Option V), σ = [some (.int z), some (.int r), some (.str x), some (.int (rkFold (rkHead z r) (x.cps.toList.take i))), v]) ⟨rfl, _, rfl⟩ (fun _ _ _ _ _ => trivial) ?_ ?_⟩
    · rintro i y σ H1 H2 hi ⟨rfl, v, rfl⟩ ⟨rfl, c, hc, rfl⟩
      refine ⟨_, rfl, _, _, rfl, rfl, .inr ⟨by decide, by decide⟩, _, rfl, _, rfl, rfl, _, _, rfl, rfl, _, _, rfl, rfl, _, _, rfl, rfl, (by show (0 : Int) < 1000003; decide), rfl, ?_⟩
      refine ⟨some (.str ⟨#[c]⟩), ?_⟩
      have e : rkFold (rkHead z r) (x.cps.toList.take (i + 1)) = (rkFold (rkHead z r) (x.cps.toList.take i) * 131 + ((#[c].getD 0 0 : Nat) : Int) + 7) % 1000003 := (fold_next hc).symm
      rw [e]
      rfl
    · rintro σ H1 ⟨rfl, v, rfl⟩
      have e : x.cps.toList.take x.cps.size = x.cps.toList := List.take_of_length_le (by simp)
      rw [e]
      have hb : 0 ≤ rkFold (rkHead z r) x.cps.toList ∧ rkFold (rkHead z r) x.cps.toList < 1000003 := rkFold_bound _ _ (modB _)
      refine ⟨_, rfl, _, rfl, _, _, rfl, rfl, .inl ⟨by omega, by omega⟩, _, rfl, _, _, rfl, rfl, .inl ⟨by decide, by decide⟩, _, _, rfl, rfl, _, _, rfl, rfl, _, _, rfl, rfl, (by show (0 : Int) < 1000003; decide), ?_⟩
      exact k
end
end K21
/-! K21, order. -/
namespace K21
open PySem PySem.Spec PyProof.Rows L2 LamX

def lam1B (sc scope : Scope) (a : Str) : Bool :=
  decide (scope.kind = .function) && !scope.isCoroutine && !scope.isGenerator && decide (scope.names.lookup a = some .local) &&
    scope.names.all fun y => !decide (y.2 = .cell) && (!decide (y.2 = .local) || decide (y.1 = a)) && (!decide (y.2 = .free) || decide (sc.names.lookup y.1 = some .cell))
theorem lam1_by {sc scope : Scope} {a : Str} (h : lam1B sc scope a = true) : Lam1 sc scope a := by
  unfold lam1B at h
  simp only [Bool.and_eq_true, Bool.or_eq_true, Bool.not_eq_true', decide_eq_true_eq, decide_eq_false_iff_not, List.all_eq_true] at h
  obtain ⟨⟨⟨⟨h1, h2⟩, h3⟩, h4⟩, h5⟩ := h
  refine ⟨h1, h2, h3, fun y hy => (h5 y hy).1.1, fun y hy e => ?_, h4, fun y hy e => ?_⟩
  · rcases (h5 y hy).1.2 with z | z
    · exact absurd e z
    · exact z
  · rcases (h5 y hy).2 with z | z
    · exact absurd e z
    · exact z

section
variable {P : Program} {w : World} {K : PySem.W.Frag} {mg : Str → Option Value} {base : Heap}
/-- the name that the lambda's code object bears -/
def qLam : Str := ("order" : Str) ++ ".<locals>." ++ "<lambda>"
abbrev psOrd : List Str := ["seed", "round_number", "names"]
def spOrder (K : PySem.W.Frag) (T : List (Addr × Str)) : Sp := fun vs H Q _ => ∃ (s r : Int) (b : Addr) (xs : List Str), vs = [.int s, .int r, .ref b] ∧ SqT K H b (xs.map V.str) ∧ xs.length ≤ 1000 ∧ Tabs T H ∧
  ∀ (p : Addr) (H' : Hp), ExtN H H' → Tabs T H' → H' p = some (.tup ((ordL s r xs).map V.str)) → Q (.ref p) H'
theorem scOrd : FnScope psOrd psOrd (defScope sOrder) := ⟨rfl, rfl, rfl, by decide +kernel, rfl, by decide +kernel, by decide +kernel⟩
theorem ok_order {f fR c P' : Addr} {fdR : FuncData} {od an : Option Addr} {osl : Array (Option Value)} {oc kV dc pm ct : Value}
    (lk : K.lookup f = some ⟨oc, od, .func (PySem.W.fnOf "order" "order" (defArgs sOrder) (defBody sOrder) (defScope sOrder) .none kV dc pm an (.ref c) ct), osl⟩) (hcd : PySem.W.codeIn K (.ref c) "order" = true) (TB : TabB base mg c P')
    (R : FnOk P w K mg base CX0 1 fR fdR ["seed", "round_number", "name"] spRank) (mR : mg "rank" = some (.ref fR)) (kR : PySem.W.keepIn K (.ref fR) = true) (bR : Binds K fdR ["seed", "round_number", "name"] []) (mS : mg "sorted" = none) (mT : mg "tuple" = none) :
    FnOk P w K mg base CX0 5 f (PySem.W.fnOf "order" "order" (defArgs sOrder) (defBody sOrder) (defScope sOrder) .none kV dc pm an (.ref c) ct) psOrd (spOrder K [(P', qLam)]) := by
  refine fn_of lk hcd scOrd (fun vs H Q E h => ?_) (fun A outer s H vs Q E hr h => ?_)
  · obtain ⟨s, r, b, xs, rfl, _⟩ := h
    rfl
  · obtain ⟨z, r, b, xs, rfl, hb, hx, hT, k⟩ := h
    refine ⟨_, pss_one (ps_ret (pe_callTy call_tuple_of (by rfl) mT (by decide +kernel) (pa_cons (pe_sortedLam (T := [(P', qLam)]) (c := c) (P := P') (k := 1) (a := "name") (by rfl) mS (pa_cons (pv 2) pa_nil) TB rfl (.head _) (fun p hp _ => by
        obtain rfl := List.mem_singleton.mp hp
        rfl) hr (lam1_by (sc := defScope sOrder) (by decide +kernel)) (show ("name" : Str) ∉ psOrd by decide +kernel) rfl (fun _ _ _ _ _ _ => rfl)
        (fun A s H f c' hr' => pe_tup (pa_cons (pe_call R hr' (by rfl) mR kR bR .nil pass0 (pa_cons (pv 0) (pa_cons (pv 1) (pa_cons (pv 3) pa_nil)))) (pa_cons (pv 3) pa_nil)))) pa_nil))), ?_⟩
    refine ⟨_, rfl, hT, b, xs, rk z r, rfl, hb, hx, fun x _ H' Q' e hq => ?_, fun p H' e T' hp => ?_⟩
    · refine ⟨_, rfl, _, rfl, _, rfl, z, r, x, rfl, _, rfl, by show 2 ≤ sizeLine; decide, fun t ht => ?_⟩
      exact hq t _ (fun b o q => (upd_ne (ne_of_none q ht)).trans q) upd_same
    · refine ⟨p, _, rfl, .inl ⟨SqL.of hp, fun l hl => k l _ (ExtN.trans e (.of fun b o q => (upd_ne (ne_of_none q hl)).trans q)) (T'.ext fun b o q => (upd_ne (ne_of_none q hl)).trans q) upd_same⟩⟩
end
end K21
/-! K21, the draws: the state list, _law_pick. -/
namespace K21
open PySem PySem.Spec PyProof.Rows L2 LamX

abbrev sPick : Stmt := top 5
/-- the state of the draws stands at st -/
def StAt (H : Hp) (st : Addr) : Prop := ∃ p q r z : Int, H st = some (.lst [.int p, .int q, .int r, .int z]) ∧ 0 ≤ p ∧ 0 ≤ q ∧ 0 ≤ r ∧ r < 2147483647
/-- all that was tracked but the state stays -/
structure Nx (st : Addr) (H H' : Hp) : Prop where
  keep : ∀ b o, b ≠ st → H b = some o → H' b = some o
  st : StAt H' st
theorem Nx.trans {st : Addr} {H H1 H2 : Hp} (a : Nx st H H1) (b : Nx st H1 H2) : Nx st H H2 := ⟨fun c o n e => b.keep c o n (a.keep c o n e), b.st⟩
theorem Nx.put {st : Addr} {H : Hp} {p q r z : Int} (h1 : 0 ≤ p) (h2 : 0 ≤ q) (h3 : 0 ≤ r) (h4 : r < 2147483647) : Nx st H (upd H st (.lst [.int p, .int q, .int r, .int z])) :=
  ⟨fun _ _ n e => (upd_ne n).trans e, p, q, r, z, upd_same, h1, h2, h3, h4⟩
theorem Nx.refl {st : Addr} {H : Hp} (h : StAt H st) : Nx st H H := ⟨fun _ _ _ e => e, h⟩
theorem Nx.new {st a : Addr} {H H1 : Hp} {o : HO} (n : Nx st H H1) (ha : H1 a = none) : Nx st H (upd H1 a o) := by
  obtain ⟨p, q, r, z, e, h⟩ := n.st
  exact ⟨fun b u nb e => (upd_ne (ne_of_none (n.keep b u nb e) ha)).trans (n.keep b u nb e), p, q, r, z, (upd_ne (ne_of_none e ha)).trans e, h⟩
/-- the script at sc is read, and it is not the state -/
def Scr (K : PySem.W.Frag) (H : Hp) (st sc : Addr) (ns : List Int) : Prop := ns.length ≤ 63 ∧ ∃ H0, SqL K H0 sc (ns.map V.int) ∧ ∀ b o, H0 b = some o → (∀ ps, o ≠ .tbl ps) → b ≠ st ∧ H b = some o
theorem Scr.seq {K : PySem.W.Frag} {H : Hp} {st sc : Addr} {ns : List Int} (h : Scr K H st sc ns) : SqL K H sc (ns.map V.int) := by
  obtain ⟨_, H0, h1, h2⟩ := h
  exact ExtN.list (H := H0) (fun b o e n => (h2 b o e n).2) h1
theorem Scr.nx {K : PySem.W.Frag} {H H' : Hp} {st sc : Addr} {ns : List Int} (h : Scr K H st sc ns) (n : Nx st H H') : Scr K H' st sc ns := by
  obtain ⟨h0, H0, h1, h2⟩ := h
  exact ⟨h0, H0, h1, fun b o e q => ⟨(h2 b o e q).1, n.keep _ _ (h2 b o e q).1 (h2 b o e q).2⟩⟩
theorem Scr.ext {K : PySem.W.Frag} {H H' : Hp} {st sc : Addr} {ns : List Int} (h : Scr K H st sc ns) (n : ExtN H H') : Scr K H' st sc ns := by
  obtain ⟨h0, H0, h1, h2⟩ := h
  exact ⟨h0, H0, h1, fun b o e q => ⟨(h2 b o e q).1, n _ _ (h2 b o e q).2 q⟩⟩

section
variable {P : Program} {w : World} {K : PySem.W.Frag} {mg : Str → Option Value} {base : Heap}
abbrev psPick : List Str := ["_law_state", "_law_script", "_law_many"]
def spPick (K : PySem.W.Frag) : Sp := fun vs H Q _ => ∃ (st sc : Addr) (m : Int) (ns : List Int), vs = [.ref st, .ref sc, .int m] ∧ StAt H st ∧ Scr K H st sc ns ∧ 0 < m ∧ m < 1073741824 ∧
  ∀ (n : Int) (H' : Hp), 0 ≤ n → n < m → Nx st H H' → Q (.int n) H'
theorem scPick : FnScope ["_law_state", "_law_script", "_law_many", "_law_number", "_law_place", "_law_cell"] psPick (defScope sPick) := ⟨rfl, rfl, rfl, by decide +kernel, rfl, by decide +kernel, by decide +kernel⟩
theorem emod_in {a m : Int} (h : 0 < m) : 0 ≤ a % m ∧ a % m < m := ⟨Int.emod_nonneg _ (by omega), Int.emod_lt_of_pos _ h⟩
theorem sq_ok {v : Int} (h : 0 ≤ v ∧ v < 2147483647) : CMul v v := .inl ⟨by omega, by omega⟩
theorem abs_in (i : Int) : 0 ≤ (if i < 0 then -i else i) := by split <;> omega
theorem ok_pick {f : Addr} {fd : FuncData} (F : Fun K "_law_pick" "_law_pick" sPick f fd) (mI : mg "int" = none) (mL : mg "len" = none) (mA : mg "abs" = none) : FnOk P w K mg base CX0 1 f fd psPick (spPick K) := by
  refine F.ok scPick (fun vs H Q E h => ?_) (fun cdv A outer s H vs Q E hr h => ?_)
  · obtain ⟨st, sc, m, ns, rfl, _⟩ := h
    rfl
  · obtain ⟨st, sc, m, ns, rfl, ⟨p, q, r, z, hS, p0, q0, r0, r1⟩, hC, m0, m1, k⟩ := h
    have hsc := hC.seq
    have hn := hC.1
    refine ⟨_, pss_cons (ps_if (pt_cmpR op_gt (pe_ix ix_list (pv 0) pe_int (fun _ _ => rfl)) pe_int (nomark _))
        (pss_cons (ps_set (i := 3) scPick.nd rfl (Or.inl rfl) (pe_op op_mod (pe_callTy call_int1 (by rfl) mI (by decide +kernel) (pa_cons (pe_ix ix_list (pv 0) pe_int (fun _ _ => rfl)) pa_nil)) (pv 2)))
        (pss_cons (ps_asg (pe_op op_fdiv (pe_ix ix_list (pv 0) pe_int (fun _ _ => rfl)) (pv 2)) (pg_sub (pv 0) pe_int set_list)) (pss_one (ps_ret (pv 3))))) pss_nil)
      (pss_cons (ps_set (i := 4) scPick.nd rfl (Or.inl rfl) (pe_ix ix_list (pv 0) pe_int (fun _ _ => rfl)))
      (pss_cons (ps_asg (pe_op op_add (pv 4) pe_int) (pg_sub (pv 0) pe_int set_list))
      (pss_cons (ps_if (pt_cmpR op_lt (pv 4) (pe_callB call_len_seq (by rfl) mL PySem.boot_len (pa_cons (pv 1) pa_nil)) (nomark _))
        (pss_cons (ps_set (i := 5) scPick.nd rfl (Or.inl rfl) (pe_callB call_abs (by rfl) mA (by decide +kernel) (pa_cons (pe_callTy call_int1 (by rfl) mI (by decide +kernel) (pa_cons (pe_ix ix_list (pv 1) (pv 4) (fun _ _ => rfl)) pa_nil)) pa_nil)))
        (pss_cons (ps_if (pt_cmpR op_ge (pv 5) (pe_op op_pow pe_int pe_int) (nomark _))
          (pss_cons (ps_asg (pe_op op_fdiv (pv 5) (pv 2)) (pg_sub (pv 0) pe_int set_list))
          (pss_one (ps_ret (pe_op op_mod (pe_callTy call_int1 (by rfl) mI (by decide +kernel) (pa_cons (pv 5) pa_nil)) (pv 2))))) pss_nil)
        (pss_one (ps_asg (pe_op op_mod (pe_callTy call_int1 (by rfl) mI (by decide +kernel) (pa_cons (pe_op op_add (pe_op op_add (pe_op op_mul (pe_ix ix_list (pv 0) pe_int (fun _ _ => rfl)) pe_int) (pe_op op_mul (pv 5) pe_int)) pe_int) pa_nil)) pe_int) (pg_sub (pv 0) pe_int set_list))))) pss_nil)
      (pss_cons (ps_asg (pe_op op_mod (pe_callTy call_int1 (by rfl) mI (by decide +kernel) (pa_cons (pe_op op_add (pe_op op_add (pe_op op_mul (pe_ix ix_list (pv 0) pe_int (fun _ _ => rfl)) pe_int) (pe_op op_mul pe_int (pv 4))) pe_int) pa_nil)) pe_int) (pg_sub (pv 0) pe_int set_list))
      (pss_one (ps_ret (pe_op op_mod (pe_callTy call_int1 (by rfl) mI (by decide +kernel) (pa_cons (pe_op op_fdiv (pe_op op_mul (pe_ix ix_list (pv 0) pe_int (fun _ _ => rfl)) (pe_ix ix_list (pv 0) pe_int (fun _ _ => rfl))) pe_int) pa_nil)) (pv 2)))))))), ?_⟩
    refine ⟨_, rfl, st, _, _, _, rfl, rfl, SqL.of hS, rfl, _, _, rfl, rfl, _, rfl, ?_⟩
    refine ite2 (fun hq => ?_) (fun hq => ?_)
    · refine ⟨_, rfl, st, _, _, _, rfl, rfl, SqL.of hS, rfl, .inl ⟨_, rfl, _, rfl, _, _, rfl, rfl, m0, ?_⟩⟩
      refine ⟨_, rfl, st, _, _, _, rfl, rfl, SqL.of hS, rfl, _, rfl, _, _, rfl, rfl, ⟨m0, m1⟩, _, rfl, st, _, _, 1, rfl, rfl, hS, rfl, ?_⟩
      refine ⟨_, rfl, ?_⟩
      exact k _ _ (emod_in m0).1 (emod_in m0).2 (Nx.put p0 (Int.ediv_nonneg q0 (by omega)) r0 r1)
    · -- place = state[0]; state[0] = place + 1
      refine ⟨_, rfl, st, _, _, _, rfl, rfl, SqL.of hS, rfl, ?_⟩
      refine ⟨_, rfl, _, _, rfl, rfl, _, rfl, st, _, _, 0, rfl, rfl, hS, rfl, ?_⟩
      have p1 : 0 ≤ p + 1 := by omega
      have hsc1 := (hC.nx (Nx.put (z := z) p1 q0 r0 r1)).seq
      refine ⟨_, rfl, _, rfl, sc, _, rfl, .inl hsc1, _, _, rfl, rfl, _, rfl, ?_⟩
      refine ite2 (fun hlt => ?_) (fun hge => ?_)
      · have hp : p.toNat < ns.length := by
          have q := of_decide_eq_true hlt
          rw [List.length_map] at q
          omega
        obtain ⟨u, hu⟩ : ∃ u, ns[p.toNat]? = some u := ⟨_, List.getElem?_eq_getElem hp⟩
        refine ⟨_, rfl, _, rfl, sc, _, _, .int u, rfl, rfl, hsc1, at_of (j := p.toNat) (by omega) (by rw [List.getElem?_map, hu]; rfl), .inl ⟨_, rfl, _, rfl, ?_⟩⟩
        refine ⟨_, rfl, _, _, rfl, rfl, ⟨by decide, by decide, by decide⟩, _, _, rfl, rfl, _, rfl, ?_⟩
        refine ite2 (fun _ => ?_) (fun _ => ?_)
        · refine ⟨_, rfl, _, rfl, _, _, rfl, rfl, ⟨m0, m1⟩, _, rfl, st, _, _, 1, rfl, rfl, upd_same, rfl, ?_⟩
          refine ⟨_, rfl, .inl ⟨_, rfl, _, rfl, _, _, rfl, rfl, m0, ?_⟩⟩
          rw [upd_upd]
          exact k _ _ (emod_in m0).1 (emod_in m0).2 (Nx.put p1 (Int.ediv_nonneg (abs_in u) (by omega)) r0 r1)
        · have two : (0 : Int) < 2147483563 := by decide
          refine ⟨_, rfl, st, _, _, _, rfl, rfl, SqL.of upd_same, rfl, _, _, rfl, rfl, .inr ⟨by decide, by decide⟩, _, rfl, _, _, rfl, rfl, .inr ⟨by decide, by decide⟩, _, _, rfl, rfl, _, _, rfl, rfl, .inl ⟨_, rfl, _, _, rfl, rfl, two, _, rfl, st, _, _, 2, rfl, rfl, upd_same, rfl, ?_⟩⟩
          rw [upd_upd]
          have five : (0 : Int) < 2147483647 := by decide
          refine ⟨_, rfl, st, _, _, _, rfl, rfl, SqL.of upd_same, rfl, _, _, rfl, rfl, .inr ⟨by decide, by decide⟩, _, rfl, _, _, rfl, rfl, .inl ⟨by decide, by decide⟩, _, _, rfl, rfl, _, _, rfl, rfl, .inl ⟨_, rfl, _, _, rfl, rfl, five, _, rfl, st, _, _, 2, rfl, rfl, upd_same, rfl, ?_⟩⟩
          rw [upd_upd]
          refine ⟨_, rfl, st, _, _, _, rfl, rfl, SqL.of upd_same, rfl, _, rfl, st, _, _, _, rfl, rfl, SqL.of upd_same, rfl, _, _, rfl, rfl, sq_ok (emod_in five), _, _, rfl, rfl, ⟨by decide, by decide⟩, .inl ⟨_, rfl, _, rfl, _, _, rfl, rfl, m0, ?_⟩⟩
          exact k _ _ (emod_in m0).1 (emod_in m0).2 (Nx.put p1 q0 (emod_in five).1 (emod_in five).2)
      · have five : (0 : Int) < 2147483647 := by decide
        refine ⟨_, rfl, st, _, _, _, rfl, rfl, SqL.of upd_same, rfl, _, _, rfl, rfl, .inr ⟨by decide, by decide⟩, _, rfl, _, _, rfl, rfl, .inl ⟨by decide, by decide⟩, _, _, rfl, rfl, _, _, rfl, rfl, .inl ⟨_, rfl, _, _, rfl, rfl, five, _, rfl, st, _, _, 2, rfl, rfl, upd_same, rfl, ?_⟩⟩
        rw [upd_upd]
        refine ⟨_, rfl, st, _, _, _, rfl, rfl, SqL.of upd_same, rfl, _, rfl, st, _, _, _, rfl, rfl, SqL.of upd_same, rfl, _, _, rfl, rfl, sq_ok (emod_in five), _, _, rfl, rfl, ⟨by decide, by decide⟩, .inl ⟨_, rfl, _, rfl, _, _, rfl, rfl, m0, ?_⟩⟩
        exact k _ _ (emod_in m0).1 (emod_in m0).2 (Nx.put p1 q0 (emod_in five).1 (emod_in five).2)
end
end K21
/-! K21, what is drawn: a name, a new name, the names, a seed, a round. -/
namespace K21
open PySem PySem.Spec PyProof.Rows L2 LamX

abbrev sName : Stmt := top 6
abbrev sNew : Stmt := top 7
abbrev sNames : Stmt := top 9
abbrev sSeed : Stmt := top 10
abbrev sRound : Stmt := top 11

theorem Nx.own {st a : Addr} {H H1 : Hp} {o : HO} (n : Nx st H H1) (ha : H a = none) (ne : a ≠ st) : Nx st H (upd H1 a o) := by
  obtain ⟨p, q, r, z, e, h⟩ := n.st
  exact ⟨fun b u nb e => (upd_ne (ne_of_none e ha)).trans (n.keep b u nb e), p, q, r, z, (upd_ne ne.symm).trans e, h⟩
theorem StAt.ne {st a : Addr} {H : Hp} (h : StAt H st) (ha : H a = none) : a ≠ st := by
  obtain ⟨p, q, r, z, e, _⟩ := h
  exact (ne_of_none e ha).symm
/-- a text of code points -/
def OkT (x : Str) : Prop := ∀ c ∈ x.cps.toList, c < 0x110000
theorem OkT.ok {x : Str} (h : OkT x) : PyData.strOk x = true := by
  unfold PyData.strOk
  rw [← Array.all_toList, List.all_eq_true]
  exact fun c hc => decide_eq_true (h c hc)
theorem OkT.app {x y : Str} (h1 : OkT x) (h2 : OkT y) : OkT (x ++ y) := fun c hc => by
  rw [PySem.Str.cps_append, Array.toList_append] at hc
  rcases List.mem_append.mp hc with z | z
  · exact h1 c z
  · exact h2 c z
theorem OkT.sign {c : Nat} (h : c < 0x110000) : OkT ⟨#[c]⟩ := fun d hd => by
  obtain rfl := List.mem_singleton.mp (show d ∈ [c] from hd)
  exact h
theorem OkT.cut {x : Str} (h : OkT x) (lo hi : Option Int) : OkT (cutS x lo hi) := fun c hc => by
  unfold cutS at hc
  rw [List.toList_toArray] at hc
  exact h c (List.mem_of_mem_drop (List.mem_of_mem_take hc))
theorem char_lt (c : Char) : c.toNat < 0x110000 := by
  have h := c.valid
  rcases h with h | h
  · exact Nat.lt_trans h (by decide)
  · exact h.2
theorem OkT.num (m : Nat) : OkT (Str.ofString (toString ((m : Nat) : Int))) := fun c hc => by
  rw [PySem.W.KIN.signs_num] at hc
  obtain ⟨d, _, rfl⟩ := List.mem_map.mp hc
  exact char_lt d
theorem sign_at {x : Str} {n : Int} {k : Nat} (h0 : 0 ≤ n) (h1 : n < (k : Nat)) (hk : x.cps.toList.length = k) (ok : OkT x) : ∃ c, atI x.cps.toList n = some c ∧ c < 0x110000 := by
  have hlt : n.toNat < x.cps.toList.length := by omega
  have e : n = ((n.toNat : Nat) : Int) := by omega
  rw [e]
  exact ⟨_, atI_nat (List.getElem?_eq_getElem hlt), ok _ (List.getElem_mem hlt)⟩
theorem flat_strs : ∀ xs : List Str, (xs.map V.str).all flatV = true
  | [] => rfl
  | _ :: r => by
    rw [List.map_cons, List.all_cons, flat_strs r]
    rfl

section
variable {P : Program} {w : World} {K : PySem.W.Frag} {mg : Str → Option Value} {base : Heap}
abbrev psTwo : List Str := ["_law_state", "_law_script"]
/-! ### a name -/
def spName (K : PySem.W.Frag) : Sp := fun vs H Q _ => ∃ (st sc : Addr) (ns : List Int), vs = [.ref st, .ref sc] ∧ StAt H st ∧ Scr K H st sc ns ∧ ∀ (x : Str) (H' : Hp), x.length ≤ 13 → OkT x → Nx st H H' → Q (.str x) H'
theorem scName : FnScope ["_law_state", "_law_script", "_law_letters", "_law_chars", "_law_size", "_law_word", "_law_k"] psTwo (defScope sName) := ⟨rfl, rfl, rfl, by decide +kernel, rfl, by decide +kernel, by decide +kernel⟩
theorem letters_len : (("abcdefghijklmnopqrstuvwxyz" : Str)).cps.toList.length = 26 := by decide +kernel
theorem chars_len : (("abcdefghijklmnopqrstuvwxyz" : Str) ++ ("0123456789" : Str)).cps.toList.length = 36 := by decide +kernel
theorem letters_ok : OkT ("abcdefghijklmnopqrstuvwxyz" : Str) := by
  show ∀ c ∈ ("abcdefghijklmnopqrstuvwxyz" : Str).cps.toList, c < 0x110000
  decide +kernel
theorem chars_ok : OkT (("abcdefghijklmnopqrstuvwxyz" : Str) ++ ("0123456789" : Str)) := by
  show ∀ c ∈ (("abcdefghijklmnopqrstuvwxyz" : Str) ++ ("0123456789" : Str)).cps.toList, c < 0x110000
  decide +kernel
theorem ok_name {f fP : Addr} {fd fdP : FuncData} (F : Fun K "_law_name" "_law_name" sName f fd) (G : FnOk P w K mg base CX0 1 fP fdP psPick (spPick K)) (mP : mg "_law_pick" = some (.ref fP)) (kP : PySem.W.keepIn K (.ref fP) = true) (bP : Binds K fdP psPick []) (mR : mg "range" = none) :
    FnOk P w K mg base CX0 2 f fd psTwo (spName K) := by
  refine F.ok scName (fun vs H Q E h => ?_) (fun cdv A outer s H vs Q E hr h => ?_)
  · obtain ⟨st, sc, ns, rfl, _⟩ := h
    rfl
  · obtain ⟨st, sc, ns, rfl, hS, hC, k⟩ := h
    refine ⟨_, pss_cons (ps_set (i := 2) scName.nd rfl (Or.inl rfl) pe_str) (pss_cons (ps_set (i := 3) scName.nd rfl (Or.inl rfl) (pe_op op_add_str (pv 2) pe_str))
      (pss_cons (ps_set (i := 4) scName.nd rfl (Or.inl rfl) (pe_op op_add pe_int (pe_call G hr (by rfl) mP kP bP .nil pass0 (pa_cons (pv 0) (pa_cons (pv 1) (pa_cons pe_int pa_nil))))))
      (C8.pss_cut (ps_if (pt_cmpR op_eq (pv 4) pe_int (nomark _)) (pss_one (ps_set (i := 4) scName.nd rfl (Or.inl rfl) (pe_op op_add pe_int (pe_call G hr (by rfl) mP kP bP .nil pass0 (pa_cons (pv 0) (pa_cons (pv 1) (pa_cons pe_int pa_nil))))))) pss_nil)
      (pss_cons (ps_set (i := 5) scName.nd rfl (Or.inl rfl) (pe_ix ix_str (pv 2) (pe_call G hr (by rfl) mP kP bP .nil pass0 (pa_cons (pv 0) (pa_cons (pv 1) (pa_cons pe_int pa_nil)))) (fun _ _ => rfl)))
      (pss_cons (ps_for PassesOwn.never rfl (pi_range1 rfl mR (pa_cons (pe_op op_sub (pv 4) pe_int) pa_nil)) (pg_name (i := 6) scName.nd rfl (Or.inl rfl))
        (pss_one (ps_set (i := 5) scName.nd rfl (Or.inl rfl) (pe_op op_add_str (pv 5) (pe_ix ix_str (pv 3) (pe_call G hr (by rfl) mP kP bP .nil pass0 (pa_cons (pv 0) (pa_cons (pv 1) (pa_cons pe_int pa_nil)))) (fun _ _ => rfl))))))
      (pss_one (ps_ret (pv 5)))))))), ?_⟩
    have l26 := letters_len
    have l36 := chars_len
    refine ⟨_, rfl, _, _, rfl, rfl, by decide +kernel, ?_⟩
    refine ⟨_, rfl, _, rfl, st, sc, 3, ns, rfl, hS, hC, by decide, by decide, fun n1 H1 a0 a1 N1 => ?_⟩
    refine ⟨_, _, rfl, rfl, ?_⟩
    refine ⟨fun σ' H' => ∃ (n : Int), σ' = [some (.ref st), some (.ref sc), some (.str "abcdefghijklmnopqrstuvwxyz"), some (.str (("abcdefghijklmnopqrstuvwxyz" : Str) ++ ("0123456789" : Str))), some (.int n), none, none] ∧ 1 ≤ n ∧ n ≤ 12 ∧ Nx st H H', ?_, ?_⟩
    · refine ⟨_, rfl, rfl, _, rfl, ?_⟩
      refine ite2 (fun _ => ?_) (fun _ => ?_)
      · refine ⟨_, rfl, _, rfl, st, sc, 12, ns, rfl, N1.st, hC.nx N1, by decide, by decide, fun n2 H2 b0 b1 N2 => ?_⟩
        exact ⟨_, _, rfl, rfl, 1 + n2, rfl, by omega, by omega, N1.trans N2⟩
      · exact ⟨1 + n1, rfl, by omega, by omega, N1⟩
    · rintro σ' H' ⟨n, rfl, g0, g1, N⟩
      refine ⟨_, rfl, _, rfl, _, rfl, st, sc, 26, ns, rfl, N.st, hC.nx N, by decide, by decide, fun n2 H2 b0 b1 N2 => ?_⟩
      obtain ⟨c, hc, lc⟩ := sign_at b0 b1 l26 letters_ok
      refine ⟨_, _, c, rfl, rfl, by decide +kernel, hc, ?_⟩
      refine ⟨_, rfl, _, _, rfl, rfl, n - 1, rfl, by omega, by omega, for_it walk_range (fun i σ H' => ∃ (x : Str) (v : Option V), σ = [some (.ref st), some (.ref sc), some (.str "abcdefghijklmnopqrstuvwxyz"), some (.str (("abcdefghijklmnopqrstuvwxyz" : Str) ++ ("0123456789" : Str))), some (.int n), some (.str x), v] ∧ x.length = i + 1 ∧ OkT x ∧ Nx st H H')
        ⟨_, _, rfl, rfl, .sign lc, N.trans N2⟩ (fun _ _ _ _ _ => trivial) ?_ ?_⟩
      · rintro i y σ H3 H4 hi ⟨x, v, rfl, hx, okx, N3⟩ ⟨rfl, rfl⟩
        refine ⟨_, rfl, _, rfl, _, rfl, _, rfl, st, sc, 36, ns, rfl, N3.st, hC.nx N3, by decide, by decide, fun n4 H4 c0 c1 N4 => ?_⟩
        obtain ⟨d, hd, ld⟩ := sign_at c0 c1 l36 chars_ok
        refine ⟨_, _, d, rfl, rfl, by decide +kernel, hd, _, _, rfl, rfl, ?_, x ++ ⟨#[d]⟩, some (.int (0 + (i : Nat))), rfl, ?_, okx.app (.sign ld), N3.trans N4⟩
        · rw [hx]
          show i + 1 + 1 ≤ sizeLine
          have : i < 12 := by omega
          exact Nat.le_trans (by omega : i + 1 + 1 ≤ 1000) (by decide)
        · rw [PySem.Str.length_append, hx]
          rfl
      · rintro σ H3 ⟨x, v, rfl, hx, okx, N3⟩
        exact ⟨_, rfl, k x _ (by omega) okx N3⟩
/-! ### a new name -/
def spNew (K : PySem.W.Frag) : Sp := fun vs H Q _ => ∃ (tk : Addr) (x : Str) (ts : List Str), vs = [.ref tk, .str x] ∧ SqL K H tk (ts.map V.str) ∧ x.length ≤ 13 ∧ OkT x ∧ ∀ y : Str, OkT y → Q (.str y) H
theorem scNew : FnScope ["_law_taken", "_law_word", "_law_k", "_law_other"] ["_law_taken", "_law_word"] (defScope sNew) := ⟨rfl, rfl, rfl, by decide +kernel, rfl, by decide +kernel, by decide +kernel⟩
theorem small_text {i : Int} (h0 : 0 ≤ i) (h1 : i < 40) : i.natAbs.log2 < 1920 := Nat.lt_of_le_of_lt (Nat.log2_le_self _) (by omega)
theorem ok_new {f : Addr} {fd : FuncData} (F : Fun K "_law_new" "_law_new" sNew f fd) (mR : mg "range" = none) (mS : mg "str" = none) : FnOk P w K mg base CX0 1 f fd ["_law_taken", "_law_word"] (spNew K) := by
  refine F.ok scNew (fun vs H Q E h => ?_) (fun cdv A outer s H vs Q E hr h => ?_)
  · obtain ⟨tk, x, ts, rfl, _⟩ := h
    rfl
  · obtain ⟨tk, x, ts, rfl, hT, hx, okx, k⟩ := h
    refine ⟨_, pss_cons (ps_if (pt_cmpR op_notIn_seq (pv 1) (pv 0) (by rfl)) (pss_one (ps_ret (pv 1))) pss_nil)
      (pss_cons (ps_for PassesOwn.never rfl (pi_range1 rfl mR (pa_cons pe_int pa_nil)) (pg_name (i := 2) scNew.nd rfl (Or.inl rfl))
        (pss_cons (ps_set (i := 3) scNew.nd rfl (Or.inl rfl) (pe_op op_add_str (pe_slice sl_str (pv 1) po_none (po_some pe_int)) (pe_callTy call_str_int (by rfl) mS (by decide +kernel) (pa_cons (pv 2) pa_nil))))
        (pss_one (ps_if (pt_cmpR op_notIn_seq (pv 3) (pv 0) (by rfl)) (pss_one (ps_ret (pv 3))) pss_nil))))
      (pss_one (ps_ret (pv 1)))), ?_⟩
    refine ⟨_, rfl, _, rfl, tk, _, rfl, .inl hT, rfl, flat_strs ts, _, rfl, ?_⟩
    refine ite2 (fun _ => ?_) (fun _ => ?_)
    · exact ⟨_, rfl, k x okx⟩
    · refine ⟨40, rfl, by decide, by decide, for_it walk_range (fun i σ H' => H' = H ∧ ∃ (u v : Option V), σ = [some (.ref tk), some (.str x), u, v]) ⟨rfl, _, _, rfl⟩ (fun _ _ _ _ _ => trivial) ?_ ?_⟩
      · rintro i y σ H3 H4 hi ⟨rfl, u, v, rfl⟩ ⟨rfl, rfl⟩
        have hi' : i < 40 := hi
        have i0 : (0 : Int) ≤ 0 + (i : Nat) := by omega
        have i1 : (0 : Int) + (i : Nat) < 40 := by omega
        have hz : x.length ≤ sizeLine := Nat.le_trans hx (by decide)
        refine ⟨_, rfl, 10, rfl, x, rfl, hz, _, rfl, _, rfl, small_text i0 i1, _, _, rfl, rfl, ?_, ?_⟩
        · have h1 := cutS_length x none (some 10)
          have h2 := PyProof.Rows.int_text_len_1921 (small_text i0 i1)
          exact Nat.le_trans (Nat.add_le_add (Nat.le_trans h1 hx) h2) (by decide)
        · refine ⟨_, rfl, _, rfl, tk, _, rfl, .inl hT, rfl, flat_strs ts, _, rfl, ?_⟩
          refine ite2 (fun _ => ?_) (fun _ => ?_)
          · refine ⟨_, rfl, k _ ((okx.cut _ _).app ?_)⟩
            show OkT (Str.ofString (toString ((0 : Int) + (i : Nat))))
            rw [Int.zero_add]
            exact OkT.num i
          · exact ⟨rfl, _, _, rfl⟩
      · rintro σ H3 ⟨rfl, u, v, rfl⟩
        exact ⟨_, rfl, k x okx⟩
/-! ### the names -/
def spNames (K : PySem.W.Frag) : Sp := fun vs H Q _ => ∃ (st sc : Addr) (m : Int) (ns : List Int), vs = [.ref st, .ref sc, .int m] ∧ StAt H st ∧ Scr K H st sc ns ∧ 0 ≤ m ∧ m ≤ 100 ∧
  ∀ (nm : Addr) (xs : List Str) (H' : Hp), (xs.length : Int) = m → (∀ x ∈ xs, OkT x) → Nx st H H' → nm ≠ st → H' nm = some (.lst (xs.map V.str)) → Q (.ref nm) H'
theorem scNames : FnScope ["_law_state", "_law_script", "_law_many", "_law_names_here", "_law_k"] psPick (defScope sNames) := ⟨rfl, rfl, rfl, by decide +kernel, rfl, by decide +kernel, by decide +kernel⟩
theorem ok_names {f fN fW : Addr} {fd fdN fdW : FuncData} (F : Fun K "_law_names" "_law_names" sNames f fd) (G : FnOk P w K mg base CX0 2 fN fdN psTwo (spName K)) (mN : mg "_law_name" = some (.ref fN)) (kN : PySem.W.keepIn K (.ref fN) = true) (bN : Binds K fdN psTwo [])
    (W : FnOk P w K mg base CX0 1 fW fdW ["_law_taken", "_law_word"] (spNew K)) (mW : mg "_law_new" = some (.ref fW)) (kW : PySem.W.keepIn K (.ref fW) = true) (bW : Binds K fdW ["_law_taken", "_law_word"] []) (mR : mg "range" = none) :
    FnOk P w K mg base CX0 3 f fd psPick (spNames K) := by
  refine F.ok scNames (fun vs H Q E h => ?_) (fun cdv A outer s H vs Q E hr h => ?_)
  · obtain ⟨st, sc, m, ns, rfl, _⟩ := h
    rfl
  · obtain ⟨st, sc, m, ns, rfl, hS, hC, m0, m1, k⟩ := h
    refine ⟨_, pss_cons (ps_set (i := 3) scNames.nd rfl (Or.inl rfl) (pe_lst pa_nil))
      (pss_cons (ps_for PassesOwn.never rfl (pi_range1 rfl mR (pa_cons (pv 2) pa_nil)) (pg_name (i := 4) scNames.nd rfl (Or.inl rfl))
        (pss_one (ps_expr (pe_bm PySem.F.plainAttrs_list PySem.F.slot_list_append PySem.F.type_list_append mt_append (pv 3)
          (pa_cons (pe_call W (hr.mono (by decide)) (by rfl) mW kW bW .nil pass0 (pa_cons (pv 3) (pa_cons (pe_call G hr (by rfl) mN kN bN .nil pass0 (pa_cons (pv 0) (pa_cons (pv 1) pa_nil))) pa_nil))) pa_nil)))))
      (pss_one (ps_ret (pv 3)))), ?_⟩
    refine ⟨Nat.zero_le _, fun nm hn => ?_⟩
    have ne := hS.ne hn
    refine ⟨_, rfl, m, rfl, by omega, by omega, for_it walk_range (fun i σ H' => ∃ (xs : List Str) (v : Option V), σ = [some (.ref st), some (.ref sc), some (.int m), some (.ref nm), v] ∧ xs.length = i ∧ (∀ x ∈ xs, OkT x) ∧ Nx st H H' ∧ H' nm = some (.lst (xs.map V.str)))
      ⟨[], _, rfl, rfl, (fun _ h => absurd h (by simp)), (Nx.refl hS).new hn, upd_same⟩ (fun _ _ _ _ _ => trivial) ?_ ?_⟩
    · rintro i y σ H3 H4 hi ⟨xs, v, rfl, hx, okx, N, hL⟩ ⟨rfl, rfl⟩
      have hi' : i < m.toNat := hi
      refine ⟨_, rfl, .inl ⟨rfl, _, SqL.of hL⟩, _, rfl, _, rfl, _, rfl, st, sc, ns, rfl, N.st, hC.nx N, fun x H5 hx5 ok5 N5 => ?_⟩
      have hL5 := N5.keep _ _ ne hL
      refine ⟨nm, x, xs, rfl, SqL.of hL5, hx5, ok5, fun y oky => ?_⟩
      refine ⟨nm, _, _, rfl, rfl, hL5, ?_, ?_⟩
      · rw [List.length_map, hx]
        exact small1000 (by omega)
      · refine ⟨xs ++ [y], some (.int (0 + (i : Nat))), rfl, by rw [List.length_append, hx]; rfl, fun z hz => ?_, (N.trans N5).own hn ne, ?_⟩
        · rcases List.mem_append.mp hz with q | q
          · exact okx z q
          · obtain rfl := List.mem_singleton.mp q
            exact oky
        · rw [upd_same, List.map_append]
          rfl
    · rintro σ H3 ⟨xs, v, rfl, hx, okx, N, hL⟩
      exact ⟨_, rfl, k nm xs _ (by omega) okx N ne hL⟩
/-! ### a seed, a round -/
def spSeed (K : PySem.W.Frag) : Sp := fun vs H Q _ => ∃ (st sc : Addr) (ns : List Int), vs = [.ref st, .ref sc] ∧ StAt H st ∧ Scr K H st sc ns ∧ ∀ (n : Int) (H' : Hp), Nx st H H' → Q (.int n) H'
theorem scSeed : FnScope ["_law_state", "_law_script", "_law_seeds"] psTwo (defScope sSeed) := ⟨rfl, rfl, rfl, by decide +kernel, rfl, by decide +kernel, by decide +kernel⟩
theorem scRound : FnScope psTwo psTwo (defScope sRound) := ⟨rfl, rfl, rfl, by decide +kernel, rfl, by decide +kernel, by decide +kernel⟩
theorem four_at {a b c d n : Int} (h0 : 0 ≤ n) (h1 : n < 4) : ∃ v, atI [V.int a, .int b, .int c, .int d] n = some (.int v) := by
  have h : n = 0 ∨ n = 1 ∨ n = 2 ∨ n = 3 := by omega
  rcases h with rfl | rfl | rfl | rfl
  · exact ⟨a, rfl⟩
  · exact ⟨b, rfl⟩
  · exact ⟨c, rfl⟩
  · exact ⟨d, rfl⟩
theorem three_at {n : Int} (h0 : 0 ≤ n) (h1 : n < 3) : ∃ v : Int, atI [V.int 3, .int 400, .int 1000000] n = some (.int v) ∧ 0 < v ∧ v < 1073741824 := by
  have h : n = 0 ∨ n = 1 ∨ n = 2 := by omega
  rcases h with rfl | rfl | rfl
  · exact ⟨3, rfl, by decide, by decide⟩
  · exact ⟨400, rfl, by decide, by decide⟩
  · exact ⟨1000000, rfl, by decide, by decide⟩
theorem ok_seed {f fP : Addr} {fd fdP : FuncData} (F : Fun K "_law_seed" "_law_seed" sSeed f fd) (G : FnOk P w K mg base CX0 1 fP fdP psPick (spPick K)) (mP : mg "_law_pick" = some (.ref fP)) (kP : PySem.W.keepIn K (.ref fP) = true) (bP : Binds K fdP psPick []) :
    FnOk P w K mg base CX0 2 f fd psTwo (spSeed K) := by
  refine F.ok scSeed (fun vs H Q E h => ?_) (fun cdv A outer s H vs Q E hr h => ?_)
  · obtain ⟨st, sc, ns, rfl, _⟩ := h
    rfl
  · obtain ⟨st, sc, ns, rfl, hS, hC, k⟩ := h
    refine ⟨_, pss_cons (ps_set (i := 2) scSeed.nd rfl (Or.inl rfl) (pe_lst (pa_cons pe_int (pa_cons pe_int (pa_cons (pe_call G hr (by rfl) mP kP bP .nil pass0 (pa_cons (pv 0) (pa_cons (pv 1) (pa_cons pe_int pa_nil))))
        (pa_cons (pe_call G hr (by rfl) mP kP bP .nil pass0 (pa_cons (pv 0) (pa_cons (pv 1) (pa_cons pe_int pa_nil)))) pa_nil))))))
      (pss_one (ps_ret (pe_ix ix_list (pv 2) (pe_call G hr (by rfl) mP kP bP .nil pass0 (pa_cons (pv 0) (pa_cons (pv 1) (pa_cons pe_int pa_nil)))) (fun _ _ => rfl)))), ?_⟩
    refine ⟨_, rfl, _, rfl, st, sc, _, ns, rfl, hS, hC, by decide, by decide, fun n1 H1 _ _ N1 => ?_⟩
    refine ⟨_, rfl, _, rfl, st, sc, _, ns, rfl, N1.st, hC.nx N1, by decide, by decide, fun n2 H2 _ _ N2 => ?_⟩
    refine ⟨by show 4 ≤ sizeLine; decide, fun l hl => ?_⟩
    have N3 := (N1.trans N2).new (o := .lst [.int 0, .int 1000000, .int n1, .int n2]) hl
    have ne := (N1.trans N2).st.ne hl
    refine ⟨_, rfl, _, rfl, _, rfl, st, sc, _, ns, rfl, N3.st, hC.nx N3, by decide, by decide, fun n4 H4 c0 c1 N4 => ?_⟩
    obtain ⟨v, hv⟩ := four_at (a := 0) (b := 1000000) (c := n1) (d := n2) c0 c1
    exact ⟨l, _, n4, .int v, rfl, rfl, SqL.of (N4.keep _ _ ne upd_same), hv, k v _ (N3.trans N4)⟩
theorem ok_round {f fP : Addr} {fd fdP : FuncData} (F : Fun K "_law_round" "_law_round" sRound f fd) (G : FnOk P w K mg base CX0 1 fP fdP psPick (spPick K)) (mP : mg "_law_pick" = some (.ref fP)) (kP : PySem.W.keepIn K (.ref fP) = true) (bP : Binds K fdP psPick []) :
    FnOk P w K mg base CX0 2 f fd psTwo (spSeed K) := by
  refine F.ok scRound (fun vs H Q E h => ?_) (fun cdv A outer s H vs Q E hr h => ?_)
  · obtain ⟨st, sc, ns, rfl, _⟩ := h
    rfl
  · obtain ⟨st, sc, ns, rfl, hS, hC, k⟩ := h
    refine ⟨_, pss_one (ps_ret (pe_call G hr (by rfl) mP kP bP .nil pass0 (pa_cons (pv 0) (pa_cons (pv 1) (pa_cons (pe_ix ix_list (pe_lst (pa_cons pe_int (pa_cons pe_int (pa_cons pe_int pa_nil))))
      (pe_call G hr (by rfl) mP kP bP .nil pass0 (pa_cons (pv 0) (pa_cons (pv 1) (pa_cons pe_int pa_nil)))) (fun _ _ => rfl)) pa_nil))))), ?_⟩
    refine ⟨_, rfl, _, rfl, by show 3 ≤ sizeLine; decide, fun l hl => ?_⟩
    have N3 := (Nx.refl hS).new (o := .lst [.int 3, .int 400, .int 1000000]) hl
    have ne := hS.ne hl
    refine ⟨_, rfl, _, rfl, st, sc, _, ns, rfl, N3.st, hC.nx N3, by decide, by decide, fun n4 H4 c0 c1 N4 => ?_⟩
    obtain ⟨v, hv, v0, v1⟩ := three_at c0 c1
    refine ⟨l, _, n4, .int v, rfl, rfl, SqL.of (N4.keep _ _ ne upd_same), hv, ?_⟩
    have N5 := N3.trans N4
    exact ⟨st, sc, v, ns, rfl, N5.st, hC.nx N5, v0, v1, fun n6 H6 _ _ N6 => k n6 _ (N5.trans N6)⟩
end
end K21
/-! K21, _law_same: of a text and itself, of two tuples of the same texts. -/
namespace K21
open PySem PySem.Spec PyProof.Rows L2 LamX

abbrev sSame : Stmt := top 8
section
variable {P : Program} {w : World} {K : PySem.W.Frag} {mg : Str → Option Value} {base : Heap}
abbrev psSame : List Str := ["_law_actual", "_law_due"]
/-- the names that _law_same reads -/
structure SameTxt (mg : Str → Option Value) : Prop where
  isi : mg "isinstance" = none
  tup : mg "tuple" = none
  len : mg "len" = none
  rng : mg "range" = none
  int : mg "int" = none
  str : mg "str" = none
def spSameS : Sp := fun vs H Q _ => ∃ x : Str, vs = [.str x, .str x] ∧ Q (.bl true) H
def spSameT : Sp := fun vs H Q _ => ∃ (a b : Addr) (xs : List Str), vs = [.ref a, .ref b] ∧ H a = some (.tup (xs.map V.str)) ∧ H b = some (.tup (xs.map V.str)) ∧ xs.length ≤ 1000 ∧ Q (.bl true) H
theorem scSame : FnScope ["_law_actual", "_law_due", "_law_k"] psSame (defScope sSame) := ⟨rfl, rfl, rfl, by decide +kernel, rfl, by decide +kernel, by decide +kernel⟩
theorem ok_sameS {f : Addr} {fd : FuncData} (F : Fun K "_law_same" "_law_same" sSame f fd) (T : SameTxt mg) : FnOk P w K mg base CX0 1 f fd psSame spSameS := by
  refine F.ok scSame (fun vs H Q E h => ?_) (fun cdv A outer s H vs Q E hr h => ?_)
  · obtain ⟨x, rfl, _⟩ := h
    rfl
  · obtain ⟨x, rfl, k⟩ := h
    refine ⟨_, pss_cons (ps_if (pt_cmp (pc_isN (pv 1))) pss_never pss_nil)
      (pss_cons (ps_if (pt_val (pe_callB call_isi (by rfl) T.isi (by decide +kernel) (pa_cons (pv 1) (pa_cons (pe_bltn (v := .ty "tuple") (by rfl) T.tup (by decide +kernel) rfl) pa_nil)))) pss_never pss_nil)
      (pss_cons (ps_if (pt_val (pe_callB call_isi (by rfl) T.isi (by decide +kernel) (pa_cons (pv 1) (pa_cons (pe_bltn (v := .ty "int") (by rfl) T.int (by decide +kernel) rfl) pa_nil)))) pss_never pss_nil)
      (pss_one (ps_ret (pe_and (pe_callB call_isi (by rfl) T.isi (by decide +kernel) (pa_cons (pv 0) (pa_cons (pe_bltn (v := .ty "str") (by rfl) T.str (by decide +kernel) rfl) pa_nil))) (pe_one (pe_cmpR op_eq (pv 0) (pv 1) (nomark _)))))))), ?_⟩
    refine ⟨_, rfl, _, rfl, iteF ?_⟩
    refine ⟨_, rfl, _, _, _, _, false, rfl, .ty _, .base (.str _), kit_ty (by decide +kernel), _, rfl, iteF ?_⟩
    refine ⟨_, rfl, _, _, _, _, false, rfl, .ty _, .base (.str _), kit_ty (by decide +kernel), _, rfl, iteF ?_⟩
    refine ⟨_, rfl, _, _, _, _, true, rfl, .ty _, .base (.str _), kit_ty (by decide +kernel), _, rfl, iteT ?_⟩
    refine ⟨_, rfl, _, rfl, rfl, ?_⟩
    have e : decide (V.str x = V.str x) = true := decide_eq_true rfl
    show Q (V.bl (decide (V.str x = V.str x))) H
    rw [e]
    exact k
theorem ok_sameT {f : Addr} {fd : FuncData} (F : Fun K "_law_same" "_law_same" sSame f fd) (T : SameTxt mg) (mS : mg "_law_same" = some (.ref f)) (kS : PySem.W.keepIn K (.ref f) = true) (bS : Binds K fd psSame []) : FnOk P w K mg base CX0 2 f fd psSame spSameT := by
  have G : FnOk P w K mg base CX0 1 f fd psSame spSameS := ok_sameS F T
  refine F.ok scSame (fun vs H Q E h => ?_) (fun cdv A outer s H vs Q E hr h => ?_)
  · obtain ⟨a, b, xs, rfl, _⟩ := h
    rfl
  · obtain ⟨a, b, xs, rfl, ha, hb, hx, k⟩ := h
    refine ⟨_, pss_cons (ps_if (pt_cmp (pc_isN (pv 1))) pss_never pss_nil)
      (pss_cons (ps_if (pt_val (pe_callB call_isi (by rfl) T.isi (by decide +kernel) (pa_cons (pv 1) (pa_cons (pe_bltn (v := .ty "tuple") (by rfl) T.tup (by decide +kernel) rfl) pa_nil))))
        (pss_cons (ps_if (PW.pt (pw_or (pt_not (pt_val (pe_callB call_isi (by rfl) T.isi (by decide +kernel) (pa_cons (pv 0) (pa_cons (pe_bltn (v := .ty "tuple") (by rfl) T.tup (by decide +kernel) rfl) pa_nil)))))
            (pw_or1 (pt_cmpR op_ne (pe_callB call_len_seq (by rfl) T.len PySem.boot_len (pa_cons (pv 0) pa_nil)) (pe_callB call_len_seq (by rfl) T.len PySem.boot_len (pa_cons (pv 1) pa_nil)) (nomark _))))) pss_never pss_nil)
        (pss_cons (ps_for PassesOwn.never rfl (pi_range1 rfl T.rng (pa_cons (pe_callB call_len_seq (by rfl) T.len PySem.boot_len (pa_cons (pv 1) pa_nil)) pa_nil)) (pg_name (i := 2) scSame.nd rfl (Or.inl rfl))
          (pss_one (ps_if (pt_not (pt_val (pe_call G hr (by rfl) mS kS bS .nil pass0 (pa_cons (pe_ix ix_tup (pv 0) (pv 2) (fun _ _ => rfl)) (pa_cons (pe_ix ix_tup (pv 1) (pv 2) (fun _ _ => rfl)) pa_nil))))) pss_never pss_nil)))
        (pss_one (ps_ret pe_bl)))) pss_nil) pss_never), ?_⟩
    refine ⟨_, rfl, _, rfl, iteF ?_⟩
    refine ⟨_, rfl, _, _, _, _, true, rfl, .ty _, .base (.tup hb), kit_ty (by decide +kernel), _, rfl, iteT ?_⟩
    refine ⟨_, rfl, _, _, _, _, true, rfl, .ty _, .base (.tup ha), kit_ty (by decide +kernel), _, rfl, iteF ?_⟩
    refine ⟨_, rfl, a, _, rfl, .inr (SqT.of ha), _, rfl, b, _, rfl, .inr (SqT.of hb), rfl, _, rfl, ?_⟩
    refine iteNS rfl ?_
    have hn : ((xs.map V.str).length : Int) = xs.length := by rw [List.length_map]
    refine ⟨_, rfl, b, _, rfl, .inr (SqT.of hb), _, rfl, by rw [hn]; omega, by rw [hn]; omega, for_it walk_range (fun i σ H' => H' = H ∧ ∃ (v : Option V), σ = [some (.ref a), some (.ref b), v]) ⟨rfl, _, rfl⟩ (fun _ _ _ _ _ => trivial) ?_ ?_⟩
    · rintro i y σ H3 H4 hi ⟨rfl, v, rfl⟩ ⟨rfl, rfl⟩
      have hi' : i < xs.length := by
        rw [hn] at hi
        exact hi
      obtain ⟨x, hxi⟩ : ∃ x, xs[i]? = some x := ⟨_, List.getElem?_eq_getElem hi'⟩
      have ai : atI (xs.map V.str) (0 + (i : Nat)) = some (.str x) := at_of (j := i) (by omega) (by rw [List.getElem?_map, hxi]; rfl)
      refine ⟨_, rfl, _, rfl, a, _, _, _, rfl, rfl, SqT.of ha, ai, _, rfl, _, rfl, b, _, _, _, rfl, rfl, SqT.of hb, ai, x, rfl, _, rfl, iteF ?_⟩
      exact ⟨rfl, _, rfl⟩
    · rintro σ H3 ⟨rfl, v, rfl⟩
      exact k
end
end K21
/-! K21, the law. -/
namespace K21
open PySem PySem.Spec PyProof.Rows L2 LamX

abbrev sLaw : Stmt := top 12
/-- what stands through the law: the state, the script, the names, the code table -/
structure LW (K : PySem.W.Frag) (T : List (Addr × Str)) (st sc nm : Addr) (ns : List Int) (xs : List Str) (H : Hp) : Prop where
  hst : StAt H st
  hsc : Scr K H st sc ns
  hnm : H nm = some (.lst (xs.map V.str))
  hne : nm ≠ st
  htb : Tabs T H
theorem tabs_nx {T : List (Addr × Str)} {st : Addr} {H H' : Hp} (t : Tabs T H) (h : StAt H st) (n : Nx st H H') : Tabs T H' := by
  obtain ⟨p, q, r, z, e, _⟩ := h
  intro x hx
  obtain ⟨ps, h1, h2, h3⟩ := t x hx
  refine ⟨ps, n.keep _ _ (fun w => ?_) h1, h2, fun pos cv hc => ?_⟩
  · rw [w, e] at h1
    cases h1
  · obtain ⟨c, e1, e2⟩ := h3 pos cv hc
    refine ⟨c, e1, n.keep _ _ (fun w => ?_) e2⟩
    rw [w, e] at e2
    unfold CodeO at e2
    cases e2
section
variable {K : PySem.W.Frag} {T : List (Addr × Str)} {st sc nm : Addr} {ns : List Int} {xs : List Str} {H H' : Hp}
theorem LW.nx (w : LW K T st sc nm ns xs H) (n : Nx st H H') : LW K T st sc nm ns xs H' := ⟨n.st, w.hsc.nx n, n.keep _ _ w.hne w.hnm, w.hne, tabs_nx w.htb w.hst n⟩
theorem LW.ext (w : LW K T st sc nm ns xs H) (e : ExtN H H') (t : Tabs T H') : LW K T st sc nm ns xs H' := by
  obtain ⟨p, q, r, z, a, b⟩ := w.hst
  exact ⟨⟨p, q, r, z, e _ _ a (fun ps h => by cases h), b⟩, w.hsc.ext e, e _ _ w.hnm (fun ps h => by cases h), w.hne, t⟩
theorem same_new {a : Addr} {o : HO} (h : H a = none) : Same H (upd H a o) := fun _ _ e => (upd_ne (ne_of_none e h)).trans e
theorem LW.new {a : Addr} {o : HO} (w : LW K T st sc nm ns xs H) (h : H a = none) : LW K T st sc nm ns xs (upd H a o) := w.ext (.of (same_new h)) (w.htb.ext (same_new h))
end
/-- the names without y -/
abbrev wo (y : Str) (xs : List Str) : List Str := xs.filter fun x => !decide (x = y)
theorem wo_yes {xs : List Str} {y x : Str} {i : Nat} (h : xs[i]? = some x) (n : x ≠ y) : wo y (xs.take (i + 1)) = wo y (xs.take i) ++ [x] := by
  rw [List.take_add_one, h]
  show ((xs.take i) ++ [x]).filter _ = _
  rw [List.filter_append]
  simp [n]
theorem wo_no {xs : List Str} {y : Str} {i : Nat} (h : xs[i]? = some y) : wo y (xs.take (i + 1)) = wo y (xs.take i) := by
  rw [List.take_add_one, h]
  show ((xs.take i) ++ [y]).filter _ = _
  rw [List.filter_append]
  simp
theorem wo_len (y : Str) (xs : List Str) : (wo y xs).length ≤ xs.length := List.length_filter_le _ _
theorem in_step {i : Nat} {xs : List Str} {y : Str} : (wo y (xs.take i)).length ≤ xs.length := Nat.le_trans (wo_len _ _) (by rw [List.length_take]; omega)
theorem kept_ne {x y : Str} (h : (!decide (V.str x = V.str y)) = true) : x ≠ y := fun e => by
  rw [e] at h
  simp at h
theorem left_eq {x y : Str} (h : ¬ (!decide (V.str x = V.str y)) = true) : x = y := by
  by_cases q : x = y
  · exact q
  · exact absurd (by simp [q]) h
theorem take_all (xs : List Str) : xs.take (xs.map V.str).length = xs := List.take_of_length_le (by rw [List.length_map]; exact Nat.le_refl _)
theorem str_at {xs : List Str} {i : Nat} {v : V} (h : (xs.map V.str)[i]? = some v) : ∃ x, xs[i]? = some x ∧ v = .str x := by
  rw [List.getElem?_map] at h
  cases e : xs[i]? with
  | none =>
    rw [e] at h
    cases h
  | some x =>
    rw [e] at h
    exact ⟨x, rfl, (Option.some.inj h).symm⟩
theorem dp_strs {K : PySem.W.Frag} {H : Hp} : ∀ xs : List Str, DpAll K H (xs.map V.str) (xs.map PyData.str)
  | [] => .nil
  | x :: r => .cons (.str x) (dp_strs r)
theorem lay_strs : ∀ xs : List Str, (∀ x ∈ xs, OkT x) → PyData.canLayAll0 (xs.map PyData.str) = true
  | [], _ => rfl
  | x :: r, h => by
    show (PyData.strOk x && PyData.canLayAll0 (r.map PyData.str)) = true
    rw [(h x (.head _)).ok, lay_strs r fun y hy => h y (.tail _ hy)]
    rfl
theorem depth_strs : ∀ xs : List Str, PyData.depthAll (xs.map PyData.str) = 0
  | [] => by simp [PyData.depthAll]
  | x :: r => by
    have h := depth_strs r
    simp only [List.map_cons, PyData.depthAll, PyData.depth, h]
    rfl
theorem shaped_strs {xs : List Str} (h : ∀ x ∈ xs, OkT x) : SeqAt.shaped (.list (xs.map PyData.str)) = true := by
  unfold SeqAt.shaped
  rw [Bool.and_eq_true]
  refine ⟨lay_strs xs h, decide_eq_true ?_⟩
  simp only [PyData.depth, depth_strs]
  omega

section
variable {P : Program} {w : World} {K : PySem.W.Frag} {mg : Str → Option Value} {base : Heap}
abbrev nLaw : List Str := ["_law_script", "_law_state", "_law_names_here", "_law_turn", "_law_seed_here", "_law_round_number", "_law_at", "_law_others", "_law_told", "_law_due", "_law_name_here"]
theorem scLaw : FnScope nLaw ["_law_script"] (defScope sLaw) := ⟨rfl, rfl, rfl, by decide +kernel, rfl, by decide +kernel, by decide +kernel⟩
def spLaw (K : PySem.W.Frag) (T : List (Addr × Str)) : Sp := fun vs H Q _ => ∃ (a : Addr) (ns : List Int), vs = [.ref a] ∧ SqL K H a (ns.map V.int) ∧ ns.length ≤ 63 ∧ Tabs T H ∧ ∀ H', Q (.bl true) H'
/-- the names that the law reads -/
structure LawTxt (mg : Str → Option Value) : Prop where
  rng : mg "range" = none
  len : mg "len" = none
  tup : mg "tuple" = none
  isi : mg "isinstance" = none
  srt : mg "sorted" = none
  lst : mg "list" = none
/-- a def as it is called -/
structure Cd (P : Program) (w : World) (K : PySem.W.Frag) (mg : Str → Option Value) (base : Heap) (k : Nat) (x : Str) (ps : List Str) (sp : Sp) (f : Addr) (fd : FuncData) : Prop where
  ok : FnOk P w K mg base CX0 k f fd ps sp
  mg : mg x = some (.ref f)
  kp : PySem.W.keepIn K (.ref f) = true
  bd : Binds K fd ps []

theorem ok_law {f fA fB fC fD fO fS : Addr} {fd dA dB dC dD dO dS : FuncData} {T : List (Addr × Str)} (F : Fun K "law" "law" sLaw f fd) (X : LawTxt mg)
    (A : Cd P w K mg base 1 "_law_pick" psPick (spPick K) fA dA) (B : Cd P w K mg base 3 "_law_names" psPick (spNames K) fB dB) (C : Cd P w K mg base 2 "_law_seed" psTwo (spSeed K) fC dC) (D : Cd P w K mg base 2 "_law_round" psTwo (spSeed K) fD dD)
    (O : Cd P w K mg base 5 "order" psOrd (spOrder K T) fO dO) (S : Cd P w K mg base 2 "_law_same" psSame spSameT fS dS) : FnOk P w K mg base CX0 6 f fd ["_law_script"] (spLaw K T) := by
  refine F.ok scLaw (fun vs H Q E h => ?_) (fun cdv Ar outer s H vs Q E hr h => ?_)
  · obtain ⟨a, ns, rfl, _⟩ := h
    rfl
  · obtain ⟨sc, ns, rfl, hsc, hns, hT, k⟩ := h
    have hr1 : Room 1 _ := hr.mono (by decide)
    have hr2 : Room 2 _ := hr.mono (by decide)
    have hr3 : Room 3 _ := hr.mono (by decide)
    have nd := scLaw.nd
    refine ⟨_, pss_cons (ps_set (i := 1) nd rfl (Or.inl rfl) (pe_lst (pa_cons pe_int (pa_cons pe_int (pa_cons pe_int (pa_cons pe_int pa_nil)))))) <|
      pss_cons (ps_set (i := 2) nd rfl (Or.inr rfl) (pe_call B.ok hr3 (by rfl) B.mg B.kp B.bd .nil pass0 (pa_cons (pv 1) <| pa_cons (pv 0) <| pa_cons (pe_op op_add pe_int (pe_call A.ok hr1 (by rfl) A.mg A.kp A.bd .nil pass0 (pa_cons (pv 1) <| pa_cons (pv 0) <| pa_cons pe_int pa_nil))) pa_nil))) <|
      pss_cons (ps_for PassesOwn.never rfl (pi_range1 rfl X.rng (pa_cons pe_int pa_nil)) (pg_name (i := 3) nd rfl (Or.inl rfl)) <|
        pss_cons (ps_set (i := 4) nd rfl (Or.inl rfl) (pe_call C.ok hr2 (by rfl) C.mg C.kp C.bd .nil pass0 (pa_cons (pv 1) <| pa_cons (pv 0) pa_nil))) <|
        pss_cons (ps_set (i := 5) nd rfl (Or.inl rfl) (pe_call D.ok hr2 (by rfl) D.mg D.kp D.bd .nil pass0 (pa_cons (pv 1) <| pa_cons (pv 0) pa_nil))) <|
        pss_cons (ps_set (i := 6) nd rfl (Or.inr rfl) (pe_call A.ok hr1 (by rfl) A.mg A.kp A.bd .nil pass0 (pa_cons (pv 1) <| pa_cons (pv 0) <| pa_cons (pe_callB call_len_seq (by rfl) X.len PySem.boot_len (pa_cons (pv 2) pa_nil)) pa_nil))) <|
        pss_cons (ps_setLc (i := 7) (own := [("_law_name_here", 10)]) (g := gName 10) rfl nd rfl rfl (sw_true rfl rfl rfl (by decide +kernel)) (pi_list (pv 2)) (blkOk_by (N := nLaw) (sc := defScope sLaw) (by decide +kernel))
          (fun _ _ _ _ _ => pg_name (i := 10) nd rfl (Or.inl rfl)) (fun _ _ _ _ _ => pts_one (pt_cmpR op_ne (pv 10) (pe_ix (r := rIxL K) ix_list (pv 2) (pv 6) (fun _ _ => rfl)) (nomark _))) (fun _ _ _ _ _ => pv 10)) <|
        pss_cons (ps_set (i := 8) nd rfl (Or.inl rfl) (pe_call O.ok hr (by rfl) O.mg O.kp O.bd .nil pass0 (pa_cons (pv 4) <| pa_cons (pv 5) <| pa_cons (pe_callTy call_tuple_of (by rfl) X.tup (by decide +kernel) (pa_cons (pv 2) pa_nil)) pa_nil))) <|
        pss_cons (ps_if (PW.pt (pw_or (pt_not (pt_val (pe_callB call_isi (by rfl) X.isi (by decide +kernel) (pa_cons (pv 8) <| pa_cons (pe_bltn (v := .ty "tuple") (by rfl) X.tup (by decide +kernel) rfl) pa_nil))))
            (pw_or1 (pt_cmpR (op_neD hr.units) (pe_callB cr_sortedS (by rfl) X.srt (by decide +kernel) (pa_cons (pe_callTy call_list_of (by rfl) X.lst (by decide +kernel) (pa_cons (pv 8) pa_nil)) pa_nil)) (pe_callB cr_sortedS (by rfl) X.srt (by decide +kernel) (pa_cons (pv 2) pa_nil)) (nomark _))))) pss_never pss_nil) <|
        pss_cons (ps_set (i := 9) nd rfl (Or.inl rfl) (pe_callTy call_tuple_of (by rfl) X.tup (by decide +kernel) (pa_cons (pe_lc (own := [("_law_name_here", 10)]) (g := gName 10) rfl nd (pi_tup (pv 8)) (blkOk_by (N := nLaw) (sc := defScope sLaw) (by decide +kernel))
          (fun _ _ _ _ _ => pg_name (i := 10) nd rfl (Or.inl rfl)) (fun _ _ _ _ _ => pts_one (pt_cmpR op_ne (pv 10) (pe_ix (r := rIxL K) ix_list (pv 2) (pv 6) (fun _ _ => rfl)) (nomark _))) (fun _ _ _ _ _ => pv 10)) pa_nil))) <|
        pss_cons (ps_if (pt_not (pt_val (pe_call S.ok hr2 (by rfl) S.mg S.kp S.bd .nil pass0 (pa_cons (pe_call O.ok hr (by rfl) O.mg O.kp O.bd .nil pass0 (pa_cons (pv 4) <| pa_cons (pv 5) <| pa_cons (pe_callTy call_tuple_of (by rfl) X.tup (by decide +kernel) (pa_cons (pv 7) pa_nil)) pa_nil)) <| pa_cons (pv 9) pa_nil)))) pss_never pss_nil) <|
        pss_one (ps_if (pt_not (pt_val (pe_call S.ok hr2 (by rfl) S.mg S.kp S.bd .nil pass0 (pa_cons (pe_call O.ok hr (by rfl) O.mg O.kp O.bd .nil pass0 (pa_cons (pv 4) <| pa_cons (pv 5) <| pa_cons (pe_tup (pa_cons (pe_ix ix_list (pv 2) (pv 6) (fun _ _ => rfl)) pa_nil)) pa_nil)) <|
            pa_cons (pe_tup (pa_cons (pe_ix ix_list (pv 2) (pv 6) (fun _ _ => rfl)) pa_nil)) pa_nil)))) pss_never pss_nil)) <|
      pss_one (ps_ret pe_bl), ?_⟩
    refine ⟨by show 4 ≤ sizeLine; decide, fun st hst => ?_⟩
    have S1 : StAt (upd H st (.lst [.int 0, .int 0, .int 1, .int 0])) st := ⟨0, 0, 1, 0, upd_same, by decide, by decide, by decide, by decide⟩
    have C1 : Scr K (upd H st (.lst [.int 0, .int 0, .int 1, .int 0])) st sc ns := ⟨hns, H, hsc, fun b o e _ => ⟨ne_of_none e hst, (upd_ne (ne_of_none e hst)).trans e⟩⟩
    refine ⟨_, rfl, _, rfl, _, rfl, _, rfl, st, sc, 13, ns, rfl, S1, C1, by decide, by decide, fun n1 H2 a0 a1 N1 => ?_⟩
    refine ⟨_, _, rfl, rfl, st, sc, 1 + n1, ns, rfl, N1.st, C1.nx N1, by omega, by omega, fun nm xs H3 hlen okx N2 hne hnm => ?_⟩
    have W : LW K T st sc nm ns xs H3 := ⟨N2.st, (C1.nx N1).nx N2, hnm, hne, tabs_nx (tabs_nx (hT.ext (same_new hst)) S1 N1) N1.st N2⟩
    have l0 : 0 < xs.length := by omega
    have l1 : xs.length ≤ 13 := by omega
    have lm : ((xs.map V.str).length : Int) = xs.length := by rw [List.length_map]
    refine ⟨3, rfl, by decide, by decide, for_it walk_range (fun i σ H' => ∃ v3 v4 v5 v6 v7 v8 v9 v10 : Option V, σ = [some (.ref sc), some (.ref st), some (.ref nm), v3, v4, v5, v6, v7, v8, v9, v10] ∧ LW K T st sc nm ns xs H')
      ⟨_, _, _, _, _, _, _, _, rfl, W⟩ (fun _ _ _ _ _ => trivial) ?_ ?_⟩
    · rintro i y σ H4 H5 hi ⟨v3, v4, v5, v6, v7, v8, v9, v10, rfl, W4⟩ ⟨rfl, rfl⟩
      refine ⟨_, rfl, _, rfl, st, sc, ns, rfl, W4.hst, W4.hsc, fun sd H6 N6 => ?_⟩
      have W6 := W4.nx N6
      refine ⟨_, rfl, _, rfl, st, sc, ns, rfl, W6.hst, W6.hsc, fun rn H7 N7 => ?_⟩
      have W7 := W6.nx N7
      refine ⟨_, rfl, _, rfl, _, rfl, nm, _, rfl, .inl (SqL.of W7.hnm), st, sc, _, ns, rfl, W7.hst, W7.hsc, by rw [lm]; omega, by rw [lm]; omega, fun pl H8 b0 b1 N8 => ?_⟩
      have W8 := W7.nx N8
      rw [lm] at b1
      obtain ⟨y, hy⟩ : ∃ y, xs[pl.toNat]? = some y := ⟨_, List.getElem?_eq_getElem (by omega)⟩
      have hat : atI (xs.map V.str) pl = some (.str y) := at_of (j := pl.toNat) (by omega) (by rw [List.getElem?_map, hy]; rfl)
      -- the others
      refine ⟨_, rfl, nm, rfl, ⟨_, SqL.of W8.hnm⟩, fun D hD => lc_list (K := K) (a := nm) (xs := xs.map V.str) (fun i H' => H' = upd H8 D (.lst ((wo y (xs.take i)).map V.str))) (by rw [List.take_zero]; rfl)
        (fun i H' _ e => by rw [e]; exact SqL.of ((upd_ne (ne_of_none W8.hnm hD)).trans W8.hnm)) ?_ ?_⟩
      · rintro i v H9 hv rfl
        obtain ⟨x, hx, rfl⟩ := str_at hv
        refine ⟨rfl, _, rfl, _, rfl, _, rfl, nm, _, _, _, rfl, rfl, SqL.of ((upd_ne (ne_of_none W8.hnm hD)).trans W8.hnm), hat, rfl, _, rfl, ?_⟩
        refine ite2 (fun hn => ?_) (fun hn => ?_)
        · refine ⟨_, rfl, _, upd_same, by rw [List.length_map]; exact small1000 (Nat.le_trans in_step (by omega)), ?_⟩
          rw [upd_upd, wo_yes hx (kept_ne hn), List.map_append]
          rfl
        · rw [left_eq hn] at hx
          rw [wo_no hx]
      · rintro H9 rfl
        rw [take_all]
        have W9 := W8.new (o := .lst ((wo y xs).map V.str)) hD
        -- the whole order
        refine ⟨_, rfl, _, rfl, _, rfl, nm, _, rfl, .inl ⟨SqL.of W9.hnm, fun l hl => ?_⟩⟩
        have W10 := W9.new (o := .tup (xs.map V.str)) hl
        refine ⟨sd, rn, l, xs, rfl, SqT.of upd_same, by omega, W10.htb, fun p H11 e11 T11 hp => ?_⟩
        have W11 := W10.ext e11 T11
        have D11 : H11 D = some (.lst ((wo y xs).map V.str)) := e11 _ _ ((upd_ne (ne_of_none upd_same hl)).trans upd_same) fun ps z => by cases z
        have lo : (ordL sd rn xs).length = xs.length := ordL_len sd rn xs
        refine ⟨_, rfl, _, _, _, _, true, rfl, .ty _, .base (.tup hp), kit_ty (by decide +kernel), _, rfl, iteF ?_⟩
        refine ⟨_, rfl, p, _, rfl, .inr (SqT.of hp), fun q hq => ⟨q, ordL sd rn xs, rfl, SqL.of upd_same, by omega, fun ys q1 pm1 s1 hq1 => ⟨_, rfl, nm, xs, rfl, SqL.of ((W11.new hq).new hq1).hnm, by omega, fun ys2 q2 pm2 s2 hq2 => ?_⟩⟩⟩
        obtain rfl : ys = ys2 := sortedS_one s1 s2 (pm1.trans ((ordL_perm sd rn xs).trans pm2.symm))
        have W12 := ((W11.new hq (o := .lst ((ordL sd rn xs).map V.str))).new hq1 (o := .lst (ys.map V.str))).new hq2 (o := .lst (ys.map V.str))
        have okY : ∀ x ∈ ys, OkT x := fun x hx => okx x (pm2.mem_iff.mp hx)
        refine ⟨_, _, .lst (SqL.of ((upd_ne (ne_of_none upd_same hq2)).trans upd_same)) (dp_strs _), .lst (SqL.of upd_same) (dp_strs _), shaped_strs okY, shaped_strs okY, _, rfl, ?_⟩
        rw [SeqAt.eqv_refl _ (SeqAt.canLay_of_shaped (shaped_strs okY))]
        refine iteF ?_
        have up3 := ((same_new hq (o := .lst ((ordL sd rn xs).map V.str))).trans (same_new hq1 (o := .lst (ys.map V.str)))).trans (same_new hq2 (o := .lst (ys.map V.str)))
        -- the order without y
        refine ⟨_, rfl, p, rfl, ⟨_, SqT.of (up3 _ _ hp)⟩, fun D2 hD2 => lc_tup (K := K) (a := p) (xs := (ordL sd rn xs).map V.str) (fun i H' => H' = upd (upd (upd (upd H11 q (.lst ((ordL sd rn xs).map V.str))) q1 (.lst (ys.map V.str))) q2 (.lst (ys.map V.str))) D2 (.lst ((wo y ((ordL sd rn xs).take i)).map V.str)))
          (by rw [List.take_zero]; rfl) (fun i H' _ e => by rw [e]; exact SqT.of (same_new hD2 _ _ (up3 _ _ hp))) ?_ ?_⟩
        · rintro i v H13 hv rfl
          obtain ⟨x, hx, rfl⟩ := str_at hv
          refine ⟨rfl, _, rfl, _, rfl, _, rfl, nm, _, _, _, rfl, rfl, SqL.of (same_new hD2 _ _ W12.hnm), hat, rfl, _, rfl, ?_⟩
          refine ite2 (fun hn => ?_) (fun hn => ?_)
          · refine ⟨_, rfl, _, upd_same, by rw [List.length_map]; exact small1000 (Nat.le_trans in_step (by omega)), ?_⟩
            rw [upd_upd, wo_yes hx (kept_ne hn), List.map_append]
            rfl
          · rw [left_eq hn] at hx
            rw [wo_no hx]
        · rintro H13 rfl
          rw [take_all]
          have W13 := W12.new (o := .lst ((wo y (ordL sd rn xs)).map V.str)) hD2
          refine ⟨D2, _, rfl, .inl ⟨SqL.of upd_same, fun u hu => ?_⟩⟩
          have W14 := W13.new (o := .tup ((wo y (ordL sd rn xs)).map V.str)) hu
          have D14 := same_new hu (o := .tup ((wo y (ordL sd rn xs)).map V.str)) _ _ (same_new hD2 (o := .lst ((wo y (ordL sd rn xs)).map V.str)) _ _ (up3 _ _ D11))
          -- the order of the others is the same
          refine ⟨_, rfl, _, rfl, _, rfl, D, _, rfl, .inl ⟨SqL.of D14, fun l2 hl2 => ?_⟩⟩
          have W15 := W14.new (o := .tup ((wo y xs).map V.str)) hl2
          have lw : (wo y xs).length ≤ xs.length := wo_len y xs
          refine ⟨sd, rn, l2, wo y xs, rfl, SqT.of upd_same, by omega, W15.htb, fun p2 H16 e16 T16 hp2 => ?_⟩
          have W16 := W15.ext e16 T16
          have u16 : H16 u = some (.tup ((wo y (ordL sd rn xs)).map V.str)) := e16 _ _ (same_new hl2 _ _ upd_same) fun ps z => by cases z
          have ew : wo y (ordL sd rn xs) = ordL sd rn (wo y xs) := ordL_filter sd rn _ xs
          rw [ew] at u16
          have lz : (ordL sd rn (wo y xs)).length = (wo y xs).length := ordL_len _ _ _
          refine ⟨_, rfl, p2, u, ordL sd rn (wo y xs), rfl, hp2, u16, by omega, _, rfl, iteF ?_⟩
          -- the order of y alone
          refine ⟨_, rfl, _, rfl, _, rfl, _, rfl, nm, _, _, _, rfl, rfl, SqL.of W16.hnm, hat, by show 1 ≤ sizeLine; decide, fun l3 hl3 => ?_⟩
          have W17 := W16.new (o := .tup [.str y]) hl3
          refine ⟨sd, rn, l3, [y], rfl, SqT.of upd_same, by show 1 ≤ 1000; decide, W17.htb, fun p3 H18 e18 T18 hp3 => ?_⟩
          have W18 := W17.ext e18 T18
          rw [ordL_one] at hp3
          refine ⟨_, rfl, _, rfl, nm, _, _, _, rfl, rfl, SqL.of W18.hnm, hat, by show 1 ≤ sizeLine; decide, fun l4 hl4 => ?_⟩
          refine ⟨p3, l4, [y], rfl, same_new hl4 _ _ hp3, upd_same, by show 1 ≤ 1000; decide, _, rfl, iteF ?_⟩
          exact ⟨_, _, _, _, _, _, _, _, rfl, W18.new hl4⟩
    · rintro σ H4 ⟨v3, v4, v5, v6, v7, v8, v9, v10, rfl, W4⟩
      exact k _
end
end K21
/-! K21, the end. -/
namespace K21
open PySem PySem.Spec PyProof.Rows L2 LamX
theorem all_mk {P : Program} {w : World} {K : PySem.W.Frag} {h : Heap} {mg : Str → Option Value} {fa : Addr} {tM : Tok} (X : K.In h) (G : h.Ns mainGlobals mg) (hfa : mg "law" = some (.ref fa))
    {f1 f2 f3 f4 f5 f6 f7 f8 f9 f10 : Addr} {od1 an1 od2 an2 od3 an3 od4 an4 od5 an5 od6 an6 od7 an7 od8 an8 od9 an9 od10 an10 : Option Addr} {sl1 sl2 sl3 sl4 sl5 sl6 sl7 sl8 sl9 sl10 : Array (Option Value)}
    {oc1 kV1 dc1 pm1 cd1 ct1 oc2 kV2 dc2 pm2 cd2 ct2 oc3 kV3 dc3 pm3 cd3 ct3 oc4 kV4 dc4 pm4 cd4 ct4 oc5 kV5 dc5 pm5 cd5 ct5 oc6 kV6 dc6 pm6 cd6 ct6 oc7 kV7 dc7 pm7 cd7 ct7 oc8 kV8 dc8 pm8 cd8 ct8 oc9 kV9 dc9 pm9 cd9 ct9 oc10 kV10 dc10 pm10 cd10 ct10 : Value}
    (a1 : PySem.W.nsIn K mainGlobals "rank" = some (some (.ref f1))) (l1 : K.lookup f1 = some ⟨oc1, od1, .func (PySem.W.fnOf "rank" "rank" (defArgs sRank) (defBody sRank) (defScope sRank) .none kV1 dc1 pm1 an1 cd1 ct1), sl1⟩) (c1 : PySem.W.codeIn K cd1 "rank" = true) (k1 : PySem.W.keepIn K (.ref f1) = true)
    (a2 : PySem.W.nsIn K mainGlobals "order" = some (some (.ref f2))) (l2 : K.lookup f2 = some ⟨oc2, od2, .func (PySem.W.fnOf "order" "order" (defArgs sOrder) (defBody sOrder) (defScope sOrder) .none kV2 dc2 pm2 an2 cd2 ct2), sl2⟩) (c2 : PySem.W.codeIn K cd2 "order" = true) (k2 : PySem.W.keepIn K (.ref f2) = true)
    (a3 : PySem.W.nsIn K mainGlobals "_law_pick" = some (some (.ref f3))) (l3 : K.lookup f3 = some ⟨oc3, od3, .func (PySem.W.fnOf "_law_pick" "_law_pick" (defArgs sPick) (defBody sPick) (defScope sPick) .none kV3 dc3 pm3 an3 cd3 ct3), sl3⟩) (c3 : PySem.W.codeIn K cd3 "_law_pick" = true) (k3 : PySem.W.keepIn K (.ref f3) = true)
    (a4 : PySem.W.nsIn K mainGlobals "_law_name" = some (some (.ref f4))) (l4 : K.lookup f4 = some ⟨oc4, od4, .func (PySem.W.fnOf "_law_name" "_law_name" (defArgs sName) (defBody sName) (defScope sName) .none kV4 dc4 pm4 an4 cd4 ct4), sl4⟩) (c4 : PySem.W.codeIn K cd4 "_law_name" = true) (k4 : PySem.W.keepIn K (.ref f4) = true)
    (a5 : PySem.W.nsIn K mainGlobals "_law_new" = some (some (.ref f5))) (l5 : K.lookup f5 = some ⟨oc5, od5, .func (PySem.W.fnOf "_law_new" "_law_new" (defArgs sNew) (defBody sNew) (defScope sNew) .none kV5 dc5 pm5 an5 cd5 ct5), sl5⟩) (c5 : PySem.W.codeIn K cd5 "_law_new" = true) (k5 : PySem.W.keepIn K (.ref f5) = true)
    (a6 : PySem.W.nsIn K mainGlobals "_law_same" = some (some (.ref f6))) (l6 : K.lookup f6 = some ⟨oc6, od6, .func (PySem.W.fnOf "_law_same" "_law_same" (defArgs sSame) (defBody sSame) (defScope sSame) .none kV6 dc6 pm6 an6 cd6 ct6), sl6⟩) (c6 : PySem.W.codeIn K cd6 "_law_same" = true) (k6 : PySem.W.keepIn K (.ref f6) = true)
    (a7 : PySem.W.nsIn K mainGlobals "_law_names" = some (some (.ref f7))) (l7 : K.lookup f7 = some ⟨oc7, od7, .func (PySem.W.fnOf "_law_names" "_law_names" (defArgs sNames) (defBody sNames) (defScope sNames) .none kV7 dc7 pm7 an7 cd7 ct7), sl7⟩) (c7 : PySem.W.codeIn K cd7 "_law_names" = true) (k7 : PySem.W.keepIn K (.ref f7) = true)
    (a8 : PySem.W.nsIn K mainGlobals "_law_seed" = some (some (.ref f8))) (l8 : K.lookup f8 = some ⟨oc8, od8, .func (PySem.W.fnOf "_law_seed" "_law_seed" (defArgs sSeed) (defBody sSeed) (defScope sSeed) .none kV8 dc8 pm8 an8 cd8 ct8), sl8⟩) (c8 : PySem.W.codeIn K cd8 "_law_seed" = true) (k8 : PySem.W.keepIn K (.ref f8) = true)
    (a9 : PySem.W.nsIn K mainGlobals "_law_round" = some (some (.ref f9))) (l9 : K.lookup f9 = some ⟨oc9, od9, .func (PySem.W.fnOf "_law_round" "_law_round" (defArgs sRound) (defBody sRound) (defScope sRound) .none kV9 dc9 pm9 an9 cd9 ct9), sl9⟩) (c9 : PySem.W.codeIn K cd9 "_law_round" = true) (k9 : PySem.W.keepIn K (.ref f9) = true)
    (a10 : PySem.W.nsIn K mainGlobals "law" = some (some (.ref f10))) (l10 : K.lookup f10 = some ⟨oc10, od10, .func (PySem.W.fnOf "law" "law" (defArgs sLaw) (defBody sLaw) (defScope sLaw) .none kV10 dc10 pm10 an10 cd10 ct10), sl10⟩) (c10 : PySem.W.codeIn K cd10 "law" = true) (k10 : PySem.W.keepIn K (.ref f10) = true)
    (zM : PySem.W.nsIn K mainGlobals "MODULUS" = some (some (.int 1000003 tM)))
    (z0 : PySem.W.nsIn K mainGlobals "ord" = some none)
    (z1 : PySem.W.nsIn K mainGlobals "sorted" = some none)
    (z2 : PySem.W.nsIn K mainGlobals "tuple" = some none)
    (z3 : PySem.W.nsIn K mainGlobals "int" = some none)
    (z4 : PySem.W.nsIn K mainGlobals "len" = some none)
    (z5 : PySem.W.nsIn K mainGlobals "abs" = some none)
    (z6 : PySem.W.nsIn K mainGlobals "range" = some none)
    (z7 : PySem.W.nsIn K mainGlobals "str" = some none)
    (z8 : PySem.W.nsIn K mainGlobals "isinstance" = some none)
    (z9 : PySem.W.nsIn K mainGlobals "list" = some none) :
    ∃ (fo : Addr) (oo : Obj) (fdo : FuncData), mg "order" = some (.ref fo) ∧ K.lookup fo = some oo ∧ oo.data = .func fdo ∧ ∀ c P' : Addr, fdo.code = .ref c → ∃ fd : FuncData, (∀ (s : Shared) (v : Value), BindsTo s fd ⟨[v], []⟩ [("_law_script", v)]) ∧
      ∀ base : Heap, K.In base → base.Ns mainGlobals mg → TabB base mg c P' → FnOk P w K mg base CX0 6 fa fd ["_law_script"] (spLaw K [(P', qLam)]) := by
  have e := hfa.symm.trans (PySem.W.mg_of X G a10)
  cases e
  have m1 := PySem.W.mg_of X G a1
  have m2 := PySem.W.mg_of X G a2
  have m3 := PySem.W.mg_of X G a3
  have m4 := PySem.W.mg_of X G a4
  have m5 := PySem.W.mg_of X G a5
  have m6 := PySem.W.mg_of X G a6
  have m7 := PySem.W.mg_of X G a7
  have m8 := PySem.W.mg_of X G a8
  have m9 := PySem.W.mg_of X G a9
  have mM := PySem.W.mg_of X G zM
  have y0 := PySem.W.mg_none_of X G z0
  have y1 := PySem.W.mg_none_of X G z1
  have y2 := PySem.W.mg_none_of X G z2
  have y3 := PySem.W.mg_none_of X G z3
  have y4 := PySem.W.mg_none_of X G z4
  have y5 := PySem.W.mg_none_of X G z5
  have y6 := PySem.W.mg_none_of X G z6
  have y7 := PySem.W.mg_none_of X G z7
  have y8 := PySem.W.mg_none_of X G z8
  have y9 := PySem.W.mg_none_of X G z9
  refine ⟨f2, _, _, m2, l2, rfl, fun c P' hc => ?_⟩
  have hc2 : cd2 = .ref c := hc
  subst hc2
  have F1 := fun_mk (st := sRank) l1 c1 k1
  have F2 := fun_mk (st := sOrder) l2 c2 k2
  have F3 := fun_mk (st := sPick) l3 c3 k3
  have F4 := fun_mk (st := sName) l4 c4 k4
  have F5 := fun_mk (st := sNew) l5 c5 k5
  have F6 := fun_mk (st := sSame) l6 c6 k6
  have F7 := fun_mk (st := sNames) l7 c7 k7
  have F8 := fun_mk (st := sSeed) l8 c8 k8
  have F9 := fun_mk (st := sRound) l9 c9 k9
  have F10 := fun_mk (st := sLaw) l10 c10 k10
  have b1 := F1.binds (ps := ["seed", "round_number", "name"]) fun _ _ _ _ _ _ us hl => match us, hl with | [_, _, _], _ => rfl
  have b2 := F2.binds (ps := psOrd) fun _ _ _ _ _ _ us hl => match us, hl with | [_, _, _], _ => rfl
  have b3 := F3.binds (ps := psPick) fun _ _ _ _ _ _ us hl => match us, hl with | [_, _, _], _ => rfl
  have b4 := F4.binds (ps := psTwo) fun _ _ _ _ _ _ us hl => match us, hl with | [_, _], _ => rfl
  have b5 := F5.binds (ps := ["_law_taken", "_law_word"]) fun _ _ _ _ _ _ us hl => match us, hl with | [_, _], _ => rfl
  have b6 := F6.binds (ps := psSame) fun _ _ _ _ _ _ us hl => match us, hl with | [_, _], _ => rfl
  have b7 := F7.binds (ps := psPick) fun _ _ _ _ _ _ us hl => match us, hl with | [_, _, _], _ => rfl
  have b8 := F8.binds (ps := psTwo) fun _ _ _ _ _ _ us hl => match us, hl with | [_, _], _ => rfl
  have b9 := F9.binds (ps := psTwo) fun _ _ _ _ _ _ us hl => match us, hl with | [_, _], _ => rfl
  refine ⟨PySem.W.fnOf "law" "law" (defArgs sLaw) (defBody sLaw) (defScope sLaw) .none kV10 dc10 pm10 an10 cd10 ct10, fun s v => .of_eq rfl, fun base _ _ TB => ?_⟩
  have R1 : FnOk P w K mg base CX0 1 f1 _ ["seed", "round_number", "name"] spRank := ok_rank F1 ⟨_, mM⟩ y0
  have R2 := ok_order (P := P) (w := w) l2 c2 TB R1 m1 k1 b1 y1 y2
  have R3 : FnOk P w K mg base CX0 1 f3 _ psPick (spPick K) := ok_pick F3 y3 y4 y5
  have R4 := ok_name F4 R3 m3 k3 b3 y6
  have R5 : FnOk P w K mg base CX0 1 f5 _ ["_law_taken", "_law_word"] (spNew K) := ok_new F5 y6 y7
  have R6 : FnOk P w K mg base CX0 2 f6 _ psSame spSameT := ok_sameT F6 ⟨y8, y2, y4, y6, y3, y7⟩ m6 k6 b6
  have R7 := ok_names F7 R4 m4 k4 b4 R5 m5 k5 b5 y6
  have R8 := ok_seed F8 R3 m3 k3 b3
  have R9 := ok_round F9 R3 m3 k3 b3
  exact ok_law F10 ⟨y6, y4, y2, y8, y1, y9⟩ ⟨R3, m3, k3, b3⟩ ⟨R7, m7, k7, b7⟩ ⟨R8, m8, k8, b8⟩ ⟨R9, m9, k9, b9⟩ ⟨R2, m2, k2, b2⟩ ⟨R6, m6, k6, b6⟩
/-- the end, with order's own code table -/
theorem walk {l : PySem.W.OpenLaw} {q : Program} {loose : List Str} {XP : (Str → Option Value) → Heap → Prop} {YP : World → Heap → Prop} {d : DefRec} {K : Params → PySem.W.Frag} (hn : l.most = some 63) (hdf : d.params.defaults = [])
    (hY : ∀ (w : World) (h : Heap), YP w h → (K w.params).In h) (hO : ((recsOf q).any fun e => e.name == ("order" : Str)) = true) (nT : ∀ w : World, PySem.W.noTabs (K w.params) = true)
    (F : ∀ (w : World) (mg : Str → Option Value) (fa : Addr) (h : Heap), (K w.params).In h → h.Ns mainGlobals mg → mg d.name = some (.ref fa) →
      ∃ (fo : Addr) (oo : Obj) (fdo : FuncData), mg "order" = some (.ref fo) ∧ (K w.params).lookup fo = some oo ∧ oo.data = .func fdo ∧ ∀ c P' : Addr, fdo.code = .ref c → ∃ fd : FuncData, (∀ (s : Shared) (v : Value), BindsTo s fd ⟨[v], []⟩ [("_law_script", v)]) ∧
        ∀ base : Heap, (K w.params).In base → base.Ns mainGlobals mg → TabB base mg c P' → FnOk l.prog w (K w.params) mg base CX0 6 fa fd ["_law_script"] (spLaw (K w.params) [(P', qLam)])) :
    PySem.W.WalkO q loose XP YP l.row.toRowW d [] (fun f vs => PySem.call f vs) := by
  refine Att.attach_callB hn hdf fun w s₀ s₁ mg mb fa o pm cd doc a vs ns G Y ho hd hcd hmg hobj hints hlen hbits hg => ?_
  have KX := hY w _ Y
  obtain ⟨fo, oo, fdo, mO, lO, dO, hF⟩ := F w mg fa _ KX G.T.g hmg
  obtain ⟨r, hr, hr1⟩ := List.any_eq_true.mp hO
  have hr2 : r.name = ("order" : Str) := beq_iff_eq.mp hr1
  obtain ⟨a', o', fd', c, P', h1, h2, h3, h4, h5, h6⟩ := G.T.tab r hr
  rw [hr2, mO] at h1
  cases h1
  rw [KX _ _ lO] at h2
  cases h2
  rw [dO] at h3
  cases h3
  obtain ⟨fd, hb, hFn⟩ := hF c P' h4
  have hP : s₁.heap.get? P' = some { cls := .none, data := .fields #[] } := h6.2
  have noP : (K w.params).lookup P' = none := by
    cases e : (K w.params).lookup P' with
    | none => rfl
    | some o2 =>
      have e2 := KX _ _ e
      rw [hP] at e2
      have e3 := List.all_eq_true.mp (nT w) _ (PySem.W.mem_of_lookupK e)
      cases e2
      exact absurd (show false = true from e3) Bool.false_ne_true
  have one : ∀ {p : Addr × Addr}, p ∈ [(c, P')] → p = (c, P') := fun hp => List.mem_singleton.mp hp
  refine law_callTs (cs := [(c, P')]) (k := 6) (CX := CX0) (sp := spLaw (K w.params) [(P', qLam)]) KX G.T.g G.T.b G.T.builtins G.T.nolimit hg (fun p hp => by rw [one hp]; exact hP) (fun p hp => by rw [one hp]; exact noP) (fun p hp => by rw [one hp]; exact PySem.W.CodeHd.of h5 h6) G.T.bmain hobj hints
    (Nat.le_trans hlen (by decide)) ⟨rfl, by decide, by decide⟩ (fun base hK hN hTB => hFn base hK hN (hTB _ (.head _))) hb (fun H hH hS => ⟨a, ns, rfl, hS, hlen, fun p hp => ?_, fun _ => rfl⟩) fun _ _ _ z => z
  obtain rfl := List.mem_singleton.mp hp
  exact TabS.nil (hH (c, P') (.head _))
end K21

open PySem PySem.W PyProof.Rows in
set_option maxRecDepth 100000 in
set_option maxHeartbeats 0 in
theorem PySem.Challenge.cw_lasttext_k21_whole_orders_keep_the_other_holds : PySem.Challenge.rw_lasttext_k21_whole_orders_keep_the_other.Holds := by
  w_on; o_law; k_head; (case hw => w_witness2)
  k_fill
  refine K21.walk (l := PySem.Challenge.rw_lasttext_k21_whole_orders_keep_the_other) rfl rfl (fun w h Y => PySem.W.km_in_of Y) ?kO ?kT ?kF
  case kO => first | rfl | decide +kernel
  case kT =>
    intro w
    kernel_rfl
  case kF =>
    intro w mg fa h KX G hmg
    refine' K21.all_mk KX G hmg ?a1 ?l1 ?c1 ?k1 ?a2 ?l2 ?c2 ?k2 ?a3 ?l3 ?c3 ?k3 ?a4 ?l4 ?c4 ?k4 ?a5 ?l5 ?c5 ?k5 ?a6 ?l6 ?c6 ?k6 ?a7 ?l7 ?c7 ?k7 ?a8 ?l8 ?c8 ?k8 ?a9 ?l9 ?c9 ?k9 ?a10 ?l10 ?c10 ?k10 ?zM ?z0 ?z1 ?z2 ?z3 ?z4 ?z5 ?z6 ?z7 ?z8 ?z9
    (case a1 => k_is)
    (case l1 => k_is)
    (case c1 => k_is)
    (case k1 => k_is)
    (case a2 => k_is)
    (case l2 => k_is)
    (case c2 => k_is)
    (case k2 => k_is)
    (case a3 => k_is)
    (case l3 => k_is)
    (case c3 => k_is)
    (case k3 => k_is)
    (case a4 => k_is)
    (case l4 => k_is)
    (case c4 => k_is)
    (case k4 => k_is)
    (case a5 => k_is)
    (case l5 => k_is)
    (case c5 => k_is)
    (case k5 => k_is)
    (case a6 => k_is)
    (case l6 => k_is)
    (case c6 => k_is)
    (case k6 => k_is)
    (case a7 => k_is)
    (case l7 => k_is)
    (case c7 => k_is)
    (case k7 => k_is)
    (case a8 => k_is)
    (case l8 => k_is)
    (case c8 => k_is)
    (case k8 => k_is)
    (case a9 => k_is)
    (case l9 => k_is)
    (case c9 => k_is)
    (case k9 => k_is)
    (case a10 => k_is)
    (case l10 => k_is)
    (case c10 => k_is)
    (case k10 => k_is)
    (case zM => k_is)
    (case z0 => k_is)
    (case z1 => k_is)
    (case z2 => k_is)
    (case z3 => k_is)
    (case z4 => k_is)
    (case z5 => k_is)
    (case z6 => k_is)
    (case z7 => k_is)
    (case z8 => k_is)
    (case z9 => k_is)
