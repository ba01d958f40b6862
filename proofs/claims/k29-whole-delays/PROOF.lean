import PyProof.Rows.All
import Wide.All
import OpenK.AllK
import Wide.FinOn
import HandS.ForMost
import HandS.Exc
import HandS.ExcOwn
import HandS.TryOnly
import HandS.WordsExc
import HandS.Defaults
import HandS.MakeKwOnly
import HandS.IsInst
import HandS.ExcIs
import HandS.Wide
import PySem.Challenge.RW_signoff_k29_whole_delays_of_wires
set_option Elab.async false
set_option linter.all false
set_option maxRecDepth 100000
set_option maxHeartbeats 16000000
/-! The mathematics of trees of wires, with no program in sight. -/
namespace K29
/-- the path of a node, the root left out; ps[k] is the parent of node k + 1 -/
def pthT (ps : List Nat) (n : Nat) : List Nat :=
  match n with
  | 0 => []
  | n + 1 => pthT ps (min (ps.getD n 0) n) ++ [n + 1]
termination_by n
decreasing_by omega
/-- the path of a node, from the root -/
def pth (ps : List Nat) (n : Nat) : List Nat := 0 :: pthT ps n
/-- a parent is not above its node -/
def Par (ps : List Nat) : Prop := ∀ (k p : Nat), ps[k]? = some p → p ≤ k
theorem pthT_zero (ps : List Nat) : pthT ps 0 = [] := by unfold pthT; rfl
theorem pth_zero (ps : List Nat) : pth ps 0 = [0] := by unfold pth; rw [pthT_zero]
theorem pthT_succ {ps : List Nat} {n p : Nat} (hp : Par ps) (h : ps[n]? = some p) : pthT ps (n + 1) = pthT ps p ++ [n + 1] := by
  have hle := hp n p h
  rw [pthT]
  have e : ps.getD n 0 = p := by rw [List.getD_eq_getElem?_getD, h]; rfl
  rw [e, Nat.min_eq_left hle]
theorem pth_succ {ps : List Nat} {n p : Nat} (hp : Par ps) (h : ps[n]? = some p) : pth ps (n + 1) = pth ps p ++ [n + 1] := by
  unfold pth
  rw [pthT_succ hp h]
  rfl
theorem pthT_mem (ps : List Nat) : ∀ (n s : Nat), s ∈ pthT ps n → 1 ≤ s ∧ s ≤ n := by
  intro n
  induction n using Nat.strongRecOn with
  | ind n ih =>
    intro s h
    match n, ih, h with
    | 0, _, h => rw [pthT_zero] at h; cases h
    | n + 1, ih, h =>
      rw [pthT] at h
      rcases List.mem_append.mp h with h | h
      · have q := ih (min (ps.getD n 0) n) (by omega) s h
        omega
      · have e := List.mem_singleton.mp h
        omega
theorem pth_mem {ps : List Nat} {n s : Nat} (h : s ∈ pth ps n) : s ≤ n := by
  rcases List.mem_cons.mp h with e | h
  · omega
  · exact (pthT_mem ps n s h).2
/-- the loop of the law: behind i turns the head h and the rest t -/
theorem found_step {ps : List Nat} {node h p : Nat} {t : List Nat} (hp : Par ps) (e : ps[h]? = some p) (q : pth ps node = pth ps (h + 1) ++ t) : pth ps node = pth ps p ++ ((h + 1) :: t) := by
  rw [q, pth_succ hp e, List.append_assoc]
  rfl
theorem found_end {ps : List Nat} {node : Nat} {t : List Nat} (q : pth ps node = pth ps 0 ++ t) : 0 :: t = pth ps node := by
  rw [q, pth_zero]
  rfl
/-- the loop of the program: L and its last item -/
theorem nodes_step {ps : List Nat} {node x p : Nat} {L : List Nat} (hp : Par ps) (e : ps[x]? = some p) (q : pth ps node = pth ps (x + 1) ++ L.reverse) : pth ps node = pth ps p ++ (L ++ [x + 1]).reverse := by
  rw [q, pth_succ hp e, List.append_assoc, List.reverse_append]
  rfl
theorem nodes_end {ps : List Nat} {node : Nat} {L : List Nat} (q : pth ps node = pth ps 0 ++ L.reverse) : (L ++ [0]).reverse = pth ps node := by
  rw [q, pth_zero, List.reverse_append]
  rfl
/-- the load of node s by the first i nodes -/
def ldU (ps : List Nat) (cs : List Int) (s : Nat) : Nat → Int
  | 0 => 0
  | i + 1 => ldU ps cs s i + (if s ∈ pth ps (i + 1) then cs.getD i 0 else 0)
/-- the nodes below s among 0 .. i - 1 -/
def bel (ps : List Nat) (s i : Nat) : List Nat := (List.range i).filter fun o => decide (s ∈ pth ps o)
theorem bel_succ (ps : List Nat) (s i : Nat) : bel ps s (i + 1) = bel ps s i ++ (if s ∈ pth ps i then [i] else []) := by
  unfold bel
  rw [List.range_succ, List.filter_append]
  by_cases h : s ∈ pth ps i
  · rw [if_pos h]
    simp [h]
  · rw [if_neg h]
    simp [h]
theorem bel_lt {ps : List Nat} {s i o : Nat} (h : o ∈ bel ps s i) : o < i := by
  unfold bel at h
  exact List.mem_range.mp (List.mem_filter.mp h).1
theorem bel_pos {ps : List Nat} {s i o : Nat} (hs : 1 ≤ s) (h : o ∈ bel ps s i) : 1 ≤ o := by
  unfold bel at h
  have q := of_decide_eq_true (List.mem_filter.mp h).2
  have z := pth_mem q
  omega
theorem bel_sum (ps : List Nat) (cs : List Int) {s : Nat} (hs : 1 ≤ s) : ∀ i, ((bel ps s (i + 1)).map fun o => cs.getD (o - 1) 0).sum = ldU ps cs s i
  | 0 => by
    have e : bel ps s 1 = [] := by
      rw [bel_succ]
      have h : ¬ s ∈ pth ps 0 := fun h => by
        have z := pth_mem h
        omega
      rw [if_neg h]
      rfl
    rw [e]
    rfl
  | i + 1 => by
    have ih := bel_sum ps cs hs i
    rw [bel_succ, List.map_append, List.sum_append, ih]
    show _ = ldU ps cs s i + (if s ∈ pth ps (i + 1) then cs.getD i 0 else 0)
    by_cases h : s ∈ pth ps (i + 1)
    · rw [if_pos h, if_pos h]
      simp
    · rw [if_neg h, if_neg h]
      simp
/-- the delay of a node -/
def dl (ps : List Nat) (rs cs : List Int) (node : Nat) : Int := ((pthT ps node).map fun s => rs.getD (s - 1) 0 * ldU ps cs s ps.length).sum
/-- the delay by the first i steps of the path -/
def dlI (ps : List Nat) (rs cs : List Int) (node i : Nat) : Int := (((pthT ps node).take i).map fun s => rs.getD (s - 1) 0 * ldU ps cs s ps.length).sum
theorem dlI_zero (ps : List Nat) (rs cs : List Int) (node : Nat) : dlI ps rs cs node 0 = 0 := by
  unfold dlI
  simp
theorem dlI_succ {ps : List Nat} {rs cs : List Int} {node i s : Nat} (h : (pthT ps node)[i]? = some s) : dlI ps rs cs node (i + 1) = dlI ps rs cs node i + rs.getD (s - 1) 0 * ldU ps cs s ps.length := by
  unfold dlI
  rw [List.take_add_one, h, List.map_append, List.sum_append]
  simp
theorem dlI_end {ps : List Nat} {rs cs : List Int} {node : Nat} : dlI ps rs cs node (pthT ps node).length = dl ps rs cs node := by
  unfold dlI dl
  rw [List.take_length]
/-- every number of the first list is at least 0 and at most its fellow in the second -/
def Le0 (xs ys : List Int) : Prop := ∀ i, 0 ≤ xs.getD i 0 ∧ xs.getD i 0 ≤ ys.getD i 0
theorem ldU_mono {ps : List Nat} {cs ds : List Int} {s : Nat} (h : Le0 cs ds) : ∀ i, 0 ≤ ldU ps cs s i ∧ ldU ps cs s i ≤ ldU ps ds s i
  | 0 => ⟨Int.le_refl _, Int.le_refl _⟩
  | i + 1 => by
    have ih := ldU_mono (ps := ps) (s := s) h i
    have q := h i
    show 0 ≤ ldU ps cs s i + (if s ∈ pth ps (i + 1) then cs.getD i 0 else 0) ∧ ldU ps cs s i + (if s ∈ pth ps (i + 1) then cs.getD i 0 else 0) ≤ ldU ps ds s i + (if s ∈ pth ps (i + 1) then ds.getD i 0 else 0)
    by_cases hs : s ∈ pth ps (i + 1)
    · rw [if_pos hs, if_pos hs]
      omega
    · rw [if_neg hs, if_neg hs]
      omega
theorem sum_mono {f g : Nat → Int} : ∀ l : List Nat, (∀ s ∈ l, f s ≤ g s) → (l.map f).sum ≤ (l.map g).sum
  | [], _ => Int.le_refl _
  | s :: l, h => by
    have ih := sum_mono l fun t ht => h t (List.mem_cons_of_mem _ ht)
    have q := h s List.mem_cons_self
    rw [List.map_cons, List.map_cons, List.sum_cons, List.sum_cons]
    omega
theorem dl_mono {ps : List Nat} {rs rs' cs cs' : List Int} {node : Nat} (hr : Le0 rs rs') (hc : Le0 cs cs') : dl ps rs cs node ≤ dl ps rs' cs' node := by
  unfold dl
  refine sum_mono _ fun s _ => ?_
  have a := hr (s - 1)
  have b := ldU_mono (ps := ps) (s := s) hc ps.length
  exact Int.mul_le_mul a.2 b.2 b.1 (Int.le_trans a.1 a.2)
/-- rounding -/
theorem up_eq {h u : Int} (hu : 1 ≤ u) : -(-h / u) = (h + u - 1) / u := by
  have a := Int.emod_add_mul_ediv (-h) u
  have a1 := Int.emod_nonneg (-h) (show u ≠ 0 by omega)
  have a2 := Int.emod_lt_of_pos (-h) (show 0 < u by omega)
  have q : (h + u - 1) / u = -(-h / u) := by
    have e : h + u - 1 = (u - 1 - (-h) % u) + u * (-(-h / u)) := by
      rw [Int.mul_neg]
      omega
    rw [e, Int.add_mul_ediv_left _ _ (by omega), Int.ediv_eq_zero_of_lt (by omega) (by omega)]
    omega
  exact q.symm
theorem low_ok {l d u : Int} (hu : 1 ≤ u) (h : l ≤ d) : ¬ d < u * (l / u) := by
  have a := Int.emod_add_mul_ediv l u
  have a1 := Int.emod_nonneg l (show u ≠ 0 by omega)
  omega
theorem high_ok {h d u : Int} (hu : 1 ≤ u) (k : d ≤ h) : ¬ u * -(-h / u) < d := by
  have a := Int.emod_add_mul_ediv (-h) u
  have a1 := Int.emod_nonneg (-h) (show u ≠ 0 by omega)
  rw [Int.mul_neg]
  omega
end K29
/-! Three rules that the layer lacks: a method's call whose error is wished for at the caller's slots, the same with keywords, isinstance of the caught error whatever its class is. -/
namespace K29
open PySem PySem.Spec PyProof.Rows L2
section
variable {X : Cx} {CX : CXT} {k n : Nat} {f C : Addr} {fd : FuncData} {ps ks : List Str} {sp : Sp} {dvs : List V} {ds : List Value} {E : L2.St → XK} {m : Str} {pos apos : Pos} {e o : Expr} {es : List Expr} {kws : List Keyword} {ta : TE} {t tk : TA}
  {g : List Value → List Value → List Value} {gV : List V → List V → List V}
/-- as the layer's run of a callee, the wish at the slots σ -/
theorem run_fnX {pins : List (Addr × Obj)} {σ : L2.St} {H : Hp} {s : Shared} {Q : VK} {us : List Value} {vs : List V} (F : FnOk X.prog X.w X.K X.mg X.base CX k f fd ps sp) (hr : Room k X.A) (hb : Binds X.K fd ps ds) (hd : Vals dvs ds) (hx : PassesAt CX X σ (E σ))
    (I : Inv X pins σ H s) (r : Vals vs us) (h : sp (vs ++ dvs) H Q (E σ)) : wpAny (model X.prog X.w) X.A (call (.ref f) us) (EP X pins σ Q) X.xe s := by
  have r2 : Vals (vs ++ dvs) (us ++ ds) := r.append hd
  have hl : (us ++ ds).length = ps.length := by rw [← r2.length]; exact F.len _ _ _ _ h
  refine wpAny_call (codeAny_mono (F.run X.A X.stack s H ⟨us, []⟩ (us ++ ds) (vs ++ dvs) Q (E σ) hr I.env0 (hb s us I.kIn hl) r2 h) fun r s' hq => ?_)
  cases r with
  | error e => exact hx pins H s e s' I hq
  | ok fl =>
    cases fl with
    | ret u => exact I.after hq
    | next => exact False.elim hq
    | brk => exact False.elim hq
    | cont => exact False.elim hq
def tMethX (C : Addr) (m : Str) (sp : Sp) (dvs : List V) (E : L2.St → XK) (ta : TE) (t : TA) : TE := fun σ H Q => ta σ H fun x H1 => ∃ a dx fs, x = .ref a ∧ H1 a = some (.ins C dx fs) ∧ fs.lookup m = none ∧
  t σ H1 fun vs H2 => sp (x :: (vs ++ dvs)) H2 Q (E σ)
/-- o.m(e, ..) -/
theorem pe_methX {pl : Sem Bool} (he : PE X o ta) (c : Cls X.K C) (hm : Meth X.K C m f) (F : FnOk X.prog X.w X.K X.mg X.base CX k f fd ps sp) (hr : Room k X.A) (hb : Binds X.K fd ps ds) (hd : Vals dvs ds) (hx : ∀ σ, PassesAt CX X σ (E σ)) (ha : PA X (e :: es) t)
    (hst : starEach (e :: es) X.env = (false, eval e X.env) :: starEach es X.env := by rfl) (hpl : (backTo pos (starEach es X.env)).any (·.1) = false := by rfl)
    (ht : eval (.Call (.Attribute o m apos) (e :: es) [] pos) X.env = (do
      let ov ← eval o X.env
      standAt apos.atName
      let (f, first) ← holding [ov] (getMethod ov m pl)
      callWith pos f first (backTo pos (starEach (e :: es) X.env)) (backToKw pos (keywordEach [] X.env))) := by rfl) :
    PE X (.Call (.Attribute o m apos) (e :: es) [] pos) (tMethX C m sp dvs E ta t) := by
  refine ⟨fun pins s σ H Q I h => ?_⟩
  refine PySem.W.methodCall_KW (pl := pl) (thn (he.run pins s σ H _ I h) fun u s1 ⟨x, H1, I1, rx, a, dx, fs, ex, ea, l, q⟩ => ?_) ht
  subst ex
  obtain rfl : u = Value.ref a := rx
  refine getmeth_ok I1 ea c hm l ?_
  refine PySem.W.callWith_K (first := [.ref a]) (h₀ := X.base) I.ok.mod.kin hm.kp (thn (ha.run pos pins s1 σ H1 _ I1 q) fun us s2 ⟨vs, H2, I2, r, q2⟩ => ⟨I2.kIn, ?_⟩) hst hpl
  exact run_fnX (E := E) (us := .ref a :: us) (vs := .ref a :: vs) F hr hb hd (hx σ) I2 (.cons rfl r) q2
theorem run_fnKX {pins : List (Addr × Obj)} {σ : L2.St} {H : Hp} {s : Shared} {Q : VK} {us ws : List Value} {vs zs : List V} (F : FnOk X.prog X.w X.K X.mg X.base CX k f fd ps sp) (hr : Room k X.A) (hb : KBn X.K fd ps n ks g gV) (hx : PassesAt CX X σ (E σ))
    (I : Inv X pins σ H s) (r : Vals vs us) (rz : Vals zs ws) (l1 : vs.length = n) (l2 : zs.length = ks.length) (h : sp (gV vs zs) H Q (E σ)) : wpAny (model X.prog X.w) X.A (call (.ref f) us (ks.zip ws)) (EP X pins σ Q) X.xe s := by
  have r2 := hb.rel r rz
  refine wpAny_call (codeAny_mono (F.run X.A X.stack s H ⟨us, ks.zip ws⟩ (g us ws) (gV vs zs) Q (E σ) hr I.env0 (hb.to s us ws I.kIn (r.length.symm.trans l1) (rz.length.symm.trans l2)) r2 h) fun r s' hq => ?_)
  cases r with
  | error e => exact hx pins H s e s' I hq
  | ok fl =>
    cases fl with
    | ret u => exact I.after hq
    | next => exact False.elim hq
    | brk => exact False.elim hq
    | cont => exact False.elim hq
def tMethKX (C : Addr) (m : Str) (n j : Nat) (sp : Sp) (gV : List V → List V → List V) (E : L2.St → XK) (ta : TE) (t tk : TA) : TE := fun σ H Q => ta σ H fun x H1 => ∃ a dx fs, x = .ref a ∧ H1 a = some (.ins C dx fs) ∧ fs.lookup m = none ∧
  t σ H1 fun vs H2 => tk σ H2 fun zs H3 => vs.length + 1 = n ∧ zs.length = j ∧ sp (gV (x :: vs) zs) H3 Q (E σ)
/-- o.m(e, .., k = v, ..) -/
theorem pe_methKX {pl : Sem Bool} (he : PE X o ta) (c : Cls X.K C) (hm : Meth X.K C m f) (F : FnOk X.prog X.w X.K X.mg X.base CX k f fd ps sp) (hr : Room k X.A) (hb : KBn X.K fd ps n ks g gV) (hx : ∀ σ, PassesAt CX X σ (E σ)) (ha : PA X (e :: es) t) (hkw : PK X kws tk)
    (hall : (backToKw pos (keywordEach kws X.env)).all (·.1.isSome) = true := by rfl) (hks : (backToKw pos (keywordEach kws X.env)).filterMap (·.1) = ks := by rfl)
    (hst : starEach (e :: es) X.env = (false, eval e X.env) :: starEach es X.env := by rfl)
    (hpl : ((backTo pos (starEach (e :: es) X.env)).any (·.1) || (backToKw pos (keywordEach kws X.env)).any (·.1.isNone)) = false := by rfl)
    (ht : eval (.Call (.Attribute o m apos) (e :: es) kws pos) X.env = (do
      let ov ← eval o X.env
      standAt apos.atName
      let (f, first) ← holding [ov] (getMethod ov m pl)
      callWith pos f first (backTo pos (starEach (e :: es) X.env)) (backToKw pos (keywordEach kws X.env))) := by rfl) :
    PE X (.Call (.Attribute o m apos) (e :: es) kws pos) (tMethKX C m n ks.length sp gV E ta t tk) := by
  refine ⟨fun pins s σ H Q I h => ?_⟩
  refine PySem.W.methodCall_KW (pl := pl) (thn (he.run pins s σ H _ I h) fun u s1 ⟨x, H1, I1, rx, a, dx, fs, ex, ea, l, q⟩ => ?_) ht
  subst ex
  obtain rfl : u = Value.ref a := rx
  refine getmeth_ok I1 ea c hm l ?_
  refine PySem.W.callWith_KW (first := [.ref a]) (h₀ := X.base) I.ok.mod.kin hm.kp hall (thn (ha.run pos pins s1 σ H1 _ I1 q) fun us s2 ⟨vs, H2, I2, r, q2⟩ => ?_) hpl hst
  refine thn (hkw.run pos pins s2 σ H2 _ I2 q2) fun ws s3 ⟨zs, H3, I3, rz, l1, l2, q3⟩ => ⟨I3.kIn, ?_⟩
  rw [hks]
  exact run_fnKX (E := E) (us := .ref a :: us) (vs := .ref a :: vs) F hr hb (hx σ) I3 (.cons rfl r) rz l1 l2 q3
end
/-- nothing leaves -/
abbrev EN : L2.St → XK := fun _ _ _ _ => False
theorem passN {X : Cx} (σ : L2.St) : PassesAt (L2.CX X.prog X.w) X σ (EN σ) := fun pins H s e s' _ h => by
  obtain ⟨_, _, _, _, _, _, _, _, _, _, _, _, z⟩ := h
  exact z.elim
/-- isinstance(e, T), e the error that the suite holds, of any class that is told of -/
def rIsA (K : PySem.W.Frag) (a : Addr) (cls : Value) (d : Option Addr) : List V → Hp → VK → Prop := fun xs H Q => ∃ D, cls = .ref D ∧ d = none ∧ ExcC K D ∧ rIsE K D a xs H Q
theorem call_isA {X : Cx} {a : Addr} {oe : Obj} {cls : Value} {d : Option Addr} {pn : List (Addr × Obj)} (hz : Zc cls d oe) (hf : ∃ vs, oe.data = .fields vs) : CallR (X.suite a ((a, oe) :: pn)) (.builtin "isinstance") (rIsA X.K a cls d) := by
  intro pins s σ H xs us Q I r h
  obtain ⟨D, rfl, rfl, C, h⟩ := h
  exact call_isE C hz hf pins s σ H xs us Q I r h
end K29
/-! The text by places, and what lies in the heap. -/
namespace K29
open PySem PySem.Spec PyProof.Rows L2
/-! ### the text -/
def topS (i : Nat) : Stmt := PySem.Challenge.pw_signoff_k29_whole_delays_of_wires.main.body.getD i (.Pass ⟨0, 0, 0, 0⟩)
abbrev sInit : Stmt := inClass (topS 7) 0
abbrev sCheck : Stmt := inClass (topS 7) 2
abbrev sPathM : Stmt := inClass (topS 7) 4
abbrev sBelow : Stmt := inClass (topS 7) 5
abbrev sDelayM : Stmt := inClass (topS 7) 6
abbrev sRange : Stmt := inClass (topS 7) 7
abbrev sPool : Stmt := topS 9
abbrev sSpread : Stmt := topS 10
abbrev sDraw : Stmt := topS 11
abbrev sSame : Stmt := topS 12
abbrev sSegs : Stmt := topS 13
abbrev sPath : Stmt := topS 14
abbrev sDelay : Stmt := topS 15
abbrev sRefused : Stmt := topS 16
abbrev sWithin : Stmt := topS 17
abbrev sLaw : Stmt := topS 18
/-! ### heaps -/
theorem same_upd {H : Hp} {p : Addr} {o : HO} (h : H p = none) : Same H (upd H p o) := fun b x e => by
  rw [upd_ne (ne_of_none e h)]
  exact e
/-- all but what stands at p stands -/
def But (p : Addr) (H H' : Hp) : Prop := ∀ b o, H b = some o → b ≠ p → H' b = some o
theorem But.refl (p : Addr) (H : Hp) : But p H H := fun _ _ e _ => e
theorem But.trans {p : Addr} {H H1 H2 : Hp} (a : But p H H1) (b : But p H1 H2) : But p H H2 := fun c o e n => b c o (a c o e n) n
theorem But.of {p : Addr} {H H' : Hp} (a : Same H H') : But p H H' := fun c o e _ => a c o e
theorem But.upd {p : Addr} {H : Hp} {o : HO} : But p H (upd H p o) := fun c u e n => by
  rw [upd_ne n]
  exact e
theorem But.same {p : Addr} {H H' : Hp} (a : But p H H') (h : H p = none) : Same H H' := fun c o e => a c o e (ne_of_none e h)
/-- the pool's own shape -/
def PoolO (o : HO) : Prop := ∃ (l : Addr) (i v c z : Int), o = .lst [.ref l, .int i, .int v, .int c, .int z]
/-- the pool at p: a list of the script's numbers at l, a place in it, and three numbers -/
def PoolAt (H : Hp) (p l : Addr) : Prop := ∃ (ns : List Int) (i : Nat) (v c z : Int), H p = some (.lst [.ref l, .int (i : Int), .int v, .int c, .int z]) ∧ H l = some (.lst (ns.map V.int)) ∧ l ≠ p ∧ ns.length ≤ 63
theorem PoolAt.same {H H' : Hp} {p l : Addr} (h : PoolAt H p l) (s : Same H H') : PoolAt H' p l := by
  obtain ⟨ns, i, v, c, z, h1, h2, h3, h4⟩ := h
  exact ⟨ns, i, v, c, z, s _ _ h1, s _ _ h2, h3, h4⟩
theorem PoolAt.ne {H : Hp} {p l a : Addr} (h : PoolAt H p l) (ha : H a = none) : a ≠ p ∧ a ≠ l := by
  obtain ⟨ns, i, v, c, z, h1, h2, _⟩ := h
  exact ⟨(ne_of_none h1 ha).symm, (ne_of_none h2 ha).symm⟩
/-- another list changes -/
theorem PoolAt.set {H : Hp} {p l a : Addr} {o : HO} (h : PoolAt H p l) (n1 : a ≠ p) (n2 : a ≠ l) : PoolAt (upd H a o) p l := by
  obtain ⟨ns, i, v, c, z, h1, h2, h3, h4⟩ := h
  exact ⟨ns, i, v, c, z, by rw [upd_ne n1.symm]; exact h1, by rw [upd_ne n2.symm]; exact h2, h3, h4⟩
/-- all but pools stand -/
def Kp (H H' : Hp) : Prop := ∀ b o, H b = some o → ¬ PoolO o → H' b = some o
theorem Kp.refl (H : Hp) : Kp H H := fun _ _ e _ => e
theorem Kp.trans {H H1 H2 : Hp} (a : Kp H H1) (b : Kp H1 H2) : Kp H H2 := fun c o e n => b c o (a c o e n) n
theorem Kp.of {H H' : Hp} (a : Same H H') : Kp H H' := fun c o e _ => a c o e
theorem Kp.but {H H' : Hp} {p l : Addr} (h : PoolAt H p l) (a : But p H H') : Kp H H' := fun c o e n => by
  refine a c o e fun q => ?_
  obtain ⟨ns, i, v, x, z, h1, _⟩ := h
  rw [q, h1] at e
  exact n ⟨l, i, v, x, z, (Option.some.inj e).symm⟩
/-! ### what lies in the heap -/
/-- two lists that go together -/
def All2 {α : Type} (R : V → α → Prop) (vs : List V) (xs : List α) : Prop := vs.length = xs.length ∧ ∀ (i : Nat) v x, vs[i]? = some v → xs[i]? = some x → R v x
theorem All2.mono {α : Type} {R R' : V → α → Prop} {vs : List V} {xs : List α} (h : All2 R vs xs) (k : ∀ v x, R v x → R' v x) : All2 R' vs xs := ⟨h.1, fun i v x a b => k v x (h.2 i v x a b)⟩
theorem All2.nil {α : Type} {R : V → α → Prop} : All2 R [] [] := ⟨rfl, fun i v x a _ => by simp at a⟩
theorem All2.snoc {α : Type} {R : V → α → Prop} {vs : List V} {xs : List α} {v : V} {x : α} (h : All2 R vs xs) (r : R v x) : All2 R (vs ++ [v]) (xs ++ [x]) := by
  refine ⟨by rw [List.length_append, List.length_append, h.1]; rfl, fun i u y a b => ?_⟩
  by_cases hi : i < vs.length
  · rw [List.getElem?_append_left hi] at a
    rw [List.getElem?_append_left (by rw [← h.1]; exact hi)] at b
    exact h.2 i u y a b
  · rw [List.getElem?_append_right (by omega)] at a
    rw [List.getElem?_append_right (by rw [← h.1]; omega), ← h.1] at b
    by_cases e : i - vs.length = 0
    · rw [e] at a b
      have e1 : v = u := Option.some.inj a
      have e2 : x = y := Option.some.inj b
      rw [← e1, ← e2]
      exact r
    · obtain ⟨j, ej⟩ : ∃ j, i - vs.length = j + 1 := ⟨i - vs.length - 1, by omega⟩
      rw [ej] at a
      simp at a
theorem All2.get {α : Type} {R : V → α → Prop} {vs : List V} {xs : List α} (h : All2 R vs xs) {i : Nat} {x : α} (e : xs[i]? = some x) : ∃ v, vs[i]? = some v ∧ R v x := by
  have hi : i < vs.length := by
    rw [h.1]
    exact (List.getElem?_eq_some_iff.mp e).1
  exact ⟨vs[i], List.getElem?_eq_getElem hi, h.2 i _ _ (List.getElem?_eq_getElem hi) e⟩
theorem All2.getV {α : Type} {R : V → α → Prop} {vs : List V} {xs : List α} (h : All2 R vs xs) {i : Nat} {v : V} (e : vs[i]? = some v) : ∃ x, xs[i]? = some x ∧ R v x := by
  have hi : i < xs.length := by
    rw [← h.1]
    exact (List.getElem?_eq_some_iff.mp e).1
  exact ⟨xs[i], List.getElem?_eq_getElem hi, h.2 i _ _ e (List.getElem?_eq_getElem hi)⟩
/-- a pair -/
def PairAt (H : Hp) (x : V) (q : Int × Int) : Prop := ∃ a, x = .ref a ∧ H a = some (.tup [.int q.1, .int q.2])
theorem PairAt.kp {H H' : Hp} {x : V} {q : Int × Int} (k : Kp H H') (h : PairAt H x q) : PairAt H' x q := by
  obtain ⟨a, e, h⟩ := h
  exact ⟨a, e, k _ _ h fun ⟨_, _, _, _, _, z⟩ => nomatch z⟩
/-- a list of pairs at a -/
def PairsAt (H : Hp) (a : Addr) (qs : List (Int × Int)) : Prop := ∃ vs, H a = some (.lst vs) ∧ All2 (PairAt H) vs qs
theorem notPool_refs {vs : List V} (h : ∀ (i : Nat) v, vs[i]? = some v → ∃ a, v = .ref a) : ¬ PoolO (.lst vs) := fun ⟨l, i, v, c, z, e⟩ => by
  injection e with e
  obtain ⟨a, q⟩ := h 1 (.int i) (by rw [e]; rfl)
  cases q
theorem PairsAt.kp {H H' : Hp} {a : Addr} {qs : List (Int × Int)} (k : Kp H H') (h : PairsAt H a qs) : PairsAt H' a qs := by
  obtain ⟨vs, e, h⟩ := h
  refine ⟨vs, k _ _ e (notPool_refs fun i v q => ?_), h.mono fun v x r => r.kp k⟩
  obtain ⟨x, _, b, eb, _⟩ := h.getV q
  exact ⟨b, eb⟩
theorem PairsAt.sq {K : PySem.W.Frag} {H : Hp} {a : Addr} {qs : List (Int × Int)} (h : PairsAt H a qs) : ∃ vs, SqL K H a vs ∧ All2 (PairAt H) vs qs := by
  obtain ⟨vs, e, h⟩ := h
  exact ⟨vs, SqL.of e, h⟩
/-- a list of ints at a -/
def IntsAt (H : Hp) (a : Addr) (ns : List Int) : Prop := H a = some (.lst (ns.map V.int))
theorem notPool_ints (ns : List Int) : ¬ PoolO (.lst (ns.map V.int)) := fun ⟨l, i, v, c, z, e⟩ => by
  injection e with e
  cases ns with
  | nil => cases e
  | cons n r =>
    injection e with e _
    cases e
theorem IntsAt.kp {H H' : Hp} {a : Addr} {ns : List Int} (k : Kp H H') (h : IntsAt H a ns) : IntsAt H' a ns := k _ _ h (notPool_ints ns)
/-- a segment: its parent, its two ranges -/
structure Seg where
  par : Nat
  r : Int × Int
  c : Int × Int
/-- a triple -/
def SegAt (H : Hp) (v : V) (s : Seg) : Prop := ∃ t x y, v = .ref t ∧ H t = some (.tup [.int (s.par : Int), x, y]) ∧ PairAt H x s.r ∧ PairAt H y s.c
theorem SegAt.kp {H H' : Hp} {v : V} {s : Seg} (k : Kp H H') (h : SegAt H v s) : SegAt H' v s := by
  obtain ⟨t, x, y, e, h, a, b⟩ := h
  exact ⟨t, x, y, e, k _ _ h (fun ⟨_, _, _, _, _, z⟩ => nomatch z), a.kp k, b.kp k⟩
/-- the list of the triples -/
def SegsAt (H : Hp) (a : Addr) (ss : List Seg) : Prop := ∃ vs, H a = some (.lst vs) ∧ All2 (SegAt H) vs ss
theorem SegsAt.kp {H H' : Hp} {a : Addr} {ss : List Seg} (k : Kp H H') (h : SegsAt H a ss) : SegsAt H' a ss := by
  obtain ⟨vs, e, h⟩ := h
  refine ⟨vs, k _ _ e (notPool_refs fun i v q => ?_), h.mono fun v x r => r.kp k⟩
  obtain ⟨x, _, t, _, _, et, _⟩ := h.getV q
  exact ⟨t, et⟩
/-- what the law's segments keep: parents below, ranges from 0, in order, not great; at most eight -/
structure Good (ss : List Seg) : Prop where
  par : Par (ss.map (·.par))
  rng : ∀ s ∈ ss, 0 ≤ s.r.1 ∧ s.r.1 ≤ s.r.2 ∧ s.r.2 < 2 ^ 59 ∧ 0 ≤ s.c.1 ∧ s.c.1 ≤ s.c.2 ∧ s.c.2 < 2 ^ 59
  len : ss.length ≤ 8
/-- the numbers in the slots -/
abbrev nI (n : Nat) : V := .int (n : Int)
/-- the attributes of a tree -/
def flds (a b c : Addr) : List (Str × V) := [("_parents", .ref a), ("_resistances", .ref b), ("_capacitances", .ref c)]
/-- a tree at p -/
def TreeAt (C : Addr) (H : Hp) (p : Addr) (ss : List Seg) : Prop := ∃ dx a b c, H p = some (.ins C dx (flds a b c)) ∧ IntsAt H a (-1 :: ss.map fun s => (s.par : Int)) ∧ PairsAt H b (ss.map (·.r)) ∧ PairsAt H c (ss.map (·.c))
theorem TreeAt.kp {C : Addr} {H H' : Hp} {p : Addr} {ss : List Seg} (k : Kp H H') (h : TreeAt C H p ss) : TreeAt C H' p ss := by
  obtain ⟨dx, a, b, c, h, ha, hb, hc⟩ := h
  exact ⟨dx, a, b, c, k _ _ h (fun ⟨_, _, _, _, _, z⟩ => nomatch z), ha.kp k, hb.kp k, hc.kp k⟩
theorem flds_par (a b c : Addr) : (flds a b c).lookup ("_parents" : Str) = some (.ref a) := by
  unfold flds
  first | rfl | decide +kernel
theorem flds_res (a b c : Addr) : (flds a b c).lookup ("_resistances" : Str) = some (.ref b) := by
  unfold flds
  rw [List.lookup_cons, show (("_resistances" : Str) == "_parents") = false by decide +kernel, List.lookup_cons, show (("_resistances" : Str) == "_resistances") = true by decide +kernel]
theorem flds_cap (a b c : Addr) : (flds a b c).lookup ("_capacitances" : Str) = some (.ref c) := by
  unfold flds
  rw [List.lookup_cons, show (("_capacitances" : Str) == "_parents") = false by decide +kernel, List.lookup_cons, show (("_capacitances" : Str) == "_resistances") = false by decide +kernel, List.lookup_cons, show (("_capacitances" : Str) == "_capacitances") = true by decide +kernel]
theorem flds_no (a b c : Addr) {m : Str} (h1 : (m == ("_parents" : Str)) = false) (h2 : (m == ("_resistances" : Str)) = false) (h3 : (m == ("_capacitances" : Str)) = false) : (flds a b c).lookup m = none := by
  unfold flds
  rw [List.lookup_cons, h1, List.lookup_cons, h2, List.lookup_cons, h3]
  rfl
/-! ### within a comprehension: the written part by its name -/
theorem ixT {X : Cx} (K : PySem.W.Frag) (h : X.K = K) : IxR X (rIxT K) := by
  subst h
  exact ix_tup
theorem ixL {X : Cx} (K : PySem.W.Frag) (h : X.K = K) : IxR X (rIxL K) := by
  subst h
  exact ix_list
theorem opIn {X : Cx} (K : PySem.W.Frag) (h : X.K = K) : OpR X (compareOp .In) (rIn K false) := by
  subst h
  exact op_in_seq
/-! ### lists of ints -/
theorem cut_ints (ns : List Int) (lo hi : Option Int) : ∃ ms : List Int, cutV (ns.map V.int) lo hi = ms.map V.int := by
  unfold cutV
  exact ⟨_, by rw [← List.map_drop, ← List.map_take]⟩
theorem int_at {ns : List Int} {i : Nat} {y : V} (h : (ns.map V.int)[i]? = some y) : ∃ z, ns[i]? = some z ∧ y = .int z := by
  rw [List.getElem?_map] at h
  cases e : ns[i]? with
  | none =>
    rw [e] at h
    cases h
  | some z =>
    rw [e] at h
    exact ⟨z, rfl, (Option.some.inj h).symm⟩
theorem at_int {ns : List Int} {i : Nat} {z : Int} (h : ns[i]? = some z) : (ns.map V.int)[i]? = some (.int z) := by
  rw [List.getElem?_map, h]
  rfl
theorem cut1 (xs : List V) : cutV xs (some 1) none = xs.drop 1 := by
  unfold cutV
  rw [show HT.sIx xs.length 0 (some 1) = min 1 xs.length from HT.sIx_nat xs.length 0 1, HT.sIx_none]
  cases xs with
  | nil => rfl
  | cons x r =>
    have e : min 1 (x :: r).length = 1 := by
      rw [List.length_cons]
      omega
    rw [e]
    show List.take ((x :: r).length - 1) r = r
    rw [List.length_cons, Nat.add_sub_cancel]
    exact List.take_length
end K29
/-! The pool of draws. -/
namespace K29
open PySem PySem.Spec PyProof.Rows L2
/-- the built-ins that the text calls stand as they were -/
structure Bl (mg : Str → Option Value) : Prop where
  int : mg "int" = none
  list : mg "list" = none
  range : mg "range" = none
  len : mg "len" = none
  isi : mg "isinstance" = none
  tuple : mg "tuple" = none
  bool : mg "bool" = none
  sum : mg "sum" = none
  enum : mg "enumerate" = none
def spPool (K : PySem.W.Frag) : Sp := fun vs H Q _ => ∃ (a : Addr) (ns : List Int), vs = [.ref a] ∧ SqL K H a (ns.map V.int) ∧ ns.length ≤ 63 ∧ ∀ H' p l, Same H H' → PoolAt H' p l → H p = none → Q (.ref p) H'
def spSpread : Sp := fun vs H Q _ => ∃ i : Int, vs = [.int i] ∧ ∀ (r : Int), Q (.int r) H
def spDraw : Sp := fun vs H Q _ => ∃ (p l : Addr) (n : Int), vs = [.ref p, .int n] ∧ PoolAt H p l ∧ 1 ≤ n ∧ n < 2 ^ 60 ∧ ∀ (r : Int) H', 0 ≤ r → r < n → But p H H' → PoolAt H' p l → Q (.int r) H'
section
variable {P : Program} {w : World} {K : PySem.W.Frag} {mg : Str → Option Value} {base : Heap}
theorem scPool : FnScope ["_law_script", "_law_salt", "_law_cell"] ["_law_script"] (defScope sPool) := ⟨rfl, rfl, rfl, by decide +kernel, rfl, by decide +kernel, by decide +kernel⟩
theorem ok_pool {f : Addr} {fd : FuncData} (F : Fun K "_law_pool" "_law_pool" sPool f fd) (B : Bl mg) : FnOk P w K mg base CX0 1 f fd ["_law_script"] (spPool K) := by
  refine F.ok scPool (fun vs H Q E h => ?_) (fun cdv A outer s H vs Q E hr h => ?_)
  · obtain ⟨a, ns, rfl, _⟩ := h
    rfl
  · obtain ⟨a, ns, rfl, hS, hlen, k⟩ := h
    refine ⟨_, pss_cons (ps_set (i := 1) scPool.nd rfl (Or.inl rfl) pe_int)
      (pss_cons (ps_for PassesOwn.never rfl (pi_list (pe_slice sl_list (pv 0) po_none (po_some pe_int))) (pg_name (i := 2) scPool.nd rfl (Or.inl rfl))
        (pss_one (ps_set (i := 1) scPool.nd rfl (Or.inl rfl)
          (pe_op op_mod (pe_callTy call_int1 (by rfl) B.int (by decide +kernel) (pa_cons (pe_op op_add (pe_op op_mul (pv 1) pe_int) (pv 2)) pa_nil)) pe_int))))
      (pss_one (ps_ret (pe_lst (pa_cons (pe_callTy call_list_of (by rfl) B.list (by decide +kernel) (pa_cons (pv 0) pa_nil))
        (pa_cons pe_int (pa_cons pe_int (pa_cons pe_int (pa_cons (pv 1) pa_nil))))))))), ?_⟩
    -- the slice
    refine ⟨_, rfl, _, rfl, a, _, rfl, hS, fun c hc => ?_⟩
    obtain ⟨ms, hms⟩ := cut_ints ns none (some 63)
    have s1 : Same H (upd H c (.lst (cutV (ns.map V.int) none (some 63)))) := same_upd hc
    refine ⟨c, rfl, ⟨_, SqL.of upd_same⟩, for_list (K := K) (a := c) (xs := ms.map V.int) (fun i σ H1 => ∃ (z : Int) (v : Option V), σ = [some (.ref a), some (.int z), v] ∧ H1 = upd H c (.lst (cutV (ns.map V.int) none (some 63))))
      ⟨7, none, rfl, rfl⟩ (fun i σ H1 _ ⟨_, _, _, e⟩ => by rw [e, ← hms]; exact SqL.of upd_same) ?_ ?_⟩
    · rintro i y σ H1 hi ⟨z, v, rfl, rfl⟩
      obtain ⟨n, _, rfl⟩ := int_at hi
      refine ⟨_, rfl, _, _, rfl, rfl, Or.inr ⟨by decide, by decide⟩, _, rfl, _, _, rfl, rfl, Or.inl ⟨_, rfl, _, _, rfl, rfl, (by show (0 : Int) < 1000003; decide), ?_⟩⟩
      exact ⟨_, _, rfl, rfl⟩
    · rintro σ H1 ⟨z, v, rfl, rfl⟩
      refine ⟨_, rfl, a, _, rfl, Or.inl (s1.seq hS), fun l hl => ⟨_, rfl, (by show 5 ≤ sizeLine; decide), fun p hp => ?_⟩⟩
      have npl : l ≠ p := fun q => by
        rw [← q, upd_same] at hp
        cases hp
      refine k _ p l (s1.trans ((same_upd hl).trans (same_upd hp))) ⟨ns, 0, 0, 0, z, upd_same, ?_, npl, hlen⟩ ((s1.trans (same_upd hl)).free hp)
      rw [upd_ne npl]
      exact upd_same
end
end K29
/-! One draw from the pool. -/
namespace K29
open PySem PySem.Spec PyProof.Rows L2
/-- a statement, and a word for what stands behind it -/
def tMid (t u : TS) : TS := fun D σ H => ∃ M : L2.St → Hp → Prop, t { D with nx := M } σ H ∧ ∀ σ1 H1, M σ1 H1 → u D σ1 H1
theorem pss_mid {X : Cx} {a : Stmt} {r : List Stmt} {t u : TS} (ha : PS X a t) (hr : PSs X r u) : PSs X (a :: r) (tMid t u) := by
  refine ⟨fun pins s σ H D I ⟨M, hm, hu⟩ => ?_⟩
  refine wpAny_execs_cons (thn (ha.run pins s σ H { D with nx := M } I hm) fun f s1 q => ?_)
  match f, q with
  | .next, ⟨σ1, H1, I1, q1⟩ => exact hr.run pins s1 σ1 H1 D I1 (hu σ1 H1 q1)
  | .ret _, q => exact q
  | .brk, q => exact q
  | .cont, q => exact q
section
variable {P : Program} {w : World} {K : PySem.W.Frag} {mg : Str → Option Value} {base : Heap}
theorem scSpread : FnScope ["_law_cell", "_law_mixed", "_law_total", "_law_k"] ["_law_cell"] (defScope sSpread) := ⟨rfl, rfl, rfl, by decide +kernel, rfl, by decide +kernel, by decide +kernel⟩
theorem ok_spread {f : Addr} {fd : FuncData} (F : Fun K "_law_spread" "_law_spread" sSpread f fd) (B : Bl mg) : FnOk P w K mg base CX0 1 f fd ["_law_cell"] spSpread := by
  refine F.ok scSpread (fun vs H Q E h => ?_) (fun cdv A outer s H vs Q E hr h => ?_)
  · obtain ⟨i, rfl, _⟩ := h
    rfl
  · obtain ⟨i, rfl, k⟩ := h
    refine ⟨_, pss_cons (ps_set (i := 1) scSpread.nd rfl (Or.inl rfl) (pe_op op_mod (pe_callTy call_int1 (by rfl) B.int (by decide +kernel) (pa_cons (pv 0) pa_nil)) pe_int))
      (pss_cons (ps_set (i := 2) scSpread.nd rfl (Or.inl rfl) pe_int)
      (pss_cons (ps_for PassesOwn.never rfl (pi_range1 rfl B.range (pa_cons pe_int pa_nil)) (pg_name (i := 3) scSpread.nd rfl (Or.inl rfl))
        (pss_cons (ps_set (i := 1) scSpread.nd rfl (Or.inl rfl) (pe_op op_mod (pe_callTy call_int1 (by rfl) B.int (by decide +kernel) (pa_cons (pe_op op_add (pe_op op_add (pe_op op_mul (pv 1) pe_int) pe_int) (pv 3)) pa_nil)) pe_int))
        (pss_one (ps_set (i := 2) scSpread.nd rfl (Or.inl rfl) (pe_op op_add (pe_op op_mul (pv 2) pe_int) (pv 1))))))
      (pss_one (ps_ret (pv 2))))), ?_⟩
    refine ⟨_, rfl, Or.inl ⟨_, rfl, _, _, rfl, rfl, (by show (0 : Int) < 2147483647; decide), ?_⟩⟩
    refine ⟨4, rfl, by decide, by decide, for_range (n := 4) (fun _ σ H1 => ∃ (x z : Int) (v : Option V), σ = [some (.int i), some (.int x), some (.int z), v] ∧ H1 = H) ⟨_, _, none, rfl, rfl⟩ ?_ ?_⟩
    · rintro j σ H1 hj ⟨x, z, v, rfl, rfl⟩
      refine ⟨_, rfl, _, _, rfl, rfl, Or.inr ⟨by decide, by decide⟩, _, _, rfl, rfl, _, rfl, _, _, rfl, rfl, Or.inl ⟨_, rfl, _, _, rfl, rfl, (by show (0 : Int) < 2147483647; decide), ?_⟩⟩
      refine ⟨_, rfl, _, _, rfl, rfl, Or.inr ⟨by decide, by decide⟩, _, rfl, _, _, rfl, rfl, ?_⟩
      exact ⟨_, _, _, rfl, rfl⟩
    · rintro σ H1 ⟨x, z, v, rfl, rfl⟩
      exact ⟨_, rfl, k _⟩
theorem scDraw : FnScope ["_law_pool_here", "_law_many", "_law_cell", "_law_mixed", "_law_value"] ["_law_pool_here", "_law_many"] (defScope sDraw) := ⟨rfl, rfl, rfl, by decide +kernel, rfl, by decide +kernel, by decide +kernel⟩
/-- five items by their places -/
theorem at5 {l : Addr} {i v c z : Int} (j : Nat) {x : V} (h : [V.ref l, .int i, .int v, .int c, .int z][j]? = some x) {y : Int} (e : y = (j : Int)) : atI [V.ref l, .int i, .int v, .int c, .int z] y = some x := at_of e h
theorem ix5 {l : Addr} {i v c z : Int} (j : Nat) (h : j < 5) : ixN [V.ref l, .int i, .int v, .int c, .int z].length (j : Int) = some j := by
  match j, h with
  | 0, _ => exact (by decide : ixN 5 0 = some 0)
  | 1, _ => exact (by decide : ixN 5 1 = some 1)
  | 2, _ => exact (by decide : ixN 5 2 = some 2)
  | 3, _ => exact (by decide : ixN 5 3 = some 3)
  | 4, _ => exact (by decide : ixN 5 4 = some 4)
  | n + 5, h => omega
theorem ok_draw {f fS : Addr} {fd fdS : FuncData} (F : Fun K "_law_draw" "_law_draw" sDraw f fd) (B : Bl mg) (FS : Fun K "_law_spread" "_law_spread" sSpread fS fdS) (bS : Binds K fdS ["_law_cell"] []) (gS : mg "_law_spread" = some (.ref fS)) :
    FnOk P w K mg base CX0 2 f fd ["_law_pool_here", "_law_many"] spDraw := by
  have GS : FnOk P w K mg base CX0 1 fS fdS ["_law_cell"] spSpread := ok_spread FS B
  refine F.ok scDraw (fun vs H Q E h => ?_) (fun cdv A outer s H vs Q E hr h => ?_)
  · obtain ⟨p, l, n, rfl, _⟩ := h
    rfl
  · obtain ⟨p, l, n, rfl, hP, hn1, hn2, k⟩ := h
    refine ⟨_, pss_mid (ps_if (PW.pt (pw_and (pt_cmpR op_le (pe_ix ix_list (pv 0) pe_int (fun _ _ => rfl)) pe_int (nomark _))
          (pw_and1 (pt_cmpR op_lt (pe_ix ix_list (pv 0) pe_int (fun _ _ => rfl)) (pe_callB call_len_seq (by rfl) B.len PySem.boot_len (pa_cons (pe_ix ix_list (pv 0) pe_int (fun _ _ => rfl)) pa_nil)) (nomark _)))))
        (pss_cons (ps_set (i := 2) scDraw.nd rfl (Or.inl rfl) (pe_ix ix_list (pe_ix ix_list (pv 0) pe_int (fun _ _ => rfl)) (pe_ix ix_list (pv 0) pe_int (fun _ _ => rfl)) (fun _ _ => rfl)))
        (pss_cons (ps_asg (pe_op op_add (pe_ix ix_list (pv 0) pe_int (fun _ _ => rfl)) pe_int) (pg_sub (pv 0) pe_int set_list))
        (pss_cons (ps_asg (pv 2) (pg_sub (pv 0) pe_int set_list))
        (pss_one (ps_if (pt_cmpR op_lt (pv 2) pe_int (nomark _)) (pss_one (ps_asg (pe_call GS hr (by rfl) gS FS.kp bS .nil pass0 (pa_cons (pv 2) pa_nil)) (pg_sub (pv 0) pe_int set_list))) pss_nil)))))
        pss_nil)
      (pss_cons (ps_asg (pe_op op_add (pe_ix ix_list (pv 0) pe_int (fun _ _ => rfl)) pe_int) (pg_sub (pv 0) pe_int set_list))
      (pss_cons (ps_if (pt_cmpR op_le (pe_ix ix_list (pv 0) pe_int (fun _ _ => rfl)) pe_int (nomark _))
        (pss_cons (ps_set (i := 3) scDraw.nd rfl (Or.inl rfl) (pe_op op_mod (pe_callTy call_int1 (by rfl) B.int (by decide +kernel) (pa_cons (pe_op op_add (pe_op op_add (pe_op op_mul (pe_ix ix_list (pv 0) pe_int (fun _ _ => rfl)) pe_int) (pe_op op_mul (pe_ix ix_list (pv 0) pe_int (fun _ _ => rfl)) pe_int)) pe_int) pa_nil)) pe_int))
        (pss_cons (ps_set (i := 3) scDraw.nd rfl (Or.inl rfl) (pe_op op_mod (pe_callTy call_int1 (by rfl) B.int (by decide +kernel) (pa_cons (pe_op op_add (pe_op op_mul (pv 3) pe_int) (pe_ix ix_list (pv 0) pe_int (fun _ _ => rfl))) pa_nil)) pe_int))
        (pss_one (ps_ret (pe_op op_mod (pe_op op_fdiv (pv 3) pe_int) (pv 1))))))
        pss_nil)
      (pss_cons (ps_set (i := 4) scDraw.nd rfl (Or.inl rfl) (pe_op op_mod (pe_callTy call_int1 (by rfl) B.int (by decide +kernel) (pa_cons (pe_ix ix_list (pv 0) pe_int (fun _ _ => rfl)) pa_nil)) (pv 1)))
      (pss_cons (ps_asg (pe_op op_fdivW (pe_ix ix_list (pv 0) pe_int (fun _ _ => rfl)) (pv 1)) (pg_sub (pv 0) pe_int set_list))
      (pss_one (ps_ret (pv 4))))))), ?_⟩
    obtain ⟨ns, i, v, c, z, h1, h2, h3, h4⟩ := hP
    -- behind the first if: the pool again
    refine ⟨fun σ H1 => ∃ (i : Nat) (v : Int) (y : Option V), σ = [some (.ref p), some (.int n), y, none, none] ∧ H1 p = some (.lst [.ref l, .int (i : Int), .int v, .int c, .int z]) ∧ But p H H1, ?_, ?_⟩
    · -- pool[2] <= 0
      refine ⟨_, rfl, p, _, _, _, rfl, rfl, SqL.of h1, at5 2 rfl rfl, _, _, rfl, rfl, _, rfl, ?_⟩
      refine ite2 (fun _ => ?_) (fun _ => ?_)
      · -- pool[1] < len(pool[0])
        refine ⟨_, rfl, p, _, _, _, rfl, rfl, SqL.of h1, at5 1 rfl rfl, _, rfl, p, _, _, _, rfl, rfl, SqL.of h1, at5 0 rfl rfl, l, _, rfl, Or.inl (SqL.of h2), _, _, rfl, rfl, _, rfl, ?_⟩
        refine ite2 (fun q => ?_) (fun _ => ?_)
        · have hi : i < ns.length := by
            have q' := of_decide_eq_true q
            rw [List.length_map] at q'
            omega
          have hni := List.getElem?_eq_getElem hi
          -- cell = pool[0][pool[1]]
          refine ⟨_, rfl, p, _, _, _, rfl, rfl, SqL.of h1, at5 0 rfl rfl, _, rfl, p, _, _, _, rfl, rfl, SqL.of h1, at5 1 rfl rfl, l, _, _, _, rfl, rfl, SqL.of h2, atI_nat (at_int hni), ?_⟩
          -- pool[1] = pool[1] + 1
          refine ⟨_, rfl, p, _, _, _, rfl, rfl, SqL.of h1, at5 1 rfl rfl, _, _, rfl, rfl, _, rfl, p, _, _, 1, rfl, rfl, h1, ix5 1 (by decide), ?_⟩
          -- pool[2] = cell
          refine ⟨_, rfl, _, rfl, p, _, _, 2, rfl, rfl, upd_same, ix5 2 (by decide), ?_⟩
          refine ⟨_, rfl, _, _, rfl, rfl, _, rfl, ?_⟩
          refine ite2 (fun _ => ?_) (fun _ => ?_)
          · refine ⟨_, rfl, _, rfl, fun r => ⟨_, rfl, p, _, _, 2, rfl, rfl, upd_same, ix5 2 (by decide), ?_⟩⟩
            refine ⟨i + 1, r, _, rfl, upd_same, ?_⟩
            exact (But.upd.trans But.upd).trans But.upd
          · refine ⟨i + 1, _, _, rfl, upd_same, But.upd.trans But.upd⟩
        · exact ⟨i, v, none, rfl, h1, But.refl p H⟩
      · exact ⟨i, v, none, rfl, h1, But.refl p H⟩
    · rintro σ H1 ⟨i, v, y, rfl, g1, b1⟩
      have g2 : H1 l = some (.lst (ns.map V.int)) := b1 l _ h2 h3
      -- pool[3] = pool[3] + 1
      refine ⟨_, rfl, p, _, _, _, rfl, rfl, SqL.of g1, at5 3 rfl rfl, _, _, rfl, rfl, _, rfl, p, _, _, 3, rfl, rfl, g1, ix5 3 (by decide), ?_⟩
      -- pool[2] <= 0
      refine ⟨_, rfl, p, _, _, _, rfl, rfl, SqL.of upd_same, at5 2 rfl rfl, _, _, rfl, rfl, _, rfl, ?_⟩
      refine ite2 (fun _ => ?_) (fun _ => ?_)
      · refine ⟨_, rfl, p, _, _, _, rfl, rfl, SqL.of upd_same, at5 4 rfl rfl, _, _, rfl, rfl, Or.inr ⟨by decide, by decide⟩, _, rfl, p, _, _, _, rfl, rfl, SqL.of upd_same, at5 3 rfl rfl, _, _, rfl, rfl, Or.inr ⟨by decide, by decide⟩, _, _, rfl, rfl, _, _, rfl, rfl, Or.inl ⟨_, rfl, _, _, rfl, rfl, (by show (0 : Int) < 2147483647; decide), ?_⟩⟩
        refine ⟨_, rfl, _, _, rfl, rfl, Or.inr ⟨by decide, by decide⟩, _, rfl, p, _, _, _, rfl, rfl, SqL.of upd_same, at5 3 rfl rfl, _, _, rfl, rfl, Or.inl ⟨_, rfl, _, _, rfl, rfl, (by show (0 : Int) < 2147483629; decide), ?_⟩⟩
        refine ⟨_, rfl, _, _, rfl, rfl, ⟨by decide, by decide⟩, _, rfl, _, _, rfl, rfl, (by show (0 : Int) < n; omega), ?_⟩
        refine k _ _ (Int.emod_nonneg _ (by omega)) (Int.emod_lt_of_pos _ (by omega)) (b1.trans But.upd) ?_
        exact ⟨ns, i, v, c + 1, z, upd_same, by rw [upd_ne h3]; exact g2, h3, h4⟩
      · refine ⟨_, rfl, p, _, _, _, rfl, rfl, SqL.of upd_same, at5 2 rfl rfl, Or.inl ⟨_, rfl, _, rfl, _, _, rfl, rfl, (by show (0 : Int) < n; omega), ?_⟩⟩
        refine ⟨_, rfl, p, _, _, _, rfl, rfl, SqL.of upd_same, at5 2 rfl rfl, _, rfl, _, _, rfl, rfl, wide_div (b := 60) (by omega) (by omega) (by decide) (by decide), _, rfl, p, _, _, 2, rfl, rfl, upd_same, ix5 2 (by decide), ?_⟩
        refine ⟨_, rfl, ?_⟩
        refine k _ _ (Int.emod_nonneg _ (by omega)) (Int.emod_lt_of_pos _ (by omega)) ((b1.trans But.upd).trans But.upd) ?_
        exact ⟨ns, i, _, c + 1, z, upd_same, by rw [upd_ne h3, upd_ne h3]; exact g2, h3, h4⟩
end
end K29
/-! The segments, drawn. -/
namespace K29
open PySem PySem.Spec PyProof.Rows L2
def spSegs : Sp := fun vs H Q _ => ∃ (p l : Addr), vs = [.ref p, .int 8] ∧ PoolAt H p l ∧ ∀ (ss : List Seg) a H', Good ss → But p H H' → PoolAt H' p l → SegsAt H' a ss → Q (.ref a) H'
/-- one of two -/
theorem at2 {x y : Int} {k : Bool} : atI [V.int x, V.int y] (if k = true then 1 else 0) = some (.int (if k = true then y else x)) := by
  cases k with
  | true => exact at_of (j := 1) rfl rfl
  | false => exact at_of (j := 0) rfl rfl
theorem at2i {x y r : Int} (h0 : 0 ≤ r) (h2 : r < 2) : ∃ z, atI [V.int x, V.int y] r = some (.int z) ∧ (z = x ∨ z = y) := by
  by_cases e : r = 0
  · exact ⟨x, at_of (j := 0) e rfl, Or.inl rfl⟩
  · exact ⟨y, at_of (j := 1) (by omega) rfl, Or.inr rfl⟩
theorem par_snoc {ps : List Nat} {x : Nat} (h : Par ps) (hx : x ≤ ps.length) : Par (ps ++ [x]) := fun k p e => by
  by_cases hk : k < ps.length
  · rw [List.getElem?_append_left hk] at e
    exact h k p e
  · rw [List.getElem?_append_right (by omega)] at e
    by_cases z : k - ps.length = 0
    · rw [z] at e
      have q : x = p := Option.some.inj e
      omega
    · obtain ⟨j, ej⟩ : ∃ j, k - ps.length = j + 1 := ⟨k - ps.length - 1, by omega⟩
      rw [ej] at e
      simp at e
/-- tuples stand -/
def Tp (H H' : Hp) : Prop := ∀ b xs, H b = some (.tup xs) → H' b = some (.tup xs)
theorem Tp.kp {H H' : Hp} (k : Kp H H') : Tp H H' := fun b xs e => k _ _ e fun ⟨_, _, _, _, _, z⟩ => nomatch z
theorem Tp.set {H : Hp} {a : Addr} {vs : List V} {o : HO} (h : H a = some (.lst vs)) : Tp H (upd H a o) := fun b xs e => by
  rw [upd_ne (ne_of e h (by intro q; cases q))]
  exact e
theorem PairAt.tp {H H' : Hp} {x : V} {q : Int × Int} (h : PairAt H x q) (k : Tp H H') : PairAt H' x q := by
  obtain ⟨a, e, h⟩ := h
  exact ⟨a, e, k _ _ h⟩
theorem SegAt.tp {H H' : Hp} {v : V} {s : Seg} (h : SegAt H v s) (k : Tp H H') : SegAt H' v s := by
  obtain ⟨t, x, y, e, h, a, b⟩ := h
  exact ⟨t, x, y, e, k _ _ h, a.tp k, b.tp k⟩
section
variable {P : Program} {w : World} {K : PySem.W.Frag} {mg : Str → Option Value} {base : Heap}
theorem scSegs : FnScope ["_law_pool_here", "_law_most", "_law_segments_here", "_law_k", "_law_low", "_law_small", "_law_parent"] ["_law_pool_here", "_law_most"] (defScope sSegs) := ⟨rfl, rfl, rfl, by decide +kernel, rfl, by decide +kernel, by decide +kernel⟩
theorem ok_segs {f fD : Addr} {fd fdD : FuncData} (F : Fun K "_law_segments" "_law_segments" sSegs f fd) (B : Bl mg) (gD : mg "_law_draw" = some (.ref fD)) (kD : PySem.W.keepIn K (.ref fD) = true) (bD : Binds K fdD ["_law_pool_here", "_law_many"] [])
    (GD : FnOk P w K mg base CX0 2 fD fdD ["_law_pool_here", "_law_many"] spDraw) : FnOk P w K mg base CX0 3 f fd ["_law_pool_here", "_law_most"] spSegs := by
  refine F.ok scSegs (fun vs H Q E h => ?_) (fun cdv A outer s H vs Q E hr h => ?_)
  · obtain ⟨p, l, rfl, _⟩ := h
    rfl
  · obtain ⟨p, l, rfl, hP, k⟩ := h
    refine ⟨_, pss_cons (ps_set (i := 2) scSegs.nd rfl (Or.inl rfl) (pe_lst pa_nil))
      (pss_cons (ps_for PassesOwn.never rfl (pi_range1 rfl B.range (pa_cons (pe_call GD hr (by rfl) gD kD bD .nil pass0 (pa_cons (pv 0) (pa_cons (pe_op op_add (pv 1) pe_int) pa_nil))) pa_nil)) (pg_name (i := 3) scSegs.nd rfl (Or.inl rfl))
        (pss_cons (ps_set (i := 4) scSegs.nd rfl (Or.inl rfl) (pe_ix ix_list
            (pe_lst (pa_cons (pe_call GD hr (by rfl) gD kD bD .nil pass0 (pa_cons (pv 0) (pa_cons pe_int pa_nil))) (pa_cons (pe_call GD hr (by rfl) gD kD bD .nil pass0 (pa_cons (pv 0) (pa_cons (pe_op op_pow pe_int pe_int) pa_nil))) pa_nil)))
            (pe_callTy call_int1 (by rfl) B.int (by decide +kernel) (pa_cons (pe_cmpR op_eq (pe_call GD hr (by rfl) gD kD bD .nil pass0 (pa_cons (pv 0) (pa_cons pe_int pa_nil))) pe_int (nomark _)) pa_nil)) (fun _ _ => rfl)))
        (pss_cons (ps_set (i := 5) scSegs.nd rfl (Or.inl rfl) (pe_call GD hr (by rfl) gD kD bD .nil pass0 (pa_cons (pv 0) (pa_cons pe_int pa_nil))))
        (pss_cons (ps_set (i := 6) scSegs.nd rfl (Or.inl rfl) (pe_ix ix_list
            (pe_lst (pa_cons (pv 3) (pa_cons (pe_call GD hr (by rfl) gD kD bD .nil pass0 (pa_cons (pv 0) (pa_cons (pe_op op_add (pv 3) pe_int) pa_nil))) pa_nil)))
            (pe_call GD hr (by rfl) gD kD bD .nil pass0 (pa_cons (pv 0) (pa_cons pe_int pa_nil))) (fun _ _ => rfl)))
        (pss_one (ps_expr (pe_bm PySem.F.plainAttrs_list PySem.F.slot_list_append PySem.F.type_list_append mt_append (pv 2)
          (pa_cons (pe_tup (pa_cons (pv 6)
            (pa_cons (pe_tup (pa_cons (pv 4) (pa_cons (pe_op op_add (pv 4) (pe_call GD hr (by rfl) gD kD bD .nil pass0 (pa_cons (pv 0) (pa_cons pe_int pa_nil)))) pa_nil)))
            (pa_cons (pe_tup (pa_cons (pv 5) (pa_cons (pe_op op_add (pv 5) (pe_call GD hr (by rfl) gD kD bD .nil pass0 (pa_cons (pv 0) (pa_cons pe_int pa_nil)))) pa_nil))) pa_nil)))) pa_nil))))))))
      (pss_one (ps_ret (pv 2)))), ?_⟩
    -- segments = []
    refine ⟨Nat.zero_le _, fun a ha => ?_⟩
    have s0 : Same H (upd H a (.lst [])) := same_upd ha
    obtain ⟨nap, nal⟩ := hP.ne ha
    refine ⟨_, rfl, _, rfl, _, _, rfl, rfl, p, l, 9, rfl, hP.same s0, by decide, by decide, fun m H1 m0 m9 b1 P1 => ?_⟩
    have e1 : H1 a = some (.lst []) := b1 _ _ upd_same nap
    refine ⟨m, rfl, by omega, by omega, for_range (lo := 0) (n := m.toNat) (fun i σ H2 => ∃ (ss : List Seg) (vs : List V) (y3 y4 y5 y6 : Option V), σ = [some (.ref p), some (.int 8), some (.ref a), y3, y4, y5, y6] ∧ ss.length = i ∧ Good ss ∧ H2 a = some (.lst vs) ∧ All2 (SegAt H2) vs ss ∧ But p H H2 ∧ PoolAt H2 p l)
      ⟨[], [], none, none, none, none, rfl, rfl, ⟨fun k p e => by simp at e, fun s hs => by simp at hs, by decide⟩, e1, All2.nil, (But.of s0).trans b1, P1⟩ ?_ ?_⟩
    · rintro i σ H2 hi ⟨ss, vs, y3, y4, y5, y6, rfl, hl, G, ea, A2, bH, P2⟩
      have hi8 : i < 8 := by omega
      -- low = [draw(6), draw(10 ** 12)][int(draw(5) == 4)]
      refine ⟨_, rfl, p, l, 6, rfl, P2, by decide, by decide, fun d1 H3 d10 d11 b3 P3 => ?_⟩
      refine ⟨_, rfl, _, _, rfl, rfl, ⟨by decide, by decide, by decide⟩, p, l, _, rfl, P3, by decide, by decide, fun d2 H4 d20 d21 b4 P4 => ?_⟩
      refine ⟨(by show 2 ≤ sizeLine; decide), fun x hx => ?_⟩
      have nxp := (P4.ne hx).1
      have s4 : Same H4 (upd H4 x (.lst [.int d1, .int d2])) := same_upd hx
      refine ⟨_, rfl, p, l, 5, rfl, P4.same s4, by decide, by decide, fun d3 H5 d30 d31 b5 P5 => ?_⟩
      have ex : H5 x = some (.lst [.int d1, .int d2]) := b5 _ _ upd_same nxp
      refine ⟨rfl, Or.inr ⟨_, rfl, x, _, _, _, rfl, rfl, SqL.of ex, at2, ?_⟩⟩
      have b25 : But p H2 H5 := ((b3.trans b4).trans (But.of s4)).trans b5
      obtain ⟨lo, elo, lo0, lo1⟩ : ∃ lo : Int, (if decide (V.int d3 = V.int 4) = true then d2 else d1) = lo ∧ 0 ≤ lo ∧ lo < 10 ^ 12 := by
        refine ⟨_, rfl, ?_, ?_⟩
        · split <;> assumption
        · split
          · exact d21
          · exact Int.lt_trans d11 (by decide)
      rw [elo]
      -- small = draw(7)
      refine ⟨_, rfl, p, l, 7, rfl, P5, by decide, by decide, fun sm H6 sm0 sm1 b6 P6 => ?_⟩
      -- parent = [k, draw(k + 1)][draw(2)]
      refine ⟨_, rfl, _, rfl, _, rfl, _, _, rfl, rfl, p, l, _, rfl, P6, by omega, by omega, fun d4 H7 d40 d41 b7 P7 => ?_⟩
      refine ⟨(by show 2 ≤ sizeLine; decide), fun x2 hx2 => ?_⟩
      have nxp2 := (P7.ne hx2).1
      have s7 : Same H7 (upd H7 x2 (.lst [.int (0 + (i : Int)), .int d4])) := same_upd hx2
      refine ⟨_, rfl, p, l, 2, rfl, P7.same s7, by decide, by decide, fun d5 H8 d50 d51 b8 P8 => ?_⟩
      have ex2 : H8 x2 = some (.lst [.int (0 + (i : Int)), .int d4]) := b8 _ _ upd_same nxp2
      obtain ⟨pr, epr, hpr⟩ := at2i (x := 0 + (i : Int)) (y := d4) d50 d51
      refine ⟨x2, _, _, _, rfl, rfl, SqL.of ex2, epr, ?_⟩
      have b28 : But p H2 H8 := (((b25.trans b6).trans b7).trans (But.of s7)).trans b8
      obtain ⟨j, ej, hj⟩ : ∃ j : Nat, pr = (j : Int) ∧ j ≤ i := ⟨pr.toNat, by omega, by omega⟩
      subst ej
      have ea8 : H8 a = some (.lst vs) := b28 _ _ ea nap
      -- segments.append((parent, (low, low + draw(9)), (small, small + draw(4))))
      refine ⟨_, rfl, Or.inl ⟨rfl, _, SqL.of ea8⟩, ?_⟩
      refine ⟨_, rfl, _, rfl, _, rfl, _, rfl, p, l, 9, rfl, P8, by decide, by decide, fun d6 H9 d60 d61 b9 P9 => ?_⟩
      refine ⟨_, _, rfl, rfl, (by show 2 ≤ sizeLine; decide), fun t1 ht1 => ?_⟩
      have s9 : Same H9 (upd H9 t1 (.tup [.int lo, .int (lo + d6)])) := same_upd ht1
      have nt1p := (P9.ne ht1).1
      refine ⟨_, rfl, _, rfl, _, rfl, p, l, 4, rfl, P9.same s9, by decide, by decide, fun d7 H10 d70 d71 b10 P10 => ?_⟩
      have et1 : H10 t1 = some (.tup [.int lo, .int (lo + d6)]) := b10 _ _ upd_same nt1p
      refine ⟨_, _, rfl, rfl, (by show 2 ≤ sizeLine; decide), fun t2 ht2 => ?_⟩
      have s10 : Same H10 (upd H10 t2 (.tup [.int sm, .int (sm + d7)])) := same_upd ht2
      refine ⟨(by show 3 ≤ sizeLine; decide), fun t3 ht3 => ?_⟩
      have s11 := same_upd (o := .tup [.int (j : Int), .ref t1, .ref t2]) ht3
      have b2E := (((b28.trans b9).trans (But.of s9)).trans b10).trans (But.of (s10.trans s11))
      have ea11 := b2E _ _ ea nap
      have vl : vs.length = i := by rw [A2.1, hl]
      refine ⟨a, vs, _, rfl, rfl, ea11, small1000 (by omega), ?_⟩
      have PE := P10.same (s10.trans s11)
      have kp := Tp.kp (Kp.but P2 b2E)
      have tp := Tp.set (o := .lst (vs ++ [.ref t3])) ea11
      have seg : SegAt _ (.ref t3) ⟨j, (lo, lo + d6), (sm, sm + d7)⟩ := ⟨t3, .ref t1, .ref t2, rfl, upd_same, ⟨t1, rfl, (s10.trans s11) _ _ et1⟩, ⟨t2, rfl, s11 _ _ upd_same⟩⟩
      refine ⟨ss ++ [⟨j, (lo, lo + d6), (sm, sm + d7)⟩], vs ++ [.ref t3], _, _, _, _, rfl, ?_, ⟨?_, ?_, ?_⟩, upd_same, (A2.mono fun v x r => (r.tp kp).tp tp).snoc (seg.tp tp), fun b o e n => ?_, ?_⟩
      · rw [List.length_append, hl]
        rfl
      · rw [List.map_append]
        exact par_snoc G.par (by rw [List.length_map, hl]; exact hj)
      · intro s hs
        rcases List.mem_append.mp hs with hs | hs
        · exact G.rng s hs
        · rw [List.mem_singleton.mp hs]
          have z1 : lo < 2 ^ 50 := Int.lt_trans lo1 (by decide)
          refine ⟨lo0, ?_, ?_, sm0, ?_, ?_⟩
          · show lo ≤ lo + d6
            omega
          · show lo + d6 < 2 ^ 59
            omega
          · show sm ≤ sm + d7
            omega
          · show sm + d7 < 2 ^ 59
            omega
      · rw [List.length_append, hl]
        show i + 1 ≤ 8
        omega
      · rw [upd_ne (ne_of_none e ha)]
        exact b2E _ _ (bH _ _ e n) n
      · exact PE.set nap nal
    · rintro σ H2 ⟨ss, vs, y3, y4, y5, y6, rfl, hl, G, ea, A2, bH, P2⟩
      exact ⟨_, rfl, k ss a H2 G bH P2 ⟨vs, ea, A2⟩⟩
end
end K29
/-! Numbers drawn within ranges. -/
namespace K29
open PySem PySem.Spec PyProof.Rows L2
/-- each number lies in its range -/
def InR (qs : List (Int × Int)) (ns : List Int) : Prop := ns.length = qs.length ∧ ∀ (i : Nat) q x, qs[i]? = some q → ns[i]? = some x → q.1 ≤ x ∧ x ≤ q.2
def spWithin : Sp := fun vs H Q _ => ∃ (p l b : Addr) (qs : List (Int × Int)), vs = [.ref p, .ref b] ∧ PoolAt H p l ∧ PairsAt H b qs ∧ (∀ q ∈ qs, q.1 ≤ q.2 ∧ 0 ≤ q.1 ∧ q.2 < 2 ^ 60 - 1) ∧ qs.length ≤ 8 ∧
  ∀ ns D H', But p H H' → PoolAt H' p l → IntsAt H' D ns → InR qs ns → Q (.ref D) H'
section
variable {P : Program} {w : World} {K : PySem.W.Frag} {mg : Str → Option Value} {base : Heap}
theorem scWithin : FnScope ["_law_pool_here", "_law_pairs", "_law_pair"] ["_law_pool_here", "_law_pairs"] (defScope sWithin) := ⟨rfl, rfl, rfl, by decide +kernel, rfl, by decide +kernel, by decide +kernel⟩
theorem ok_within {f fD : Addr} {fd fdD : FuncData} (F : Fun K "_law_within" "_law_within" sWithin f fd) (gD : mg "_law_draw" = some (.ref fD)) (kD : PySem.W.keepIn K (.ref fD) = true) (bD : Binds K fdD ["_law_pool_here", "_law_many"] [])
    (GD : FnOk P w K mg base CX0 2 fD fdD ["_law_pool_here", "_law_many"] spDraw) : FnOk P w K mg base CX0 3 f fd ["_law_pool_here", "_law_pairs"] spWithin := by
  refine F.ok scWithin (fun vs H Q E h => ?_) (fun cdv A outer s H vs Q E hr h => ?_)
  · obtain ⟨p, l, b, qs, rfl, _⟩ := h
    rfl
  · obtain ⟨p, l, b, qs, rfl, hP, hB, hq, h8, k⟩ := h
    refine ⟨_, pss_one (ps_ret (pe_lc (own := [("_law_pair", 2)]) (g := gName 2) (tt := tYes) rfl scWithin.nd (pi_list (pv 1)) (blkOk_by (N := ["_law_pool_here", "_law_pairs", "_law_pair"]) (sc := defScope sWithin) (by decide +kernel))
      (fun _ _ _ _ _ => pg_name (i := 2) scWithin.nd rfl (Or.inl rfl)) (fun _ _ _ _ _ => pts_nil)
      (fun _ _ _ _ _ => pe_op op_add (pe_ix (ixT K rfl) (pv 2) pe_int (fun _ _ => rfl)) (pe_call GD hr (by rfl) gD kD bD .nil pass0 (pa_cons (pv 0) (pa_cons (pe_op op_add (pe_op op_sub (pe_ix (ixT K rfl) (pv 2) pe_int (fun _ _ => rfl)) (pe_ix (ixT K rfl) (pv 2) pe_int (fun _ _ => rfl))) pe_int) pa_nil)))))), ?_⟩
    obtain ⟨vs, ev, A2⟩ := id hB
    refine ⟨_, rfl, b, rfl, ⟨_, SqL.of ev⟩, fun D hD => ?_⟩
    obtain ⟨nDp, nDl⟩ := hP.ne hD
    refine lc_list (K := K) (a := b) (xs := vs) (fun i H1 => ∃ ns : List Int, ns.length = i ∧ But p H H1 ∧ PoolAt H1 p l ∧ H1 D = some (.lst (ns.map V.int)) ∧ PairsAt H1 b qs ∧ H1 b = some (.lst vs) ∧ ∀ (j : Nat) q x, qs[j]? = some q → ns[j]? = some x → q.1 ≤ x ∧ x ≤ q.2)
      ⟨[], rfl, But.of (same_upd hD), hP.same (same_upd hD), upd_same, hB.kp (Kp.of (same_upd hD)), same_upd hD _ _ ev, fun j q x _ e => by simp at e⟩ (fun i H1 _ ⟨_, _, _, _, _, _, e, _⟩ => SqL.of e) ?_ ?_
    · rintro i y H1 hi ⟨ns, hl, bH, P1, eD, hB1, eb, hr1⟩
      obtain ⟨q, eq, a, rfl, ea⟩ := A2.getV hi
      have ea1 : H1 a = some (.tup [.int q.1, .int q.2]) := Kp.but hP bH _ _ ea fun ⟨_, _, _, _, _, z⟩ => nomatch z
      have q3 := hq q (List.mem_of_getElem? eq)
      refine ⟨rfl, ?_⟩
      refine ⟨_, rfl, a, _, _, _, rfl, rfl, SqT.of ea1, at_of (j := 0) rfl rfl, _, rfl, _, rfl, a, _, _, _, rfl, rfl, SqT.of ea1, at_of (j := 1) rfl rfl, _, rfl, a, _, _, _, rfl, rfl, SqT.of ea1, at_of (j := 0) rfl rfl, _, _, rfl, rfl, _, _, rfl, rfl,
        p, l, _, rfl, P1, by omega, by omega, fun r H2 r0 r1 b2 P2 => ?_⟩
      have eD2 : H2 D = some (.lst (ns.map V.int)) := b2 _ _ eD nDp
      refine ⟨_, _, rfl, rfl, _, eD2, small1000 (by
        have q := (List.getElem?_eq_some_iff.mp eq).1
        rw [List.length_map]
        omega), ns ++ [q.1 + r], by rw [List.length_append, hl]; rfl, fun c o e n => ?_, P2.set nDp nDl, ?_, ?_, ?_, fun j q' x e1 e2 => ?_⟩
      · rw [upd_ne (ne_of_none e hD)]
        exact b2 _ _ (bH _ _ e n) n
      · rw [upd_same, List.map_append]
        rfl
      · have nbD : b ≠ D := ne_of_none ev hD
        refine ⟨vs, by rw [upd_ne nbD]; exact Kp.but P1 b2 _ _ eb (notPool_refs fun j v q => by obtain ⟨_, _, z, ez, _⟩ := A2.getV q; exact ⟨z, ez⟩), A2.mono fun v x r => ?_⟩
        obtain ⟨z, ez, hz⟩ := r
        refine ⟨z, ez, ?_⟩
        rw [upd_ne (ne_of_none hz hD)]
        exact Kp.but P1 b2 _ _ (Kp.but hP bH _ _ hz fun ⟨_, _, _, _, _, z⟩ => nomatch z) fun ⟨_, _, _, _, _, z⟩ => nomatch z
      · have nbD : b ≠ D := ne_of_none ev hD
        rw [upd_ne nbD]
        exact Kp.but P1 b2 _ _ eb (notPool_refs fun j v q => by obtain ⟨_, _, z, ez, _⟩ := A2.getV q; exact ⟨z, ez⟩)
      · by_cases hj : j < ns.length
        · rw [List.getElem?_append_left hj] at e2
          exact hr1 j q' x e1 e2
        · rw [List.getElem?_append_right (by omega)] at e2
          by_cases z : j - ns.length = 0
          · rw [z] at e2
            have ex : q.1 + r = x := Option.some.inj e2
            have ej : j = i := by omega
            rw [ej, eq] at e1
            have eqq : q = q' := Option.some.inj e1
            rw [← eqq]
            omega
          · obtain ⟨m, em⟩ : ∃ m, j - ns.length = m + 1 := ⟨j - ns.length - 1, by omega⟩
            rw [em] at e2
            simp at e2
    · rintro H1 ⟨ns, hl, bH, P1, eD, hB1, eb, hr1⟩
      exact k ns D H1 bH P1 eD ⟨by rw [hl, A2.1], hr1⟩
end
end K29
/-! The law's own paths and delays. -/
namespace K29
open PySem PySem.Spec PyProof.Rows L2
/-- the parents -/
abbrev pars (ss : List Seg) : List Nat := ss.map (·.par)
def spPathL : Sp := fun vs H Q _ => ∃ (a : Addr) (ss : List Seg) (n : Nat), vs = [.ref a, nI n] ∧ SegsAt H a ss ∧ Good ss ∧ n ≤ ss.length ∧ ∀ f H', Same H H' → H' f = some (.lst ((pth (pars ss) n).map nI)) → Q (.ref f) H'
def spDelayL : Sp := fun vs H Q _ => ∃ (a r c : Addr) (ss : List Seg) (n : Nat) (rs cs : List Int), vs = [.ref a, nI n, .ref r, .ref c] ∧ SegsAt H a ss ∧ Good ss ∧ n ≤ ss.length ∧ IntsAt H r rs ∧ IntsAt H c cs ∧ rs.length = ss.length ∧ cs.length = ss.length ∧
  (∀ x ∈ rs, -(2 ^ 64) < x ∧ x < 2 ^ 64) ∧ ∀ H', Same H H' → Q (.int (dl (pars ss) rs cs n)) H'
theorem nI_at {l : List Nat} {i : Nat} {y : V} (h : (l.map nI)[i]? = some y) : ∃ s, l[i]? = some s ∧ y = nI s := by
  rw [List.getElem?_map] at h
  cases e : l[i]? with
  | none =>
    rw [e] at h
    cases h
  | some z =>
    rw [e] at h
    exact ⟨z, rfl, (Option.some.inj h).symm⟩
theorem inV_nI (s : Nat) (l : List Nat) : inV (nI s) (l.map nI) = decide (s ∈ l) := by
  unfold inV
  induction l with
  | nil => rfl
  | cons x l ih =>
    rw [List.map_cons, List.any_cons, ih]
    have e : eqV (nI x) (nI s) = decide (s = x) := by
      by_cases h : s = x
      · subst h
        simp [eqV, nI]
      · have h2 : ¬ ((x : Int) = (s : Int)) := by omega
        simp [eqV, nI, h, h2]
    rw [e]
    simp
theorem flat_nI (l : List Nat) : (l.map nI).all flatV = true := by
  induction l with
  | nil => rfl
  | cons x l ih =>
    rw [List.map_cons, List.all_cons, ih]
    rfl
/-- nothing is nearer than its place -/
theorem getD_at {l : List Int} {i : Nat} {x : Int} (h : l[i]? = some x) : l.getD i 0 = x := by
  rw [List.getD_eq_getElem?_getD, h]
  rfl
theorem some_at {α : Type} {l : List α} {i : Nat} (h : i < l.length) : ∃ x, l[i]? = some x := ⟨l[i], List.getElem?_eq_getElem h⟩
section
variable {P : Program} {w : World} {K : PySem.W.Frag} {mg : Str → Option Value} {base : Heap}
theorem scPath : FnScope ["_law_segments_here", "_law_node", "_law_found", "_law_k"] ["_law_segments_here", "_law_node"] (defScope sPath) := ⟨rfl, rfl, rfl, by decide +kernel, rfl, by decide +kernel, by decide +kernel⟩
theorem ok_path {f : Addr} {fd : FuncData} (F : Fun K "_law_path" "_law_path" sPath f fd) (B : Bl mg) : FnOk P w K mg base CX0 1 f fd ["_law_segments_here", "_law_node"] spPathL := by
  refine F.ok scPath (fun vs H Q E h => ?_) (fun cdv A outer s H vs Q E hr h => ?_)
  · obtain ⟨a, ss, n, rfl, _⟩ := h
    rfl
  · obtain ⟨a, ss, n, rfl, hS, G, hn, k⟩ := h
    have hP : Par (pars ss) := G.par
    refine ⟨_, pss_cons (ps_set (i := 2) scPath.nd rfl (Or.inl rfl) (pe_lst (pa_cons (pv 1) pa_nil)))
      (pss_cons (ps_for PassesOwn.never rfl (pi_range1 rfl B.range (pa_cons (pe_callB call_len_seq (by rfl) B.len PySem.boot_len (pa_cons (pv 0) pa_nil)) pa_nil)) (pg_name (i := 3) scPath.nd rfl (Or.inl rfl))
        (pss_one (ps_if (pt_cmpR op_gt (pe_ix ix_list (pv 2) pe_int (fun _ _ => rfl)) pe_int (nomark _))
          (pss_one (ps_set (i := 2) scPath.nd rfl (Or.inl rfl) (pe_op op_cat (pe_lst (pa_cons (pe_ix ix_tup (pe_ix ix_list (pv 0) (pe_op op_sub (pe_ix ix_list (pv 2) pe_int (fun _ _ => rfl)) pe_int) (fun _ _ => rfl)) pe_int (fun _ _ => rfl)) pa_nil)) (pv 2)))) pss_nil)))
      (pss_one (ps_ret (pv 2)))), ?_⟩
    -- found = [node]
    refine ⟨_, rfl, (by show 1 ≤ sizeLine; decide), fun f0 hf0 => ?_⟩
    have s0 : Same H (upd H f0 (.lst [nI n])) := same_upd hf0
    obtain ⟨ws, ew, A2⟩ := hS
    have hlen : (ws.length : Int) = (ss.length : Int) := by rw [A2.1]
    have h8 := G.len
    refine ⟨_, rfl, a, ws, rfl, Or.inl (SqL.of (s0 _ _ ew)), _, rfl, by omega, by omega, for_range (lo := 0) (n := ((ws.length : Nat) : Int).toNat) (fun i σ H1 => ∃ (f : Addr) (h : Nat) (t : List Nat) (y : Option V), σ = [some (.ref a), some (nI n), some (.ref f), y] ∧ Same H H1 ∧ H1 f = some (.lst ((h :: t).map nI)) ∧ pth (pars ss) n = pth (pars ss) h ++ t ∧ h ≤ n - i ∧ t.length ≤ i)
      ⟨f0, n, [], none, rfl, s0, upd_same, by rw [List.append_nil], Nat.le_refl _, Nat.le_refl _⟩ ?_ ?_⟩
    · rintro i σ H1 hi ⟨f, h, t, y, rfl, sH, ef, q, hh, ht⟩
      have i8 : i < 8 := by omega
      refine ⟨_, rfl, f, _, _, _, rfl, rfl, SqL.of ef, at_of (j := 0) rfl rfl, _, _, rfl, rfl, _, rfl, ?_⟩
      refine ite2 (fun c => ?_) (fun c => ?_)
      · have c' := of_decide_eq_true c
        obtain ⟨m, rfl⟩ : ∃ m, h = m + 1 := ⟨h - 1, by omega⟩
        have hm : m < ss.length := by omega
        obtain ⟨sg, esg⟩ := some_at hm
        obtain ⟨v, ev, t0, x0, y0, rfl, et, _, _⟩ := A2.get esg
        have ep : (pars ss)[m]? = some sg.par := by rw [List.getElem?_map, esg]; rfl
        have hle := hP _ _ ep
        refine ⟨_, rfl, _, rfl, f, _, _, _, rfl, rfl, SqL.of ef, at_of (j := 0) rfl rfl, _, _, rfl, rfl, a, _, _, _, rfl, rfl, SqL.of (sH _ _ ew), at_of (j := m) (by show ((m + 1 : Nat) : Int) - 1 = (m : Int); omega) ev,
          t0, _, _, _, rfl, rfl, SqT.of (sH _ _ et), at_of (j := 0) rfl rfl, (by show 1 ≤ sizeLine; decide), fun x hx => ?_⟩
        have sx : Same H1 (upd H1 x (.lst [.int (sg.par : Int)])) := same_upd hx
        refine ⟨_, rfl, x, f, _, _, rfl, rfl, upd_same, sx _ _ ef, Nat.le_of_lt (small1000 (by rw [List.length_map, List.length_cons]; show 1 + (t.length + 1) ≤ 1000; omega)), fun z hz => ?_⟩
        refine ⟨z, sg.par, (m + 1) :: t, _, rfl, sH.trans (sx.trans (same_upd hz)), upd_same, found_step hP ep q, by omega, ?_⟩
        rw [List.length_cons]
        omega
      · have c' : ¬ (0 : Int) < (h : Int) := fun z => c (decide_eq_true z)
        exact ⟨f, h, t, _, rfl, sH, ef, q, by omega, by omega⟩
    · rintro σ H1 ⟨f, h, t, y, rfl, sH, ef, q, hh, ht⟩
      have e0 : h = 0 := by omega
      subst e0
      refine ⟨_, rfl, k f H1 sH ?_⟩
      rw [ef, found_end q]
theorem scDelay : FnScope ["_law_segments_here", "_law_node", "_law_resistances", "_law_capacitances", "_law_total", "_law_step", "_law_load", "_law_other"] ["_law_segments_here", "_law_node", "_law_resistances", "_law_capacitances"] (defScope sDelay) := ⟨rfl, rfl, rfl, by decide +kernel, rfl, by decide +kernel, by decide +kernel⟩
theorem ok_delay {f fP : Addr} {fd fdP : FuncData} (F : Fun K "_law_delay" "_law_delay" sDelay f fd) (B : Bl mg) (gP : mg "_law_path" = some (.ref fP)) (FP : Fun K "_law_path" "_law_path" sPath fP fdP) (bP : Binds K fdP ["_law_segments_here", "_law_node"] []) :
    FnOk P w K mg base CX0 2 f fd ["_law_segments_here", "_law_node", "_law_resistances", "_law_capacitances"] spDelayL := by
  have GP : FnOk P w K mg base CX0 1 fP fdP ["_law_segments_here", "_law_node"] spPathL := ok_path FP B
  refine F.ok scDelay (fun vs H Q E h => ?_) (fun cdv A outer s H vs Q E hr h => ?_)
  · obtain ⟨a, r, c, ss, n, rs, cs, rfl, _⟩ := h
    rfl
  · obtain ⟨a, r, c, ss, n, rs, cs, rfl, hS, G, hn, hr1, hc1, lr, lc, hb, k⟩ := h
    refine ⟨_, pss_cons (ps_set (i := 4) scDelay.nd rfl (Or.inl rfl) pe_int)
      (pss_cons (ps_for PassesOwn.never rfl (pi_list (pe_slice sl_list (pe_call GP hr (by rfl) gP FP.kp bP .nil pass0 (pa_cons (pv 0) (pa_cons (pv 1) pa_nil))) (po_some pe_int) po_none)) (pg_name (i := 5) scDelay.nd rfl (Or.inl rfl))
        (pss_cons (ps_set (i := 6) scDelay.nd rfl (Or.inl rfl) pe_int)
        (pss_cons (ps_for PassesOwn.never rfl (pi_range2 rfl B.range (pa_cons pe_int (pa_cons (pe_op op_add (pe_callB call_len_seq (by rfl) B.len PySem.boot_len (pa_cons (pv 0) pa_nil)) pe_int) pa_nil))) (pg_name (i := 7) scDelay.nd rfl (Or.inl rfl))
          (pss_one (ps_if (pt_cmpR op_in_seq (pv 5) (pe_call GP hr (by rfl) gP FP.kp bP .nil pass0 (pa_cons (pv 0) (pa_cons (pv 7) pa_nil))) (by rfl))
            (pss_one (ps_set (i := 6) scDelay.nd rfl (Or.inl rfl) (pe_op op_add (pv 6) (pe_ix ix_list (pv 3) (pe_op op_sub (pv 7) pe_int) (fun _ _ => rfl))))) pss_nil)))
        (pss_one (ps_set (i := 4) scDelay.nd rfl (Or.inl rfl) (pe_op op_add (pv 4) (pe_op op_mul (pe_ix ix_list (pv 2) (pe_op op_sub (pv 5) pe_int) (fun _ _ => rfl)) (pv 6))))))))
      (pss_one (ps_ret (pv 4)))), ?_⟩
    -- path(segments, node)[1:]
    refine ⟨_, rfl, _, rfl, a, ss, n, rfl, hS, G, hn, fun f1 H1 s1 e1 => ?_⟩
    refine ⟨_, rfl, f1, _, rfl, SqL.of e1, fun f2 h2 => ?_⟩
    have s2 := same_upd (o := .lst (cutV ((pth (pars ss) n).map nI) (some 1) none)) h2
    have ecut : cutV ((pth (pars ss) n).map nI) (some 1) none = (pthT (pars ss) n).map nI := by rw [cut1]; rfl
    rw [ecut] at s2 ⊢
    have h8 := G.len
    have lseg : ∃ ws, H a = some (.lst ws) ∧ ws.length = ss.length := by
      obtain ⟨ws, e, A2⟩ := hS
      exact ⟨ws, e, A2.1⟩
    obtain ⟨ws, ews, lws⟩ := lseg
    refine ⟨f2, rfl, ⟨_, SqL.of upd_same⟩, for_list (K := K) (a := f2) (xs := (pthT (pars ss) n).map nI) (fun i σ H2 => ∃ (y5 y6 y7 : Option V), σ = [some (.ref a), some (nI n), some (.ref r), some (.ref c), some (.int (dlI (pars ss) rs cs n i)), y5, y6, y7] ∧ Same H H2 ∧ H2 f2 = some (.lst ((pthT (pars ss) n).map nI)))
      ⟨none, none, none, by rw [dlI_zero]; rfl, s1.trans s2, upd_same⟩ (fun i σ H2 _ ⟨_, _, _, _, _, e⟩ => SqL.of e) ?_ ?_⟩
    · rintro i y σ H2 hi ⟨y5, y6, y7, rfl, sH, e2⟩
      obtain ⟨st, est, rfl⟩ := nI_at hi
      have hst := pthT_mem (pars ss) n st (List.mem_of_getElem? est)
      -- load = 0; for other in range(1, len(segments) + 1)
      have ejj : (((ws.length : Nat) : Int) + 1 - 1).toNat = ss.length := by omega
      refine ⟨_, rfl, a, ws, rfl, Or.inl (SqL.of (sH _ _ ews)), _, _, rfl, rfl, 1, _, rfl, ⟨by decide, by decide, by omega, by omega⟩, for_range (lo := 1) (n := (((ws.length : Nat) : Int) + 1 - 1).toNat) (fun j σ H3 => ∃ (y7 : Option V), σ = [some (.ref a), some (nI n), some (.ref r), some (.ref c), some (.int (dlI (pars ss) rs cs n i)), some (nI st), some (.int (ldU (pars ss) cs st j)), y7] ∧ Same H2 H3)
        ⟨_, rfl, Same.refl _⟩ ?_ ?_⟩
      · rintro j σ H3 hj ⟨y7, rfl, s3⟩
        have hjl : j < ss.length := by omega
        have ej : (1 : Int) + (j : Int) = ((j + 1 : Nat) : Int) := by omega
        -- if step in path(segments, other)
        refine ⟨_, rfl, _, rfl, _, rfl, a, ss, j + 1, by rw [ej]; rfl, hS.kp (Kp.of (sH.trans s3)), G, by omega, fun f3 H4 s4 e4 => ?_⟩
        refine ⟨f3, _, rfl, Or.inl (SqL.of e4), rfl, flat_nI _, _, rfl, ?_⟩
        rw [inV_nI]
        refine ite2 (fun q => ?_) (fun q => ?_)
        · have q' : st ∈ pth (pars ss) (j + 1) := of_decide_eq_true q
          obtain ⟨x, ex⟩ := some_at (l := cs) (i := j) (by omega)
          refine ⟨_, rfl, _, rfl, _, rfl, _, _, rfl, rfl, c, _, _, _, rfl, rfl, SqL.of ((sH.trans (s3.trans s4)) _ _ hc1), at_of (j := j) (by omega) (at_int ex), _, _, rfl, rfl, ?_⟩
          refine ⟨some (.int (1 + (j : Int))), ?_, s3.trans s4⟩
          rw [show ldU (pars ss) cs st (j + 1) = ldU (pars ss) cs st j + x by
            show ldU (pars ss) cs st j + (if st ∈ pth (pars ss) (j + 1) then cs.getD j 0 else 0) = _
            rw [if_pos q', getD_at ex]]
          rfl
        · have q' : ¬ st ∈ pth (pars ss) (j + 1) := fun z => q (decide_eq_true z)
          refine ⟨some (.int (1 + (j : Int))), ?_, s3.trans s4⟩
          rw [show ldU (pars ss) cs st (j + 1) = ldU (pars ss) cs st j by
            show ldU (pars ss) cs st j + (if st ∈ pth (pars ss) (j + 1) then cs.getD j 0 else 0) = _
            rw [if_neg q', Int.add_zero]]
          rfl
      · rintro σ H3 ⟨y7, rfl, s3⟩
        rw [ejj]
        obtain ⟨x, ex⟩ := some_at (l := rs) (i := st - 1) (by omega)
        refine ⟨_, rfl, _, rfl, _, rfl, _, _, rfl, rfl, r, _, _, _, rfl, rfl, SqL.of ((sH.trans s3) _ _ hr1), at_of (j := st - 1) (by omega) (at_int ex), _, rfl, _, _, rfl, rfl, Or.inl (hb x (List.mem_of_getElem? ex)), _, _, rfl, rfl, ?_⟩
        refine ⟨some (nI st), some (.int (ldU (pars ss) cs st ss.length)), y7, ?_, sH.trans s3, s3 _ _ e2⟩
        rw [dlI_succ est, getD_at ex, List.length_map]
        rfl
    · rintro σ H2 ⟨y5, y6, y7, rfl, sH, e2⟩
      refine ⟨_, rfl, ?_⟩
      rw [List.length_map, dlI_end]
      exact k H2 sH
end
end K29
/-! Sameness, as the law asks it. -/
namespace K29
open PySem PySem.Spec PyProof.Rows L2
def spSameI : Sp := fun vs H Q _ => ∃ (x : Int), vs = [.int x, .int x] ∧ Q (.bl true) H
def spSameT : Sp := fun vs H Q _ => ∃ (s t : Addr) (x y : Int), vs = [.ref s, .ref t] ∧ H s = some (.tup [.int x, .int y]) ∧ H t = some (.tup [.int x, .int y]) ∧ Q (.bl true) H
section
variable {P : Program} {w : World} {K : PySem.W.Frag} {mg : Str → Option Value} {base : Heap}
/-- isinstance(the name in slot i, a built-in type) -/
theorem pe_is {X : Cx} {e : Expr} {te : TE} {x : Str} {T : String} {p p2 pos : Pos} (B : Bl X.mg) (he : PE X e te) (hg : Gl X "isinstance") (hx : Gl X x) (hm : X.mg x = none) (hv : bootBuiltins x = some (.type T))
    (hn : x ≠ "__name__" := by decide) (hdb : (x == ("__debug__" : Str)) = false := by decide) (h1 : starEach [e, .Name x p2] X.env = (false, eval e X.env) :: starEach [.Name x p2] X.env := by rfl) (h2 : starEach [Expr.Name x p2] X.env = (false, eval (.Name x p2) X.env) :: starEach [] X.env := by rfl)
    (hpl : (backTo pos (starEach [Expr.Name x p2] X.env)).any (·.1) = false := by rfl) :
    PE X (.Call (.Name "isinstance" p) [e, .Name x p2] [] pos) (tCB (rIsi X.K) (tCons te (tCons (tC (.ty T)) tNil))) :=
  pe_callB call_isi hg B.isi (by decide +kernel) (pa_cons he (pa_cons (pe_bltn hx hm hv rfl hn hdb) pa_nil h2) h1) (he := h1) (hpl := hpl)
theorem scSame : FnScope ["_law_actual", "_law_due", "_law_k"] ["_law_actual", "_law_due"] (defScope sSame) := ⟨rfl, rfl, rfl, by decide +kernel, rfl, by decide +kernel, by decide +kernel⟩
theorem kitN {K : PySem.W.Frag} {a b : String} {r : Bool} (h : kitB a b = some r) : PySem.W.kitOne K (.type a) (.type b) = some r := kit_ty h
theorem ok_sameI {f : Addr} {fd : FuncData} (F : Fun K "_law_same" "_law_same" sSame f fd) (B : Bl mg) (bs : mg "str" = none) : FnOk P w K mg base CX0 1 f fd ["_law_actual", "_law_due"] spSameI := by
  refine F.ok scSame (fun vs H Q E h => ?_) (fun cdv A outer s H vs Q E hr h => ?_)
  · obtain ⟨x, rfl, _⟩ := h
    rfl
  · obtain ⟨x, rfl, k⟩ := h
    refine ⟨_, pss_cons (ps_if (PW.pt (pw_or (pt_val (pe_is B (pv 1) (by rfl) (by rfl) B.tuple boot_tuple)) (pw_or1 (pt_val (pe_is B (pv 1) (by rfl) (by rfl) B.list boot_list)))))
        pss_never pss_nil)
      (pss_cons (ps_if (pt_cmpR op_isN (pv 1) pe_non (nomark _)) pss_never pss_nil)
      (pss_cons (ps_if (pt_val (pe_is B (pv 1) (by rfl) (by rfl) B.bool boot_bool)) pss_never pss_nil)
      (pss_cons (ps_if (pt_val (pe_is B (pv 1) (by rfl) (by rfl) B.int boot_int))
        (pss_one (ps_ret (pe_and (pe_is B (pv 0) (by rfl) (by rfl) B.int boot_int) (pe_and (pe_not (pe_is B (pv 0) (by rfl) (by rfl) B.bool boot_bool)) (pe_one (pe_cmpR op_eq (pv 0) (pv 1) (nomark _))))))) pss_nil)
      pss_never))), ?_⟩
    refine ⟨_, rfl, _, _, _, _, false, rfl, .ty "tuple", .base (.int x), kitN (by decide +kernel), _, rfl, ?_⟩
    refine ⟨_, rfl, _, _, _, _, false, rfl, .ty "list", .base (.int x), kitN (by decide +kernel), _, rfl, ?_⟩
    refine ⟨_, rfl, rfl, _, rfl, ?_⟩
    refine ⟨_, rfl, _, _, _, _, false, rfl, .ty "bool", .base (.int x), kitN (by decide +kernel), _, rfl, ?_⟩
    refine ⟨_, rfl, _, _, _, _, true, rfl, .ty "int", .base (.int x), kitN (by decide +kernel), _, rfl, ?_⟩
    refine ⟨_, rfl, _, _, _, _, true, rfl, .ty "int", .base (.int x), kitN (by decide +kernel), _, rfl, ?_⟩
    refine ⟨_, rfl, _, _, _, _, false, rfl, .ty "bool", .base (.int x), kitN (by decide +kernel), _, rfl, _, rfl, ?_⟩
    refine ⟨_, rfl, _, rfl, rfl, ?_⟩
    have e : decide (V.int x = V.int x) = true := decide_eq_true rfl
    show Q (.bl (decide (V.int x = V.int x))) H
    rw [e]
    exact k
theorem ok_sameT {f : Addr} {fd : FuncData} (F : Fun K "_law_same" "_law_same" sSame f fd) (B : Bl mg) (bs : mg "str" = none) (gF : mg "_law_same" = some (.ref f)) (bF : Binds K fd ["_law_actual", "_law_due"] []) : FnOk P w K mg base CX0 2 f fd ["_law_actual", "_law_due"] spSameT := by
  have G0 : FnOk P w K mg base CX0 1 f fd ["_law_actual", "_law_due"] spSameI := ok_sameI F B bs
  refine F.ok scSame (fun vs H Q E h => ?_) (fun cdv A outer s H vs Q E hr h => ?_)
  · obtain ⟨s, t, x, y, rfl, _⟩ := h
    rfl
  · obtain ⟨s, t, x, y, rfl, hs, ht, k⟩ := h
    refine ⟨_, pss_cons (ps_if (PW.pt (pw_or (pt_val (pe_is B (pv 1) (by rfl) (by rfl) B.tuple boot_tuple)) (pw_or1 (pt_val (pe_is B (pv 1) (by rfl) (by rfl) B.list boot_list)))))
        (pss_cons (ps_if (PW.pt (pw_or (pt_cmpR op_ne (pe_is B (pv 1) (by rfl) (by rfl) B.tuple boot_tuple) (pe_is B (pv 0) (by rfl) (by rfl) B.tuple boot_tuple) (nomark _)) (pw_or1 (pt_cmpR op_ne (pe_is B (pv 1) (by rfl) (by rfl) B.list boot_list) (pe_is B (pv 0) (by rfl) (by rfl) B.list boot_list) (nomark _)))))
          pss_never pss_nil)
        (pss_cons (ps_if (pt_cmpR op_ne (pe_callB call_len_seq (by rfl) B.len PySem.boot_len (pa_cons (pv 0) pa_nil)) (pe_callB call_len_seq (by rfl) B.len PySem.boot_len (pa_cons (pv 1) pa_nil)) (nomark _)) pss_never pss_nil)
        (pss_cons (ps_for PassesOwn.never rfl (pi_range1 rfl B.range (pa_cons (pe_callB call_len_seq (by rfl) B.len PySem.boot_len (pa_cons (pv 1) pa_nil)) pa_nil)) (pg_name (i := 2) scSame.nd rfl (Or.inl rfl))
          (pss_one (ps_if (pt_not (pt_val (pe_call G0 hr (by rfl) gF F.kp bF .nil pass0 (pa_cons (pe_ix ix_tup (pv 0) (pv 2) (fun _ _ => rfl)) (pa_cons (pe_ix ix_tup (pv 1) (pv 2) (fun _ _ => rfl)) pa_nil))))) pss_never pss_nil)))
        (pss_one (ps_ret pe_bl))))) pss_nil)
      pss_never, ?_⟩
    refine ⟨_, rfl, _, _, _, _, true, rfl, .ty "tuple", .base (.tup ht), kitN (by decide +kernel), _, rfl, ?_⟩
    -- the kinds agree
    refine ⟨_, rfl, _, _, _, _, true, rfl, .ty "tuple", .base (.tup ht), kitN (by decide +kernel), _, rfl, _, _, _, _, true, rfl, .ty "tuple", .base (.tup hs), kitN (by decide +kernel), rfl, _, rfl, ?_⟩
    refine ⟨_, rfl, _, _, _, _, false, rfl, .ty "list", .base (.tup ht), kitN (by decide +kernel), _, rfl, _, _, _, _, false, rfl, .ty "list", .base (.tup hs), kitN (by decide +kernel), rfl, _, rfl, ?_⟩
    -- the lengths agree
    refine ⟨_, rfl, s, _, rfl, Or.inr (SqT.of hs), _, rfl, t, _, rfl, Or.inr (SqT.of ht), rfl, _, rfl, ?_⟩
    refine ⟨_, rfl, t, _, rfl, Or.inr (SqT.of ht), _, rfl, (by show -(2 ^ 62) ≤ (2 : Int); decide), (by show (2 : Int) < 2 ^ 62; decide), for_range (lo := 0) (n := 2) (fun i σ H1 => ∃ v : Option V, σ = [some (.ref s), some (.ref t), v] ∧ H1 = H) ⟨none, rfl, rfl⟩ ?_ ?_⟩
    · rintro i σ H1 hi ⟨v, rfl, rfl⟩
      obtain ⟨z, ez⟩ : ∃ z : Int, [V.int x, V.int y][i]? = some (.int z) := by
        match i, hi with
        | 0, _ => exact ⟨x, rfl⟩
        | 1, _ => exact ⟨y, rfl⟩
      refine ⟨_, rfl, _, rfl, s, _, _, _, rfl, rfl, SqT.of hs, at_of (j := i) (by omega) ez, _, rfl, _, rfl, t, _, _, _, rfl, rfl, SqT.of ht, at_of (j := i) (by omega) ez, z, rfl, _, rfl, ?_⟩
      exact ⟨_, rfl, rfl⟩
    · rintro σ H1 ⟨v, rfl, rfl⟩
      exact k
end
end K29
/-! The tree's check, paths and what lies below. -/
namespace K29
open PySem PySem.Spec PyProof.Rows L2
/-- the class of trees, as the top has made it -/
structure Tr (K : PySem.W.Frag) (mg : Str → Option Value) (C : Addr) : Prop where
  cl : Cls K C
  nP : NoAttr K C "_parents"
  nR : NoAttr K C "_resistances"
  nC : NoAttr K C "_capacitances"
  gT : mg "WireTree" = some (.ref C)
def spCheck (C : Addr) : Sp := fun vs H Q _ => ∃ (p : Addr) (ss : List Seg) (n : Nat), vs = [.ref p, nI n] ∧ TreeAt C H p ss ∧ n ≤ ss.length ∧ Q .non H
def spPathM (C : Addr) : Sp := fun vs H Q _ => ∃ (p : Addr) (ss : List Seg) (n : Nat), vs = [.ref p, nI n] ∧ TreeAt C H p ss ∧ Good ss ∧ n ≤ ss.length ∧ ∀ f H', Same H H' → H' f = some (.lst ((pth (pars ss) n).map nI)) → Q (.ref f) H'
def spBelow (C : Addr) : Sp := fun vs H Q _ => ∃ (p : Addr) (ss : List Seg) (n : Nat), vs = [.ref p, nI n] ∧ TreeAt C H p ss ∧ Good ss ∧ n ≤ ss.length ∧ ∀ f H', Same H H' → H' f = some (.lst ((bel (pars ss) n (ss.length + 1)).map nI)) → Q (.ref f) H'
theorem map_snoc (L : List Nat) (x : Nat) : (L ++ [x]).map nI = L.map nI ++ [nI x] := by
  rw [List.map_append]
  rfl
section
variable {P : Program} {w : World} {K : PySem.W.Frag} {mg : Str → Option Value} {base : Heap} {C : Addr}
theorem scCheck : FnScope ["self", "node"] ["self", "node"] (defScope sCheck) := ⟨rfl, rfl, rfl, by decide +kernel, rfl, by decide +kernel, by decide +kernel⟩
theorem ok_check {f : Addr} {fd : FuncData} (F : Fun K "check_node" "WireTree.check_node" sCheck f fd) (B : Bl mg) (T : Tr K mg C) : FnOk P w K mg base CX0 1 f fd ["self", "node"] (spCheck C) := by
  refine F.ok scCheck (fun vs H Q E h => ?_) (fun cdv A outer s H vs Q E hr h => ?_)
  · obtain ⟨p, ss, n, rfl, _⟩ := h
    rfl
  · obtain ⟨p, ss, n, rfl, ⟨dx, a, b, c, h1, ha, hb, hc⟩, hn, k⟩ := h
    refine ⟨_, pss_one (ps_if (PW.pt (pw_or (pt_cmpR op_lt (pv 1) pe_int (nomark _)) (pw_or1 (pt_cmpR op_ge (pv 1) (pe_callB call_len_seq (by rfl) B.len PySem.boot_len (pa_cons (pe_fld (pv 0) rfl) pa_nil)) (nomark _)))))
      pss_never pss_nil), ?_⟩
    refine ⟨_, rfl, _, _, rfl, rfl, _, rfl, ?_⟩
    refine ite2 (fun q => ?_) (fun _ => ?_)
    · have q' := of_decide_eq_true q
      omega
    refine ⟨_, rfl, _, rfl, p, C, dx, _, _, rfl, h1, T.cl, T.nP, flds_par _ _ _, a, _, rfl, Or.inl (SqL.of ha), _, _, rfl, rfl, _, rfl, ?_⟩
    refine ite2 (fun q => ?_) (fun _ => ?_)
    · have q' := of_decide_eq_true q
      rw [List.length_map, List.length_cons, List.length_map] at q'
      omega
    exact k
theorem scPathM : FnScope ["self", "node", "nodes"] ["self", "node"] (defScope sPathM) := ⟨rfl, rfl, rfl, by decide +kernel, rfl, by decide +kernel, by decide +kernel⟩
theorem ok_pathM {f fC : Addr} {fd fdC : FuncData} (F : Fun K "path" "WireTree.path" sPathM f fd) (B : Bl mg) (T : Tr K mg C) (FC : Fun K "check_node" "WireTree.check_node" sCheck fC fdC) (bC : Binds K fdC ["self", "node"] []) (mC : Meth K C "check_node" fC) :
    FnOk P w K mg base CX0 2 f fd ["self", "node"] (spPathM C) := by
  have GC : FnOk P w K mg base CX0 1 fC fdC ["self", "node"] (spCheck C) := ok_check FC B T
  refine F.ok scPathM (fun vs H Q E h => ?_) (fun cdv A outer s H vs Q E hr h => ?_)
  · obtain ⟨p, ss, n, rfl, _⟩ := h
    rfl
  · obtain ⟨p, ss, n, rfl, hT, G, hn, k⟩ := h
    have hP : Par (pars ss) := G.par
    have h8 := G.len
    obtain ⟨dx, a, b, c, h1, ha, hb, hc⟩ := id hT
    refine ⟨_, pss_cons (ps_expr (pe_meth (pv 0) T.cl mC GC hr bC .nil pass0 (pa_cons (pv 1) pa_nil)))
      (pss_cons (ps_set (i := 2) scPathM.nd rfl (Or.inl rfl) (pe_lst (pa_cons (pv 1) pa_nil)))
      (pss_cons (ps_while PassesOwn.never (pt_cmpR op_gt (pe_ix ix_list (pv 2) (pe_un un_neg pe_int) (fun _ _ => rfl)) pe_int (nomark _))
        (pss_one (ps_expr (pe_bm PySem.F.plainAttrs_list PySem.F.slot_list_append PySem.F.type_list_append mt_append (pv 2)
          (pa_cons (pe_ix ix_list (pe_fld (pv 0) rfl) (pe_ix ix_list (pv 2) (pe_un un_neg pe_int) (fun _ _ => rfl)) (fun _ _ => rfl)) pa_nil)))))
      (pss_cons (ps_expr (pe_bm0 PySem.F.plainAttrs_list PySem.F.slot_list_reverse PySem.F.type_list_reverse mt_reverse (pv 2)))
      (pss_one (ps_ret (pv 2)))))), ?_⟩
    refine ⟨_, rfl, p, dx, _, rfl, h1, flds_no _ _ _ (by decide +kernel) (by decide +kernel) (by decide +kernel), _, rfl, p, ss, n, rfl, hT, hn, ?_⟩
    refine ⟨_, rfl, (by show 1 ≤ sizeLine; decide), fun f hf => ?_⟩
    have s0 := same_upd (o := .lst [nI n]) hf
    refine ⟨fun m σ H1 => ∃ (L : List Nat) (x : Nat), σ = [some (.ref p), some (nI n), some (.ref f)] ∧ m = x ∧ Same H H1 ∧ H1 f = some (.lst ((L ++ [x]).map nI)) ∧ pth (pars ss) n = pth (pars ss) x ++ L.reverse ∧ x + L.length ≤ n,
      ⟨n, [], n, rfl, rfl, s0, upd_same, by rw [List.reverse_nil, List.append_nil], Nat.le_refl _⟩, ?_⟩
    rintro m σ H1 ⟨L, x, rfl, rfl, sH, ef, q, hx⟩
    have ef' : H1 f = some (.lst (L.map nI ++ [nI m])) := by rw [ef, map_snoc]
    refine ⟨_, rfl, _, rfl, f, _, _, _, rfl, rfl, SqL.of ef', atI_last _ _, _, _, rfl, rfl, _, rfl, ?_⟩
    refine ite2 (fun c => ?_) (fun c => ?_)
    · have c' := of_decide_eq_true c
      obtain ⟨y, rfl⟩ : ∃ y, m = y + 1 := ⟨m - 1, by omega⟩
      obtain ⟨sg, esg⟩ := some_at (l := ss) (i := y) (by omega)
      have ep : (pars ss)[y]? = some sg.par := by rw [List.getElem?_map, esg]; rfl
      have hle := hP _ _ ep
      have ea : ((-1 :: ss.map fun s => (s.par : Int)).map V.int)[y + 1]? = some (nI sg.par) := by
        rw [List.getElem?_map, List.getElem?_cons_succ, List.getElem?_map, esg]
        rfl
      refine ⟨fun σ' H' => ∃ (L : List Nat) (x : Nat), σ' = [some (.ref p), some (nI n), some (.ref f)] ∧ x < y + 1 ∧ Same H H' ∧ H' f = some (.lst ((L ++ [x]).map nI)) ∧ pth (pars ss) n = pth (pars ss) x ++ L.reverse ∧ x + L.length ≤ n,
        fun σ' H' ⟨L', x', e1, e2, e3⟩ => ⟨x', e2, L', x', e1, rfl, e3⟩, ?_⟩
      refine ⟨_, rfl, Or.inl ⟨rfl, _, SqL.of ef⟩, _, rfl, p, C, dx, _, _, rfl, sH _ _ h1, T.cl, T.nP, flds_par _ _ _, _, rfl, _, rfl, f, _, _, _, rfl, rfl, SqL.of ef', atI_last _ _, a, _, _, _, rfl, rfl, SqL.of (sH _ _ ha), at_of (j := y + 1) rfl ea,
        f, _, _, rfl, rfl, ef, small1000 (by rw [List.length_map, List.length_append]; show L.length + 1 ≤ 1000; omega), ?_⟩
      refine ⟨L ++ [y + 1], sg.par, rfl, by omega, fun z o e => ?_, ?_, nodes_step hP ep q, ?_⟩
      · rw [upd_ne (ne_of_none e hf)]
        exact sH z o e
      · rw [upd_same, map_snoc (L ++ [y + 1])]
      · rw [List.length_append]
        show sg.par + (L.length + 1) ≤ n
        omega
    · have c' : ¬ (0 : Int) < (m : Int) := fun z => c (decide_eq_true z)
      have e0 : m = 0 := by omega
      subst e0
      refine ⟨_, rfl, Or.inl ⟨rfl, _, SqL.of ef⟩, f, _, rfl, rfl, ef, ?_⟩
      refine ⟨_, rfl, k f _ (fun z o e => ?_) ?_⟩
      · rw [upd_ne (ne_of_none e hf)]
        exact sH z o e
      · rw [upd_same, ← List.map_reverse, nodes_end q]
theorem scBelow : FnScope ["self", "node", "other"] ["self", "node"] (defScope sBelow) := ⟨rfl, rfl, rfl, by decide +kernel, rfl, by decide +kernel, by decide +kernel⟩
theorem ok_below {f fC fP : Addr} {fd fdC fdP : FuncData} (F : Fun K "below" "WireTree.below" sBelow f fd) (B : Bl mg) (T : Tr K mg C) (FC : Fun K "check_node" "WireTree.check_node" sCheck fC fdC) (bC : Binds K fdC ["self", "node"] []) (mC : Meth K C "check_node" fC)
    (FP : Fun K "path" "WireTree.path" sPathM fP fdP) (bP : Binds K fdP ["self", "node"] []) (mP : Meth K C "path" fP) : FnOk P w K mg base CX0 3 f fd ["self", "node"] (spBelow C) := by
  have GC : FnOk P w K mg base CX0 1 fC fdC ["self", "node"] (spCheck C) := ok_check FC B T
  have GP : FnOk P w K mg base CX0 2 fP fdP ["self", "node"] (spPathM C) := ok_pathM FP B T FC bC mC
  refine F.ok scBelow (fun vs H Q E h => ?_) (fun cdv A outer s H vs Q E hr h => ?_)
  · obtain ⟨p, ss, n, rfl, _⟩ := h
    rfl
  · obtain ⟨p, ss, n, rfl, hT, G, hn, k⟩ := h
    have h8 := G.len
    obtain ⟨dx, a, b, c, h1, ha, hb, hc⟩ := id hT
    have hr1 := hr.mono (show 1 ≤ 2 by decide)
    refine ⟨_, pss_cons (ps_expr (pe_meth (pv 0) T.cl mC GC hr1 bC .nil pass0 (pa_cons (pv 1) pa_nil)))
      (pss_one (ps_ret (pe_lc (own := [("other", 2)]) (g := gName 2) rfl scBelow.nd (pi_range1 rfl B.range (pa_cons (pe_callB call_len_seq (by rfl) B.len PySem.boot_len (pa_cons (pe_fld (pv 0) rfl) pa_nil)) pa_nil)) (blkOk_by (N := ["self", "node", "other"]) (sc := defScope sBelow) (by decide +kernel))
        (fun _ _ _ _ _ => pg_name (i := 2) scBelow.nd rfl (Or.inl rfl))
        (fun _ _ _ _ _ => pts_one (pt_cmpR (opIn K rfl) (pv 1) (pe_meth (pv 0) T.cl mP GP hr bP .nil pass0 (pa_cons (pv 2) pa_nil)) (by rfl)))
        (fun _ _ _ _ _ => pv 2)))), ?_⟩
    refine ⟨_, rfl, p, dx, _, rfl, h1, flds_no _ _ _ (by decide +kernel) (by decide +kernel) (by decide +kernel), _, rfl, p, ss, n, rfl, hT, hn, ?_⟩
    have el : (((-1 :: ss.map fun s => (s.par : Int)).map V.int).length : Int) = ((ss.length + 1 : Nat) : Int) := by
      rw [List.length_map, List.length_cons, List.length_map]
    refine ⟨_, rfl, p, C, dx, _, _, rfl, h1, T.cl, T.nP, flds_par _ _ _, a, _, rfl, Or.inl (SqL.of ha), _, rfl, by rw [el]; omega, by rw [el]; omega, fun D hD => ?_⟩
    rw [el]
    refine lc_range (lo := 0) (n := ((ss.length + 1 : Nat) : Int).toNat) (fun i H1 => Same H H1 ∧ H1 D = some (.lst ((bel (pars ss) n i).map nI))) ⟨same_upd hD, upd_same⟩ ?_ ?_
    · rintro i H1 hi ⟨sH, eD⟩
      have hi' : i ≤ ss.length := by omega
      have ei : (0 : Int) + (i : Int) = (i : Int) := Int.zero_add _
      refine ⟨rfl, ?_⟩
      refine ⟨_, rfl, _, rfl, p, dx, _, rfl, sH _ _ h1, flds_no _ _ _ (by decide +kernel) (by decide +kernel) (by decide +kernel), _, rfl, p, ss, i, by rw [ei]; rfl, hT.kp (Kp.of sH), G, hi', fun f2 H2 s2 e2 => ?_⟩
      refine ⟨f2, _, rfl, Or.inl (SqL.of e2), rfl, flat_nI _, _, rfl, ?_⟩
      rw [inV_nI]
      have sH2 := sH.trans s2
      refine ite2 (fun q => ?_) (fun q => ?_)
      · have q' : n ∈ pth (pars ss) i := of_decide_eq_true q
        refine ⟨_, rfl, _, s2 _ _ eD, small1000 ?_, fun z o e => ?_, ?_⟩
        · rw [List.length_map]
          have z := List.length_filter_le (fun o => decide (n ∈ pth (pars ss) o)) (List.range i)
          rw [List.length_range] at z
          show (bel (pars ss) n i).length ≤ 1000
          exact Nat.le_trans z (by omega)
        · rw [upd_ne (ne_of_none e hD)]
          exact sH2 z o e
        · rw [upd_same, bel_succ, if_pos q', map_snoc, ei]
      · have q' : ¬ n ∈ pth (pars ss) i := fun z => q (decide_eq_true z)
        refine ⟨sH2, ?_⟩
        rw [s2 _ _ eD, bel_succ, if_neg q', List.append_nil]
    · rintro H1 ⟨sH, eD⟩
      exact k D H1 sH eD
end
end K29
/-! A tree is made. -/
namespace K29
open PySem PySem.Spec PyProof.Rows L2
def spInit (C : Addr) : Sp := fun vs H Q _ => ∃ (p dx a : Addr) (ss : List Seg), vs = [.ref p, .ref a] ∧ H p = some (.ins C dx []) ∧ SegsAt H a ss ∧ Good ss ∧ ∀ H', TreeAt C H' p ss → But p H H' → Q .non H'
/-- a loop over enumerate -/
theorem for_enum {K : PySem.W.Frag} {a : Addr} {xs : List V} {g : TG} {tb : TS} {D : Ends} {σ : L2.St} {H : Hp} (Pv : Nat → L2.St → Hp → Prop) (h0 : Pv 0 σ H) (hl : ∀ i σ H, i ≤ xs.length → Pv i σ H → SqL K H a xs)
    (hs : ∀ i x σ H T, xs[i]? = some x → Pv i σ H → H T = none → g (.ref T) σ (upd H T (.tup [.int (i : Nat), x])) fun σ2 H2 => tb { D with nx := Pv (i + 1), ct := Pv (i + 1), bk := D.nx } σ2 H2) (hd : ∀ σ H, Pv xs.length σ H → D.nx σ H) :
    ∃ W : Nat → Nat → L2.St → Hp → Prop, (∃ m, W 0 m σ H) ∧ ∀ i m σ H, W i m σ H →
      ((Ite K a).stop i H ∧ D.nx σ H) ∨ ((Ite K a).go i H ∧ ∃ N : L2.St → Hp → Prop, (∀ σ' H', N σ' H' → ∃ m', m' < m ∧ W (i + 1) m' σ' H') ∧ ∀ x H', (Ite K a).yld i H x H' → g x σ H' fun σ2 H2 => tb { D with nx := N, ct := N, bk := D.nx } σ2 H2) := by
  refine ⟨fun i m σ H => m + i = xs.length ∧ Pv i σ H, ⟨xs.length, rfl, h0⟩, ?_⟩
  rintro i m σ H ⟨em, pv⟩
  have q := hl i σ H (by omega) pv
  by_cases hi : i < xs.length
  · refine .inr ⟨⟨xs, xs[i], q, List.getElem?_eq_getElem hi⟩, Pv (i + 1), fun σ' H' pv' => ⟨m - 1, by omega, by omega, pv'⟩, fun x H' y => ?_⟩
    obtain ⟨T, u, rfl, hT, rfl, f⟩ := y
    exact hs i u σ H T (f xs q) pv hT
  · have e : i = xs.length := by omega
    subst e
    exact .inl ⟨⟨xs, q, Nat.le_refl _⟩, hd σ H pv⟩
theorem All2.append {α : Type} {R : V → α → Prop} {vs ws : List V} {xs ys : List α} (h : All2 R vs xs) (k : All2 R ws ys) : All2 R (vs ++ ws) (xs ++ ys) := by
  refine ⟨by rw [List.length_append, List.length_append, h.1, k.1], fun i u y a b => ?_⟩
  by_cases hi : i < vs.length
  · rw [List.getElem?_append_left hi] at a
    rw [List.getElem?_append_left (by rw [← h.1]; exact hi)] at b
    exact h.2 i u y a b
  · rw [List.getElem?_append_right (by omega)] at a
    rw [List.getElem?_append_right (by rw [← h.1]; omega), ← h.1] at b
    exact k.2 _ u y a b
theorem take_snoc {α : Type} {l : List α} {i : Nat} {x : α} (h : l[i]? = some x) : l.take (i + 1) = l.take i ++ [x] := by
  rw [List.take_add_one, h]
  rfl
/-- the attributes one behind another -/
theorem put1 (a : Addr) : putF "_parents" (.ref a) [] = ([("_parents", V.ref a)] : List (Str × V)) := rfl
theorem put2 (a b : Addr) : putF "_resistances" (.ref b) ([("_parents", V.ref a)] : List (Str × V)) = ([("_parents", V.ref a), ("_resistances", V.ref b)] : List (Str × V)) := by
  have h : ¬ (("_parents" : Str) = "_resistances") := by decide +kernel
  show (if ("_parents" : Str) = "_resistances" then _ else _) = _
  rw [if_neg h]
  rfl
theorem put3 (a b c : Addr) : putF "_capacitances" (.ref c) ([("_parents", V.ref a), ("_resistances", V.ref b)] : List (Str × V)) = flds a b c := by
  have h1 : ¬ (("_parents" : Str) = "_capacitances") := by decide +kernel
  have h2 : ¬ (("_resistances" : Str) = "_capacitances") := by decide +kernel
  show (if ("_parents" : Str) = "_capacitances" then _ else (("_parents" : Str), V.ref a) :: (if ("_resistances" : Str) = "_capacitances" then _ else _)) = _
  rw [if_neg h1, if_neg h2]
  rfl
section
variable {P : Program} {w : World} {K : PySem.W.Frag} {mg : Str → Option Value} {base : Heap} {C : Addr}
theorem scInit : FnScope ["self", "segments", "k", "parent", "resistance", "capacitance", "low", "high"] ["self", "segments"] (defScope sInit) := ⟨rfl, rfl, rfl, by decide +kernel, rfl, by decide +kernel, by decide +kernel⟩
theorem ok_init {f : Addr} {fd : FuncData} (F : Fun K "__init__" "WireTree.__init__" sInit f fd) (B : Bl mg) (T : Tr K mg C) : FnOk P w K mg base CX0 1 f fd ["self", "segments"] (spInit C) := by
  refine F.ok scInit (fun vs H Q E h => ?_) (fun cdv A outer s H vs Q E hr h => ?_)
  · obtain ⟨p, dx, a, ss, rfl, _⟩ := h
    rfl
  · obtain ⟨p, dx, a, ss, rfl, hp, hS, G, k⟩ := h
    have h8 := G.len
    refine ⟨_, pss_cons (ps_fld (pv 0) (pe_lst (pa_cons (pe_un un_neg pe_int) pa_nil)) rfl)
      (pss_cons (ps_fld (pv 0) (pe_lst pa_nil) rfl)
      (pss_cons (ps_fld (pv 0) (pe_lst pa_nil) rfl)
      (pss_cons (ps_for PassesOwn.never rfl (pi_enum (by rfl) B.enum (pa_cons (pv 1) pa_nil))
          (pg_tup rfl (pgs_cons (pg_name (i := 2) scInit.nd rfl (Or.inl rfl)) (pgs_cons (pg_tup rfl (pgs_cons (pg_name (i := 3) scInit.nd rfl (Or.inl rfl)) (pgs_cons (pg_name (i := 4) scInit.nd rfl (Or.inl rfl)) (pgs_cons (pg_name (i := 5) scInit.nd rfl (Or.inl rfl)) pgs_nil)))) pgs_nil)))
        (pss_cons (ps_if (PW.pt (pw_or (pt_cmpR op_lt (pv 3) pe_int (nomark _)) (pw_or1 (pt_cmpR op_gt (pv 3) (pv 2) (nomark _))))) pss_never pss_nil)
        (pss_cons (ps_expr (pe_bm PySem.F.plainAttrs_list PySem.F.slot_list_append PySem.F.type_list_append mt_append (pe_fld (pv 0) rfl) (pa_cons (pv 3) pa_nil)))
        (pss_cons (ps_expr (pe_bm PySem.F.plainAttrs_list PySem.F.slot_list_append PySem.F.type_list_append mt_append (pe_fld (pv 0) rfl) (pa_cons (pv 4) pa_nil)))
        (pss_one (ps_expr (pe_bm PySem.F.plainAttrs_list PySem.F.slot_list_append PySem.F.type_list_append mt_append (pe_fld (pv 0) rfl) (pa_cons (pv 5) pa_nil))))))))
      (pss_one (ps_for PassesOwn.never rfl (pi_list (pe_op op_cat (pe_fld (pv 0) rfl) (pe_fld (pv 0) rfl)))
          (pg_tup rfl (pgs_cons (pg_name (i := 6) scInit.nd rfl (Or.inl rfl)) (pgs_cons (pg_name (i := 7) scInit.nd rfl (Or.inl rfl)) pgs_nil)))
        (pss_one (ps_if (PW.pt (pw_or (pt_cmpR op_lt (pv 6) pe_int (nomark _)) (pw_or1 (pt_cmpR op_gt (pv 6) (pv 7) (nomark _))))) pss_never pss_nil))))))), ?_⟩
    -- the three lists
    refine ⟨_, rfl, (by show 1 ≤ sizeLine; decide), fun l1 n1 => ?_⟩
    have np1 : p ≠ l1 := ne_of_none hp n1
    have hp1 := same_upd (o := .lst [.int (-1)]) n1 _ _ hp
    refine ⟨_, rfl, p, C, dx, [], rfl, hp1, T.cl, T.nP, (by show 0 < 1000; decide), ?_⟩
    rw [put1]
    refine ⟨Nat.zero_le _, fun l2 n2 => ?_⟩
    have np2 : p ≠ l2 := fun q => by
      rw [← q, upd_same] at n2
      cases n2
    have n12 : l1 ≠ l2 := fun q => by
      rw [← q, upd_ne np1.symm, upd_same] at n2
      cases n2
    have f2 : H l2 = none := by
      rw [upd_ne np2.symm, upd_ne n12.symm] at n2
      exact n2
    refine ⟨_, rfl, p, C, dx, _, rfl, (by rw [upd_ne np2]; exact upd_same), T.cl, T.nR, (by show 1 < 1000; decide), ?_⟩
    rw [put2]
    refine ⟨Nat.zero_le _, fun l3 n3 => ?_⟩
    have np3 : p ≠ l3 := fun q => by
      rw [← q, upd_same] at n3
      cases n3
    have n23 : l2 ≠ l3 := fun q => by
      rw [← q, upd_ne np2.symm, upd_same] at n3
      cases n3
    have n13 : l1 ≠ l3 := fun q => by
      rw [← q, upd_ne np1.symm, upd_ne n12, upd_ne np1.symm, upd_same] at n3
      cases n3
    have f3 : H l3 = none := by
      rw [upd_ne np3.symm, upd_ne n23.symm, upd_ne np3.symm, upd_ne n13.symm] at n3
      exact n3
    refine ⟨_, rfl, p, C, dx, _, rfl, (by rw [upd_ne np3]; exact upd_same), T.cl, T.nC, (by show 2 < 1000; decide), ?_⟩
    rw [put3]
    -- what stands
    obtain ⟨ws, ew, A2⟩ := hS
    have nap : a ≠ p := ne_of ew hp (by intro q; cases q)
    have stand : ∀ (H1 : Hp), But p H H1 → SqL K H1 a ws := fun H1 b => SqL.of (b _ _ ew nap)
    refine ⟨_, rfl, a, ws, rfl, stand _ fun b o e n => ?_, for_enum (K := K) (a := a) (xs := ws) (fun i σ H1 => ∃ (v1 v2 : List V) (y2 y3 y4 y5 : Option V), σ = [some (.ref p), some (.ref a), y2, y3, y4, y5, none, none] ∧ But p H H1 ∧ H1 p = some (.ins C dx (flds l1 l2 l3)) ∧
        IntsAt H1 l1 (-1 :: (ss.take i).map fun s => (s.par : Int)) ∧ H1 l2 = some (.lst v1) ∧ All2 (PairAt H1) v1 ((ss.take i).map (·.r)) ∧ H1 l3 = some (.lst v2) ∧ All2 (PairAt H1) v2 ((ss.take i).map (·.c)))
      ⟨[], [], none, none, none, none, rfl, fun b o e n => ?_, upd_same, ?_, ?_, All2.nil, ?_, All2.nil⟩ (fun i σ H1 _ ⟨_, _, _, _, _, _, _, b, _⟩ => stand H1 b) ?_ ?_⟩
    · rw [upd_ne n, upd_ne (ne_of_none e f3), upd_ne n, upd_ne (ne_of_none e f2), upd_ne n, upd_ne (ne_of_none e n1)]
      exact e
    · rw [upd_ne n, upd_ne (ne_of_none e f3), upd_ne n, upd_ne (ne_of_none e f2), upd_ne n, upd_ne (ne_of_none e n1)]
      exact e
    · show upd _ p _ l1 = _
      rw [upd_ne np1.symm, upd_ne n13, upd_ne np1.symm, upd_ne n12, upd_ne np1.symm, upd_same]
      rfl
    · rw [upd_ne np2.symm, upd_ne n23, upd_ne np2.symm, upd_same]
    · rw [upd_ne np3.symm, upd_same]
    · rintro i v σ H1 t hi ⟨v1, v2, y2, y3, y4, y5, rfl, bH, ep, e1, e2, A1, e3, A3⟩ ht
      obtain ⟨sg, esg, t0, x0, y0, rfl, et0, hx0, hy0⟩ := A2.getV hi
      have hil : i < ss.length := (List.getElem?_eq_some_iff.mp esg).1
      have hle : sg.par ≤ i := G.par i sg.par (by rw [List.getElem?_map, esg]; rfl)
      have st := same_upd (o := .tup [.int ((i : Nat) : Int), .ref t0]) ht
      have nt : t0 ≠ p := ne_of et0 hp (by intro q; cases q)
      have et1 : H1 t0 = some (.tup [.int (sg.par : Int), x0, y0]) := bH _ _ et0 nt
      -- k, (parent, resistance, capacitance) = ..
      refine ⟨t, _, rfl, SqT.of upd_same, rfl, _, _, rfl, _, _, rfl, ⟨t0, _, rfl, SqT.of (st _ _ et1), rfl, _, _, rfl, _, _, rfl, _, _, rfl, rfl, rfl, ?_⟩⟩
      refine ⟨_, rfl, _, _, rfl, rfl, _, rfl, ?_⟩
      refine ite2 (fun q => ?_) (fun _ => ?_)
      · have q' := of_decide_eq_true q
        omega
      refine ⟨_, rfl, _, rfl, _, _, rfl, rfl, _, rfl, ?_⟩
      refine ite2 (fun q => ?_) (fun _ => ?_)
      · have q' := of_decide_eq_true q
        omega
      -- the three appends
      have lt1000 : ∀ {α : Type} (l : List α), l.length ≤ i + 1 → l.length < sizeLine := fun l h => small1000 (by omega)
      refine ⟨_, rfl, p, C, dx, _, _, rfl, st _ _ ep, T.cl, T.nP, flds_par _ _ _, Or.inl ⟨rfl, _, SqL.of (st _ _ e1)⟩, _, rfl, l1, _, _, rfl, rfl, st _ _ e1, lt1000 _ (by rw [List.length_map, List.length_cons, List.length_map, List.length_take]; omega), ?_⟩
      have g2 : ∀ o : HO, upd (upd H1 t (.tup [.int ((i : Nat) : Int), .ref t0])) l1 o l2 = some (.lst v1) := fun o => Eq.trans (upd_ne n12.symm) (st _ _ e2)
      refine ⟨_, rfl, p, C, dx, _, _, rfl, Eq.trans (upd_ne np1) (st _ _ ep), T.cl, T.nR, flds_res _ _ _, Or.inl ⟨rfl, _, SqL.of (g2 _)⟩, _, rfl, l2, _, _, rfl, rfl, g2 _, lt1000 _ (by rw [A1.1, List.length_map, List.length_take]; omega), ?_⟩
      have g3 : ∀ o u : HO, upd (upd (upd H1 t (.tup [.int ((i : Nat) : Int), .ref t0])) l1 o) l2 u l3 = some (.lst v2) := fun o u => Eq.trans (upd_ne n23.symm) (Eq.trans (upd_ne n13.symm) (st _ _ e3))
      refine ⟨_, rfl, p, C, dx, _, _, rfl, Eq.trans (upd_ne np2) (Eq.trans (upd_ne np1) (st _ _ ep)), T.cl, T.nC, flds_cap _ _ _, Or.inl ⟨rfl, _, SqL.of (g3 _ _)⟩, _, rfl, l3, _, _, rfl, rfl, g3 _ _, lt1000 _ (by rw [A3.1, List.length_map, List.length_take]; omega), ?_⟩
      have tpA : ∀ o1 o2 o3 : HO, Tp H1 (upd (upd (upd (upd H1 t (.tup [.int ((i : Nat) : Int), .ref t0])) l1 o1) l2 o2) l3 o3) := fun o1 o2 o3 b xs e =>
        Tp.set (g3 o1 o2) _ _ (Tp.set (g2 o1) _ _ (Tp.set (st _ _ e1) _ _ (st _ _ e)))
      have tpH : ∀ o1 o2 o3 : HO, Tp H (upd (upd (upd (upd H1 t (.tup [.int ((i : Nat) : Int), .ref t0])) l1 o1) l2 o2) l3 o3) := fun o1 o2 o3 b xs e => tpA o1 o2 o3 _ _ (bH _ _ e (ne_of e hp (by intro q; cases q)))
      refine ⟨v1 ++ [x0], v2 ++ [y0], _, _, _, _, rfl, fun b o e n => ?_, ?_, ?_, ?_, ?_, upd_same, ?_⟩
      · rw [upd_ne (ne_of_none e f3), upd_ne (ne_of_none e f2), upd_ne (ne_of_none e n1)]
        exact st _ _ (bH _ _ e n)
      · rw [upd_ne np3, upd_ne np2, upd_ne np1]
        exact st _ _ ep
      · show upd _ l3 _ l1 = _
        rw [upd_ne n13, upd_ne n12, upd_same, take_snoc esg, List.map_append, ← List.cons_append, List.map_append]
        rfl
      · rw [upd_ne n23, upd_same]
      · rw [take_snoc esg, List.map_append]
        exact (A1.mono fun v x r => r.tp (tpA _ _ _)).snoc (hx0.tp (tpH _ _ _))
      · rw [take_snoc esg, List.map_append]
        exact (A3.mono fun v x r => r.tp (tpA _ _ _)).snoc (hy0.tp (tpH _ _ _))
    · rintro σ H1 ⟨v1, v2, y2, y3, y4, y5, rfl, bH, ep, e1, e2, A1, e3, A3⟩
      have et : ss.take ws.length = ss := by rw [A2.1, List.take_length]
      rw [et] at e1 A1 A3
      have l1r : v1.length = ss.length := by rw [A1.1, List.length_map]
      have l2r : v2.length = ss.length := by rw [A3.1, List.length_map]
      refine ⟨_, rfl, p, C, dx, _, _, rfl, ep, T.cl, T.nR, flds_res _ _ _, _, rfl, p, C, dx, _, _, rfl, ep, T.cl, T.nC, flds_cap _ _ _, l2, l3, _, _, rfl, rfl, e2, e3, Nat.le_of_lt (small1000 (by omega)), fun z hz => ?_⟩
      have sz := same_upd (o := .lst (v1 ++ v2)) hz
      have A4 := A1.append A3
      refine ⟨z, rfl, ⟨_, SqL.of upd_same⟩, for_list (K := K) (a := z) (xs := v1 ++ v2) (fun i σ H2 => ∃ (y6 y7 : Option V), σ = [some (.ref p), some (.ref a), y2, y3, y4, y5, y6, y7] ∧ H2 = upd H1 z (.lst (v1 ++ v2)))
        ⟨none, none, rfl, rfl⟩ (fun i σ H2 _ ⟨_, _, _, e⟩ => by rw [e]; exact SqL.of upd_same) ?_ ?_⟩
      · rintro i v σ H2 hi ⟨y6, y7, rfl, rfl⟩
        obtain ⟨q, eq, t, rfl, eqt⟩ := A4.getV hi
        have hq : 0 ≤ q.1 ∧ q.1 ≤ q.2 := by
          rcases List.mem_append.mp (List.mem_of_getElem? eq) with h | h
          · obtain ⟨s, hs, rfl⟩ := List.mem_map.mp h
            have z := G.rng s hs
            exact ⟨z.1, z.2.1⟩
          · obtain ⟨s, hs, rfl⟩ := List.mem_map.mp h
            have z := G.rng s hs
            exact ⟨z.2.2.2.1, z.2.2.2.2.1⟩
        refine ⟨t, _, rfl, SqT.of (sz _ _ eqt), rfl, _, _, rfl, _, _, rfl, rfl, ?_⟩
        refine ⟨_, rfl, _, _, rfl, rfl, _, rfl, ?_⟩
        refine ite2 (fun c => ?_) (fun _ => ?_)
        · have c' := of_decide_eq_true c
          omega
        refine ⟨_, rfl, _, rfl, _, _, rfl, rfl, _, rfl, ?_⟩
        refine ite2 (fun c => ?_) (fun _ => ?_)
        · have c' := of_decide_eq_true c
          omega
        exact ⟨_, _, rfl, rfl⟩
      · rintro σ H2 ⟨y6, y7, rfl, rfl⟩
        have hT : TreeAt C H1 p ss := ⟨dx, l1, l2, l3, ep, e1, ⟨v1, e2, A1⟩, ⟨v2, e3, A3⟩⟩
        exact k _ (hT.kp (Kp.of sz)) (bH.trans (But.of sz))
end
end K29
/-! The tree's delays. -/
namespace K29
open PySem PySem.Spec PyProof.Rows L2
/-- an own error's class at X, by its name n -/
structure Er (K : PySem.W.Frag) (mg : Str → Option Value) (n : Str) (X : Addr) : Prop where
  g : mg n = some (.ref X)
  x : PySem.W.excIn K X [.type "ValueError", .type "Exception", .type "BaseException", .type "object"] "ValueError.__new__" = true
  k : PySem.W.keepIn K (.ref X) = true
  b : PySem.W.subIn K (.ref X) (.type "BaseException") = some true
  t : PySem.W.typeIn K (.ref X) = some (.type "type")
def spDelayM (C WC : Addr) : Sp := fun vs H Q E => ∃ (p r c : Addr) (ss : List Seg) (n : Nat) (rs cs : List Int), vs = [.ref p, nI n, .ref r, .ref c] ∧ TreeAt C H p ss ∧ Good ss ∧ n ≤ ss.length ∧ IntsAt H r rs ∧ IntsAt H c cs ∧
  ((rs.length = ss.length ∧ cs.length = ss.length ∧ (∀ x ∈ rs, -(2 ^ 64) < x ∧ x < 2 ^ 64) ∧ ∀ H', Same H H' → Q (.int (dl (pars ss) rs cs n)) H') ∨
   ((rs.length ≠ ss.length ∨ cs.length ≠ ss.length) ∧ E (.ref WC) none H))
def spRange (C BA : Addr) : Sp := fun vs H Q E => ∃ (p : Addr) (ss : List Seg) (n : Nat) (u : Int), vs = [.ref p, nI n, .int u] ∧ TreeAt C H p ss ∧ Good ss ∧ n ≤ ss.length ∧
  ((1 ≤ u ∧ u < 1000 ∧ ∀ t H', Same H H' → H' t = some (.tup [.int (dl (pars ss) (ss.map (·.r.1)) (ss.map (·.c.1)) n / u), .int (-(-dl (pars ss) (ss.map (·.r.2)) (ss.map (·.c.2)) n / u))]) → Q (.ref t) H') ∨
   (u < 1 ∧ E (.ref BA) none H))
/-- [pair[j] for pair in pairs], the pairs at b: te hands out b and changes nothing -/
theorem lc_pairs {K : PySem.W.Frag} {te : TE} {i : Nat} {σ : L2.St} {H : Hp} {Q : VK} {b : Addr} {qs : List (Int × Int)} (j : Int) (f : Int × Int → Int) (hf : ∀ q : Int × Int, atI [V.int q.1, V.int q.2] j = some (.int (f q))) (hi : i < σ.length)
    (hte : ∀ R : VK, R (.ref b) H → te σ H R) (hB : PairsAt H b qs) (h8 : qs.length ≤ 8) (k : ∀ D H', Same H H' → H D = none → IntsAt H' D (qs.map f) → Q (.ref D) H') :
    tLc (iList K te) (gName i) tYes (tOp (rIxT K) (tVar i) (tC (.int j))) [i] σ H Q := by
  obtain ⟨vs, ev, A2⟩ := hB
  refine hte _ ⟨b, rfl, ⟨_, SqL.of ev⟩, fun D hD => ?_⟩
  refine lc_list (K := K) (a := b) (xs := vs) (fun m H1 => Same H H1 ∧ IntsAt H1 D ((qs.take m).map f)) ⟨same_upd hD, upd_same⟩ (fun m H1 _ ⟨s, _⟩ => SqL.of (s _ _ ev)) ?_ ?_
  · rintro m y H1 hm ⟨s, eD⟩
    obtain ⟨q, eq, a, rfl, ea⟩ := A2.getV hm
    have hw : ∀ v : Option V, wipe ((wipe σ [i]).set i v) [i] = wipe σ [i] := fun v => by
      show (((σ.set i none).set i v).set i none) = σ.set i none
      rw [List.set_set, List.set_set]
    have hg : ((wipe σ [i]).set i (some (V.ref a)))[i]? = some (some (V.ref a)) := List.getElem?_set_self (by rw [wipe_length]; exact hi)
    refine ⟨hw _, ?_⟩
    refine ⟨_, hg, a, _, j, _, rfl, rfl, SqT.of (s _ _ ea), hf q, _, eD, small1000 ?_, fun z o e => ?_, ?_⟩
    · rw [List.length_map, List.length_map, List.length_take]
      omega
    · rw [upd_ne (ne_of_none e hD)]
      exact s z o e
    · show upd H1 D _ D = _
      rw [upd_same, List.take_add_one, eq, List.map_append, List.map_append]
      rfl
  · rintro H1 ⟨s, eD⟩
    refine k D H1 s hD ?_
    rw [A2.1, List.take_length] at eD
    exact eD
theorem at_fst (q : Int × Int) : atI [V.int q.1, V.int q.2] 0 = some (.int q.1) := at_of (j := 0) rfl rfl
theorem at_snd (q : Int × Int) : atI [V.int q.1, V.int q.2] 1 = some (.int q.2) := at_of (j := 1) rfl rfl
section
variable {P : Program} {w : World} {K : PySem.W.Frag} {mg : Str → Option Value} {base : Heap} {C WC BA : Addr}
theorem scDelayM : FnScope ["self", "node", "resistances", "capacitances", "total", "other", "load", "k"] ["self", "node", "resistances", "capacitances"] (defScope sDelayM) := ⟨rfl, rfl, rfl, by decide +kernel, rfl, by decide +kernel, by decide +kernel⟩
theorem ok_delayM {f fC fP fB : Addr} {fd fdC fdP fdB : FuncData} (F : Fun K "delay" "WireTree.delay" sDelayM f fd) (B : Bl mg) (T : Tr K mg C) (W : Er K mg "WrongCount" WC)
    (FC : Fun K "check_node" "WireTree.check_node" sCheck fC fdC) (bC : Binds K fdC ["self", "node"] []) (mC : Meth K C "check_node" fC)
    (FP : Fun K "path" "WireTree.path" sPathM fP fdP) (bP : Binds K fdP ["self", "node"] []) (mP : Meth K C "path" fP)
    (FB : Fun K "below" "WireTree.below" sBelow fB fdB) (bB : Binds K fdB ["self", "node"] []) (mB : Meth K C "below" fB) : FnOk P w K mg base (L2.CX P w) 4 f fd ["self", "node", "resistances", "capacitances"] (spDelayM C WC) := by
  have GC : FnOk P w K mg base CX0 1 fC fdC ["self", "node"] (spCheck C) := ok_check FC B T
  have GP : FnOk P w K mg base CX0 2 fP fdP ["self", "node"] (spPathM C) := ok_pathM FP B T FC bC mC
  have GB : FnOk P w K mg base CX0 3 fB fdB ["self", "node"] (spBelow C) := ok_below FB B T FC bC mC FP bP mP
  refine F.okX scDelayM (fun vs H Q E h => ?_) (fun cdv A outer s H vs Q E hr h => ?_)
  · obtain ⟨p, r, c, ss, n, rs, cs, rfl, _⟩ := h
    rfl
  · obtain ⟨p, r, c, ss, n, rs, cs, rfl, hT, G, hn, er, ec, hk⟩ := h
    have h8 := G.len
    obtain ⟨dx, a, b, d, h1, ha, hb, hd⟩ := id hT
    have hr1 := hr.mono (show 1 ≤ 3 by decide)
    have hr2 := hr.mono (show 2 ≤ 3 by decide)
    refine ⟨_, pss_cons (ps_expr (pe_meth (pv 0) T.cl mC GC hr1 bC .nil pass0 (pa_cons (pv 1) pa_nil)))
      (pss_cons (ps_if (PW.pt (pw_or (pt_cmpR op_ne (pe_callB call_len_seq (by rfl) B.len PySem.boot_len (pa_cons (pv 2) pa_nil)) (pe_callB call_len_seq (by rfl) B.len PySem.boot_len (pa_cons (pe_fld (pv 0) rfl) pa_nil)) (nomark _))
          (pw_or1 (pt_cmpR op_ne (pe_callB call_len_seq (by rfl) B.len PySem.boot_len (pa_cons (pv 3) pa_nil)) (pe_callB call_len_seq (by rfl) B.len PySem.boot_len (pa_cons (pe_fld (pv 0) rfl) pa_nil)) (nomark _)))))
        (pss_one (ps_raise rfl (takes_of rfl rfl rfl rfl) (pmk_own PySem.F.excBase_ValueError W.x W.g W.k (raises_own W.b W.t) (by exact rfl)))) pss_nil)
      (pss_cons (ps_set (i := 4) scDelayM.nd rfl (Or.inl rfl) pe_int)
      (pss_cons (ps_for (passes_of rfl) rfl (pi_list (pe_slice sl_list (pe_meth (pv 0) T.cl mP GP hr2 bP .nil pass0 (pa_cons (pv 1) pa_nil)) (po_some pe_int) po_none)) (pg_name (i := 5) scDelayM.nd rfl (Or.inl rfl))
        (pss_cons (ps_set (i := 6) scDelayM.nd rfl (Or.inl rfl) (pe_callB (cr_sum rfl) (by rfl) B.sum (by decide +kernel) (pa_cons
          (pe_lc (own := [("k", 7)]) (g := gName 7) (tt := tYes) rfl scDelayM.nd (pi_list (pe_meth (pv 0) T.cl mB GB hr bB .nil pass0 (pa_cons (pv 5) pa_nil))) (blkOk_by (N := ["self", "node", "resistances", "capacitances", "total", "other", "load", "k"]) (sc := defScope sDelayM) (by decide +kernel))
            (fun _ _ _ _ _ => pg_name (i := 7) scDelayM.nd rfl (Or.inl rfl)) (fun _ _ _ _ _ => pts_nil)
            (fun _ _ _ _ _ => pe_ix (ixL K rfl) (pv 3) (pe_op op_sub (pv 7) pe_int) (fun _ _ => rfl))) pa_nil)))
        (pss_one (ps_aug (i := 4) scDelayM.nd rfl (Or.inl rfl) (pe_op op_mul (pe_ix ix_list (pv 2) (pe_op op_sub (pv 5) pe_int) (fun _ _ => rfl)) (pv 6)) ip_add))))
      (pss_one (ps_ret (pv 4)))))), ?_⟩
    -- check_node
    refine ⟨_, rfl, p, dx, _, rfl, h1, flds_no _ _ _ (by decide +kernel) (by decide +kernel) (by decide +kernel), _, rfl, p, ss, n, rfl, hT, hn, ?_⟩
    obtain ⟨vb, evb, Ab⟩ := hb
    have lvb : vb.length = ss.length := by rw [Ab.1, List.length_map]
    have lrs : (rs.map V.int).length = rs.length := List.length_map ..
    have lcs : (cs.map V.int).length = cs.length := List.length_map ..
    -- the lengths
    refine ⟨_, rfl, r, _, rfl, Or.inl (SqL.of er), _, rfl, p, C, dx, _, _, rfl, h1, T.cl, T.nR, flds_res _ _ _, b, _, rfl, Or.inl (SqL.of evb), rfl, _, rfl, ?_⟩
    rcases hk with ⟨l1, l2, hbd, k⟩ | ⟨hl, kE⟩
    · have e1 : decide (V.int ((rs.map V.int).length : Int) = V.int (vb.length : Int)) = true := decide_eq_true (by rw [lrs, l1, lvb])
      rw [e1]
      refine ⟨_, rfl, c, _, rfl, Or.inl (SqL.of ec), _, rfl, p, C, dx, _, _, rfl, h1, T.cl, T.nR, flds_res _ _ _, b, _, rfl, Or.inl (SqL.of evb), rfl, _, rfl, ?_⟩
      have e2 : decide (V.int ((cs.map V.int).length : Int) = V.int (vb.length : Int)) = true := decide_eq_true (by rw [lcs, l2, lvb])
      rw [e2]
      -- the path
      refine ⟨_, rfl, p, dx, _, rfl, h1, flds_no _ _ _ (by decide +kernel) (by decide +kernel) (by decide +kernel), _, rfl, p, ss, n, rfl, hT, G, hn, fun f1 H1 s1 e1 => ?_⟩
      refine ⟨_, rfl, f1, _, rfl, SqL.of e1, fun f2 h2 => ?_⟩
      have s2 := same_upd (o := .lst (cutV ((pth (pars ss) n).map nI) (some 1) none)) h2
      have ecut : cutV ((pth (pars ss) n).map nI) (some 1) none = (pthT (pars ss) n).map nI := by rw [cut1]; rfl
      rw [ecut] at s2 ⊢
      refine ⟨f2, rfl, ⟨_, SqL.of upd_same⟩, for_list (K := K) (a := f2) (xs := (pthT (pars ss) n).map nI) (fun i σ H2 => ∃ (y5 y6 : Option V), σ = [some (.ref p), some (nI n), some (.ref r), some (.ref c), some (.int (dlI (pars ss) rs cs n i)), y5, y6, none] ∧ Same H H2 ∧ H2 f2 = some (.lst ((pthT (pars ss) n).map nI)))
        ⟨none, none, by rw [dlI_zero]; rfl, s1.trans s2, upd_same⟩ (fun i σ H2 _ ⟨_, _, _, _, e⟩ => SqL.of e) ?_ ?_⟩
      · rintro i y σ H2 hi ⟨y5, y6, rfl, sH, e2⟩
        obtain ⟨st, est, rfl⟩ := nI_at hi
        have hst := pthT_mem (pars ss) n st (List.mem_of_getElem? est)
        -- load = sum([capacitances[k - 1] for k in self.below(other)])
        refine ⟨_, rfl, p, dx, _, rfl, sH _ _ h1, flds_no _ _ _ (by decide +kernel) (by decide +kernel) (by decide +kernel), _, rfl, p, ss, st, rfl, hT.kp (Kp.of sH), G, by omega, fun f3 H3 s3 e3 => ?_⟩
        have sH3 := sH.trans s3
        refine ⟨f3, rfl, ⟨_, SqL.of e3⟩, fun D hD => ?_⟩
        refine lc_list (K := K) (a := f3) (xs := (bel (pars ss) st (ss.length + 1)).map nI) (fun m H4 => Same H3 H4 ∧ IntsAt H4 D (((bel (pars ss) st (ss.length + 1)).take m).map fun o => cs.getD (o - 1) 0)) ⟨same_upd hD, upd_same⟩ (fun m H4 _ ⟨s, _⟩ => SqL.of (s _ _ e3)) ?_ ?_
        · rintro m y H4 hm ⟨s4, eD⟩
          obtain ⟨o, eo, rfl⟩ := nI_at hm
          have o1 := bel_pos (ps := pars ss) (s := st) hst.1 (List.mem_of_getElem? eo)
          have o2 := bel_lt (List.mem_of_getElem? eo)
          obtain ⟨x, ex⟩ := some_at (l := cs) (i := o - 1) (by omega)
          refine ⟨rfl, ?_⟩
          refine ⟨_, rfl, _, rfl, _, _, rfl, rfl, c, _, _, _, rfl, rfl, SqL.of ((sH3.trans s4) _ _ ec), at_of (j := o - 1) (by omega) (at_int ex), _, eD, small1000 ?_, fun z u e => ?_, ?_⟩
          · rw [List.length_map, List.length_map, List.length_take]
            have z := List.length_filter_le (fun o => decide (st ∈ pth (pars ss) o)) (List.range (ss.length + 1))
            rw [List.length_range] at z
            have z2 : (bel (pars ss) st (ss.length + 1)).length ≤ ss.length + 1 := z
            omega
          · rw [upd_ne (ne_of_none e hD)]
            exact s4 z u e
          · show upd H4 D _ D = _
            rw [upd_same, List.take_add_one, eo, List.map_append, List.map_append]
            show some (HO.lst (_ ++ [V.int x])) = some (HO.lst (_ ++ [V.int (cs.getD (o - 1) 0)]))
            rw [getD_at ex]
        · rintro H4 ⟨s4, eD⟩
          rw [List.length_map, List.take_length] at eD
          refine ⟨D, _, rfl, SqL.of eD, ?_⟩
          rw [bel_sum (pars ss) cs hst.1 ss.length]
          obtain ⟨x, ex⟩ := some_at (l := rs) (i := st - 1) (by omega)
          -- total += resistances[other - 1] * load
          refine ⟨_, rfl, _, rfl, _, rfl, _, _, rfl, rfl, r, _, _, _, rfl, rfl, SqL.of ((sH3.trans s4) _ _ er), at_of (j := st - 1) (by omega) (at_int ex), _, rfl, _, _, rfl, rfl, Or.inl (hbd x (List.mem_of_getElem? ex)), _, _, rfl, rfl, ?_⟩
          refine ⟨some (nI st), some (.int (ldU (pars ss) cs st ss.length)), ?_, sH3.trans s4, s4 _ _ (s3 _ _ e2)⟩
          rw [dlI_succ est, getD_at ex, List.length_map]
          rfl
      · rintro σ H2 ⟨y5, y6, rfl, sH, e2⟩
        refine ⟨_, rfl, ?_⟩
        rw [List.length_map, dlI_end]
        exact k H2 sH
    · -- a list of another length
      by_cases hrl : rs.length = ss.length
      · have e1 : decide (V.int ((rs.map V.int).length : Int) = V.int (vb.length : Int)) = true := decide_eq_true (by rw [lrs, hrl, lvb])
        rw [e1]
        refine ⟨_, rfl, c, _, rfl, Or.inl (SqL.of ec), _, rfl, p, C, dx, _, _, rfl, h1, T.cl, T.nR, flds_res _ _ _, b, _, rfl, Or.inl (SqL.of evb), rfl, _, rfl, ?_⟩
        have e2 : decide (V.int ((cs.map V.int).length : Int) = V.int (vb.length : Int)) = false := decide_eq_false (by
          rw [lcs, lvb]
          intro q
          injection q with q
          omega)
        rw [e2]
        exact kE
      · have e1 : decide (V.int ((rs.map V.int).length : Int) = V.int (vb.length : Int)) = false := decide_eq_false (by
          rw [lrs, lvb]
          intro q
          injection q with q
          omega)
        rw [e1]
        exact kE
end
end K29
/-! The tree's range of delays. -/
namespace K29
open PySem PySem.Spec PyProof.Rows L2
section
variable {P : Program} {w : World} {K : PySem.W.Frag} {mg : Str → Option Value} {base : Heap} {C WC BA : Addr}
/-- delay_range, its keyword-only default among it -/
abbrev FunR (K : PySem.W.Frag) (f : Addr) (fd : FuncData) : Prop := FunD K "delay_range" "WireTree.delay_range" (defArgs sRange) (defBody sRange) (defScope sRange) [] [("unit", .int 1)] f fd
theorem scRange : FnScope ["self", "node", "unit", "low", "high", "pair"] ["self", "node", "unit"] (defScope sRange) := ⟨rfl, rfl, rfl, by decide +kernel, rfl, by decide +kernel, by decide +kernel⟩
theorem ok_range {f fC fD : Addr} {fd fdC fdD : FuncData} (F : FunR K f fd) (B : Bl mg) (T : Tr K mg C) (A0 : Er K mg "BadArgument" BA)
    (FC : Fun K "check_node" "WireTree.check_node" sCheck fC fdC) (bC : Binds K fdC ["self", "node"] []) (mC : Meth K C "check_node" fC)
    (bD : Binds K fdD ["self", "node", "resistances", "capacitances"] []) (mD : Meth K C "delay" fD) (GD : FnOk P w K mg base (L2.CX P w) 4 fD fdD ["self", "node", "resistances", "capacitances"] (spDelayM C WC)) :
    FnOk P w K mg base (L2.CX P w) 5 f fd ["self", "node", "unit"] (spRange C BA) := by
  have GC : FnOk P w K mg base CX0 1 fC fdC ["self", "node"] (spCheck C) := ok_check FC B T
  refine FunD.ok F scRange (fun vs H Q E h => ?_) (fun cdv A outer s H vs Q E hr h => ?_)
  · obtain ⟨p, ss, n, u, rfl, _⟩ := h
    rfl
  · obtain ⟨p, ss, n, u, rfl, hT, G, hn, hk⟩ := h
    have h8 := G.len
    have hr1 := hr.mono (show 1 ≤ 4 by decide)
    refine ⟨_, pss_cons (ps_expr (pe_meth (pv 0) T.cl mC GC hr1 bC .nil pass0 (pa_cons (pv 1) pa_nil)))
      (pss_cons (ps_if (pt_cmpR op_lt (pv 2) pe_int (nomark _)) (pss_one (ps_raise rfl (takes_of rfl rfl rfl rfl) (pmk_own PySem.F.excBase_ValueError A0.x A0.g A0.k (raises_own A0.b A0.t) (by exact rfl)))) pss_nil)
      (pss_cons (ps_set (i := 3) scRange.nd rfl (Or.inl rfl) (pe_methX (E := EN) (pv 0) T.cl mD GD hr bD .nil passN (pa_cons (pv 1)
        (pa_cons (pe_lc (own := [("pair", 5)]) (g := gName 5) (tt := tYes) rfl scRange.nd (pi_list (pe_fld (pv 0) rfl)) (blkOk_by (N := ["self", "node", "unit", "low", "high", "pair"]) (sc := defScope sRange) (by decide +kernel))
          (fun _ _ _ _ _ => pg_name (i := 5) scRange.nd rfl (Or.inl rfl)) (fun _ _ _ _ _ => pts_nil) (fun _ _ _ _ _ => pe_ix (ixT K rfl) (pv 5) pe_int (fun _ _ => rfl)))
        (pa_cons (pe_lc (own := [("pair", 5)]) (g := gName 5) (tt := tYes) rfl scRange.nd (pi_list (pe_fld (pv 0) rfl)) (blkOk_by (N := ["self", "node", "unit", "low", "high", "pair"]) (sc := defScope sRange) (by decide +kernel))
          (fun _ _ _ _ _ => pg_name (i := 5) scRange.nd rfl (Or.inl rfl)) (fun _ _ _ _ _ => pts_nil) (fun _ _ _ _ _ => pe_ix (ixT K rfl) (pv 5) pe_int (fun _ _ => rfl))) pa_nil)))))
      (pss_cons (ps_set (i := 4) scRange.nd rfl (Or.inl rfl) (pe_methX (E := EN) (pv 0) T.cl mD GD hr bD .nil passN (pa_cons (pv 1)
        (pa_cons (pe_lc (own := [("pair", 5)]) (g := gName 5) (tt := tYes) rfl scRange.nd (pi_list (pe_fld (pv 0) rfl)) (blkOk_by (N := ["self", "node", "unit", "low", "high", "pair"]) (sc := defScope sRange) (by decide +kernel))
          (fun _ _ _ _ _ => pg_name (i := 5) scRange.nd rfl (Or.inl rfl)) (fun _ _ _ _ _ => pts_nil) (fun _ _ _ _ _ => pe_ix (ixT K rfl) (pv 5) pe_int (fun _ _ => rfl)))
        (pa_cons (pe_lc (own := [("pair", 5)]) (g := gName 5) (tt := tYes) rfl scRange.nd (pi_list (pe_fld (pv 0) rfl)) (blkOk_by (N := ["self", "node", "unit", "low", "high", "pair"]) (sc := defScope sRange) (by decide +kernel))
          (fun _ _ _ _ _ => pg_name (i := 5) scRange.nd rfl (Or.inl rfl)) (fun _ _ _ _ _ => pts_nil) (fun _ _ _ _ _ => pe_ix (ixT K rfl) (pv 5) pe_int (fun _ _ => rfl))) pa_nil)))))
      (pss_one (ps_ret (pe_tup (pa_cons (pe_op op_fdiv (pv 3) (pv 2)) (pa_cons (pe_un un_neg (pe_op op_fdiv (pe_un un_neg (pv 4)) (pv 2))) pa_nil)))))))), ?_⟩
    -- the field that holds the ranges, at every later heap
    obtain ⟨dx, a, b, d, h1, ha, hb, hd⟩ := id hT
    have bnd : ∀ (f : Seg → Int), (∀ s ∈ ss, 0 ≤ f s ∧ f s < 2 ^ 60) → ∀ x ∈ ss.map f, -(2 ^ 64) < x ∧ x < 2 ^ 64 := fun f h x hx => by
      obtain ⟨s, hs, rfl⟩ := List.mem_map.mp hx
      have z := h s hs
      omega
    have lmap : ∀ (f : Seg → Int), (ss.map f).length = ss.length := fun f => List.length_map ..
    have l2 : ∀ (f : Seg → Int × Int), (ss.map f).length ≤ 8 := fun f => by rw [List.length_map]; exact h8
    -- check_node; unit < 1
    refine ⟨_, rfl, p, dx, _, rfl, h1, flds_no _ _ _ (by decide +kernel) (by decide +kernel) (by decide +kernel), _, rfl, p, ss, n, rfl, hT, hn, ?_⟩
    refine ⟨_, rfl, _, _, rfl, rfl, _, rfl, ?_⟩
    rcases hk with ⟨u1, u2, k⟩ | ⟨u0, kE⟩
    · refine ite2 (fun q => ?_) (fun _ => ?_)
      · have q' := of_decide_eq_true q
        omega
      -- low
      refine ⟨_, rfl, p, dx, _, rfl, h1, flds_no _ _ _ (by decide +kernel) (by decide +kernel) (by decide +kernel), _, rfl, ?_⟩
      refine lc_pairs 0 (fun q => q.1) at_fst (by show 5 < 6; decide) (fun R r => ⟨_, rfl, p, C, dx, _, _, rfl, h1, T.cl, T.nR, flds_res _ _ _, r⟩) hb (l2 _) fun D1 H1 s1 _ e1 => ?_
      refine lc_pairs 0 (fun q => q.1) at_fst (by show 5 < 6; decide) (fun R r => ⟨_, rfl, p, C, dx, _, _, rfl, s1 _ _ h1, T.cl, T.nC, flds_cap _ _ _, r⟩) (hd.kp (Kp.of s1)) (l2 _) fun D2 H2 s2 _ e2 => ?_
      rw [List.map_map] at e1 e2
      have s12 := s1.trans s2
      refine ⟨p, D1, D2, ss, n, _, _, rfl, hT.kp (Kp.of s12), G, hn, e1.kp (Kp.of s2), e2, Or.inl ⟨lmap _, lmap _, bnd (fun s => s.r.1) (fun s hs => ?_), fun H3 s3 => ?_⟩⟩
      · have z := G.rng s hs
        omega
      have s13 := s12.trans s3
      -- high
      refine ⟨_, rfl, p, dx, _, rfl, s13 _ _ h1, flds_no _ _ _ (by decide +kernel) (by decide +kernel) (by decide +kernel), _, rfl, ?_⟩
      refine lc_pairs 1 (fun q => q.2) at_snd (by show 5 < 6; decide) (fun R r => ⟨_, rfl, p, C, dx, _, _, rfl, s13 _ _ h1, T.cl, T.nR, flds_res _ _ _, r⟩) (hb.kp (Kp.of s13)) (l2 _) fun D3 H4 s4 _ e3 => ?_
      have s14 := s13.trans s4
      refine lc_pairs 1 (fun q => q.2) at_snd (by show 5 < 6; decide) (fun R r => ⟨_, rfl, p, C, dx, _, _, rfl, s14 _ _ h1, T.cl, T.nC, flds_cap _ _ _, r⟩) (hd.kp (Kp.of s14)) (l2 _) fun D4 H5 s5 _ e4 => ?_
      rw [List.map_map] at e3 e4
      have s15 := s14.trans s5
      refine ⟨p, D3, D4, ss, n, _, _, rfl, hT.kp (Kp.of s15), G, hn, e3.kp (Kp.of s5), e4, Or.inl ⟨lmap _, lmap _, bnd (fun s => s.r.2) (fun s hs => ?_), fun H6 s6 => ?_⟩⟩
      · have z := G.rng s hs
        omega
      have cd : CDiv (dl (pars ss) (ss.map fun s => s.r.1) (ss.map fun s => s.c.1) n) u := ⟨by omega, by omega⟩
      refine ⟨_, rfl, _, rfl, _, _, rfl, rfl, ⟨by omega, by omega⟩, _, rfl, _, rfl, _, rfl, _, _, rfl, rfl, ⟨by omega, by omega⟩, _, rfl, (by show 2 ≤ sizeLine; decide), fun t ht => ?_⟩
      exact k t _ ((s15.trans s6).trans (same_upd ht)) upd_same
    · have e0 : decide (u < 1) = true := decide_eq_true u0
      rw [e0]
      exact kE
end
end K29
/-! A call that is refused. -/
namespace K29
open PySem PySem.Spec PyProof.Rows L2
/-- an error's class at D, asked as the law asks it: it is a SignoffError (at S); is it a WrongCount (at WC), a BadArgument (at BA) -/
structure Ask (K : PySem.W.Frag) (S WC BA D : Addr) (bw bb : Bool) : Prop where
  te : PySem.W.exmOne K (.ref D) (.ref S) = some true
  ec : ExcC K D
  kw : PySem.W.kitOne K (.ref D) (.ref WC) = some bw
  kb : PySem.W.kitOne K (.ref D) (.ref BA) = some bb
def spRefused (C : Addr) : Sp := fun vs H Q _ => ∃ (p : Addr) (ss : List Seg) (n : Nat) (x y v : V), vs = [.ref p, nI n, x, y, v] ∧ TreeAt C H p ss ∧ Good ss ∧ n ≤ ss.length ∧
  ((v = .non ∧ ∃ (r c : Addr) (rs cs : List Int), x = .ref r ∧ y = .ref c ∧ IntsAt H r rs ∧ IntsAt H c cs ∧ (rs.length ≠ ss.length ∨ cs.length ≠ ss.length)) ∨ ∃ u : Int, v = .int u ∧ u < 1) ∧ Q (.bl true) H
theorem call_isK {X : Cx} (K : PySem.W.Frag) (hK : X.K = K) {a : Addr} {oe : Obj} {cls : Value} {d : Option Addr} {pn : List (Addr × Obj)} (hz : Zc cls d oe) (hf : ∃ vs, oe.data = .fields vs) : CallR (X.suite a ((a, oe) :: pn)) (.builtin "isinstance") (rIsA K a cls d) := by
  subst hK
  exact call_isA hz hf
def rIsNo : R2 := fun x y H Q => y = .non ∧ Q (.bl (decide (x = .non))) H
def rIsNt : R2 := fun x y H Q => y = .non ∧ Q (.bl (!decide (x = .non))) H
/-- the try's body -/
def t_try (C : Addr) (spD spR : Sp) (gV : List V → List V → List V) (W : WX) : TS :=
  tIfS (tTest (tOp rIsNo (tVar 4) (tC .non))) (tDrop (tMethX C "delay" spD [] (WE W) (tVar 0) (tCons (tVar 1) (tCons (tVar 2) (tCons (tVar 3) tNil)))))
    (tDrop (tMethKX C "delay_range" 2 (["unit"] : List Str).length spR gV (WE W) (tVar 0) (tCons (tVar 1) tNil) (tCons (tVar 4) tNil)))
/-- the except's suite -/
def t_exc (K : PySem.W.Frag) (WC BA : Addr) (a : Addr) (cls : Value) (d : Option Addr) : TS :=
  tRet (tAndV (tOp rEq (tCB (rIsA K a cls d) (tCons (tVar 5) (tCons (tC (.ref WC)) tNil))) (tOp rIsNo (tVar 4) (tC .non)))
    (tOp rEq (tCB (rIsA K a cls d) (tCons (tVar 5) (tCons (tC (.ref BA)) tNil))) (tOp rIsNt (tVar 4) (tC .non))))
section
variable {P : Program} {w : World} {K : PySem.W.Frag} {mg : Str → Option Value} {base : Heap} {C S WC BA : Addr}
theorem scRefused : FnScope ["_law_tree", "_law_node", "_law_first", "_law_second", "_law_unit", "e"] ["_law_tree", "_law_node", "_law_first", "_law_second", "_law_unit"] (defScope sRefused) := ⟨rfl, rfl, rfl, by decide +kernel, rfl, by decide +kernel, by decide +kernel⟩
theorem ok_refused {f fD fR : Addr} {fd fdD fdR : FuncData} {g : List Value → List Value → List Value} {gV : List V → List V → List V} (F : Fun K "_law_refused" "_law_refused" sRefused f fd) (B : Bl mg) (T : Tr K mg C) (gS : mg "SignoffError" = some (.ref S))
    (W0 : Er K mg "WrongCount" WC) (A0 : Er K mg "BadArgument" BA) (aW : Ask K S WC BA WC true false) (aB : Ask K S WC BA BA false true)
    (bD : Binds K fdD ["self", "node", "resistances", "capacitances"] []) (mD : Meth K C "delay" fD) (GD : FnOk P w K mg base (L2.CX P w) 4 fD fdD ["self", "node", "resistances", "capacitances"] (spDelayM C WC))
    (kR : KBn K fdR ["self", "node", "unit"] 2 ["unit"] g gV) (hgV : ∀ a b c : V, gV [a, b] [c] = [a, b, c]) (mR : Meth K C "delay_range" fR) (GR : FnOk P w K mg base (L2.CX P w) 5 fR fdR ["self", "node", "unit"] (spRange C BA)) :
    FnOk P w K mg base CX0 6 f fd ["_law_tree", "_law_node", "_law_first", "_law_second", "_law_unit"] (spRefused C) := by
  refine F.ok scRefused (fun vs H Q E h => ?_) (fun cdv A outer s H vs Q E hr h => ?_)
  · obtain ⟨p, ss, n, x, y, v, rfl, _⟩ := h
    rfl
  · obtain ⟨p, ss, n, x, y, v, rfl, hT, G, hn, hk, k⟩ := h
    have hr4 := hr.mono (show 4 ≤ 5 by decide)
    refine ⟨_, pss_cons (ps_try_as (i := 5) (tb := t_try C (spDelayM C WC) (spRange C BA) gV) (ts := t_exc K WC BA) (Wout := fun _ _ _ _ => False) rfl rfl scRefused.nd rfl rfl ⟨rfl, by decide, Or.inl gS⟩ takes0
        (fun W pn xe tk _ => pss_one (ps_if (pt_cmpR op_isN (pv 4) pe_non (nomark _))
          (pss_one (ps_expr (by exact (pe_methX (E := WE W) (pv 0) T.cl mD GD hr4 bD .nil (fun σ => passAt tk σ) (by exact (pa_cons (pv 1) (pa_cons (pv 2) (pa_cons (pv 3) pa_nil))))))))
          (pss_one (ps_expr (by exact (pe_methKX (E := WE W) (pv 0) T.cl mR GR hr kR (fun σ => passAt tk σ) (by exact (pa_cons (pv 1) pa_nil)) (by exact (pk_cons (pv 4) pk_nil))))))))
        (fun a oe cls d pn hz hf => pss_one (ps_ret (pe_and
          (pe_cmpR op_eq (pe_callB (call_isK K rfl hz hf) (by rfl) B.isi (by decide +kernel) (pa_cons (pv 5) (pa_cons (pe_glob rfl W0.g rfl) pa_nil))) (pe_cmpR op_isN (pv 4) pe_non (nomark _)) (nomark _))
          (pe_one (pe_cmpR op_eq (pe_callB (call_isK K rfl hz hf) (by rfl) B.isi (by decide +kernel) (pa_cons (pv 5) (pa_cons (pe_glob rfl A0.g rfl) pa_nil))) (pe_cmpR op_notN (pv 4) pe_non (nomark _)) (nomark _)))))))
      (pss_one (ps_ret pe_bl)), ?_⟩
    obtain ⟨dx, a0, b0, c0, h1, ha, hb, hc⟩ := id hT
    have nD : (flds a0 b0 c0).lookup ("delay" : Str) = none := flds_no _ _ _ (by decide +kernel) (by decide +kernel) (by decide +kernel)
    have nR : (flds a0 b0 c0).lookup ("delay_range" : Str) = none := flds_no _ _ _ (by decide +kernel) (by decide +kernel) (by decide +kernel)
    rcases hk with ⟨rfl, r, c, rs, cs, rfl, rfl, er, ec, hl⟩ | ⟨u, rfl, hu⟩
    · refine ⟨_, rfl, rfl, _, rfl, ?_⟩
      refine ⟨_, rfl, p, dx, _, rfl, h1, nD, _, rfl, _, rfl, _, rfl, p, r, c, ss, n, rs, cs, rfl, hT, G, hn, er, ec, Or.inr ⟨hl, ?_⟩⟩
      refine ⟨true, aW.te, fun _ a1 _ => ?_, fun q => Bool.noConfusion q⟩
      refine ⟨_, rfl, WC, rfl, rfl, aW.ec, .ref WC, .ref WC, true, rfl, fun u r => r, aW.kw, _, rfl, rfl, rfl, _, rfl, ?_⟩
      refine ⟨_, rfl, WC, rfl, rfl, aW.ec, .ref BA, .ref BA, false, rfl, fun u r => r, aW.kb, _, rfl, rfl, rfl, ?_⟩
      exact k
    · refine ⟨_, rfl, rfl, _, rfl, ?_⟩
      refine ⟨_, rfl, p, dx, _, rfl, h1, nR, _, rfl, _, rfl, rfl, rfl, ?_⟩
      rw [hgV]
      refine ⟨p, ss, n, u, rfl, hT, G, hn, Or.inr ⟨hu, ?_⟩⟩
      refine ⟨true, aB.te, fun _ a1 _ => ?_, fun q => Bool.noConfusion q⟩
      refine ⟨_, rfl, BA, rfl, rfl, aB.ec, .ref WC, .ref WC, false, rfl, fun u r => r, aB.kw, _, rfl, rfl, rfl, _, rfl, ?_⟩
      refine ⟨_, rfl, BA, rfl, rfl, aB.ec, .ref BA, .ref BA, true, rfl, fun u r => r, aB.kb, _, rfl, rfl, rfl, ?_⟩
      exact k
end
end K29
/-! What the law's own body wants beside the promises. -/
namespace K29
open PySem PySem.Spec PyProof.Rows L2
theorem at3i {z r : Int} (h0 : 0 ≤ r) (h3 : r < 3) (hz : 1 ≤ z ∧ z ≤ 300) : ∃ u, atI [V.int 1, V.int 2, V.int z] r = some (.int u) ∧ 1 ≤ u ∧ u ≤ 300 := by
  by_cases e0 : r = 0
  · exact ⟨1, at_of (j := 0) e0 rfl, by omega, by omega⟩
  by_cases e1 : r = 1
  · exact ⟨2, at_of (j := 1) e1 rfl, by omega, by omega⟩
  · exact ⟨z, at_of (j := 2) (by omega) rfl, hz.1, hz.2⟩
/-- [row[j] for row in segments] -/
theorem lc_rows {K : PySem.W.Frag} {te : TE} {i : Nat} {σ : L2.St} {H : Hp} {Q : VK} {a : Addr} {ss : List Seg} (j : Int) (pick : V → V → V) (f : Seg → Int × Int) (hf : ∀ (n : Int) (x y : V), atI [V.int n, x, y] j = some (pick x y))
    (hp : ∀ (H : Hp) (s : Seg) (x y : V), PairAt H x s.r → PairAt H y s.c → PairAt H (pick x y) (f s)) (hi : i < σ.length) (hte : ∀ R : VK, R (.ref a) H → te σ H R) (hS : SegsAt H a ss) (h8 : ss.length ≤ 8)
    (k : ∀ D H', Same H H' → PairsAt H' D (ss.map f) → Q (.ref D) H') : tLc (iList K te) (gName i) tYes (tOp (rIxT K) (tVar i) (tC (.int j))) [i] σ H Q := by
  obtain ⟨vs, ev, A2⟩ := hS
  refine hte _ ⟨a, rfl, ⟨_, SqL.of ev⟩, fun D hD => ?_⟩
  refine lc_list (K := K) (a := a) (xs := vs) (fun m H1 => Same H H1 ∧ ∃ us, H1 D = some (.lst us) ∧ All2 (PairAt H1) us ((ss.take m).map f)) ⟨same_upd hD, [], upd_same, All2.nil⟩ (fun m H1 _ ⟨s, _⟩ => SqL.of (s _ _ ev)) ?_ ?_
  · rintro m y H1 hm ⟨s, us, eD, Au⟩
    obtain ⟨q, eq, t, x, y, rfl, et, hx, hy⟩ := A2.getV hm
    have hw : ∀ v : Option V, wipe ((wipe σ [i]).set i v) [i] = wipe σ [i] := fun v => by
      show (((σ.set i none).set i v).set i none) = σ.set i none
      rw [List.set_set, List.set_set]
    have hg : ((wipe σ [i]).set i (some (V.ref t)))[i]? = some (some (V.ref t)) := List.getElem?_set_self (by rw [wipe_length]; exact hi)
    have tp : Tp H (upd H1 D (.lst (us ++ [pick x y]))) := fun b xs e => Tp.set eD _ _ (s _ _ e)
    have tp1 : Tp H1 (upd H1 D (.lst (us ++ [pick x y]))) := Tp.set eD
    refine ⟨hw _, ?_⟩
    refine ⟨_, hg, t, _, j, _, rfl, rfl, SqT.of (s _ _ et), hf _ x y, us, eD, small1000 ?_, fun z o e => ?_, us ++ [pick x y], upd_same, ?_⟩
    · rw [Au.1, List.length_map, List.length_take]
      omega
    · rw [upd_ne (ne_of_none e hD)]
      exact s z o e
    · rw [List.take_add_one, eq, List.map_append]
      exact (Au.mono fun v x r => r.tp tp1).snoc (hp _ q x y (hx.tp tp) (hy.tp tp))
  · rintro H1 ⟨s, us, eD, Au⟩
    rw [A2.1, List.take_length] at Au
    exact k D H1 s ⟨us, eD, Au⟩
/-- numbers within their ranges -/
theorem InR.low {ss : List Seg} {ns : List Int} {f : Seg → Int × Int} (h : InR (ss.map f) ns) (h0 : ∀ s ∈ ss, 0 ≤ (f s).1) : Le0 (ss.map fun s => (f s).1) ns := fun i => by
  obtain ⟨hl, hr⟩ := h
  rw [List.length_map] at hl
  by_cases hi : i < ss.length
  · obtain ⟨s, es⟩ := some_at hi
    obtain ⟨x, ex⟩ := some_at (l := ns) (i := i) (by omega)
    have q := hr i (f s) x (by rw [List.getElem?_map, es]; rfl) ex
    rw [getD_at (x := (f s).1) (by rw [List.getElem?_map, es]; rfl), getD_at ex]
    exact ⟨h0 s (List.mem_of_getElem? es), q.1⟩
  · rw [List.getD_eq_getElem?_getD, List.getD_eq_getElem?_getD, List.getElem?_eq_none (by rw [List.length_map]; omega), List.getElem?_eq_none (by omega)]
    exact ⟨Int.le_refl _, Int.le_refl _⟩
theorem InR.high {ss : List Seg} {ns : List Int} {f : Seg → Int × Int} (h : InR (ss.map f) ns) (h0 : ∀ s ∈ ss, 0 ≤ (f s).1) : Le0 ns (ss.map fun s => (f s).2) := fun i => by
  obtain ⟨hl, hr⟩ := h
  rw [List.length_map] at hl
  by_cases hi : i < ss.length
  · obtain ⟨s, es⟩ := some_at hi
    obtain ⟨x, ex⟩ := some_at (l := ns) (i := i) (by omega)
    have q := hr i (f s) x (by rw [List.getElem?_map, es]; rfl) ex
    rw [getD_at ex, getD_at (x := (f s).2) (by rw [List.getElem?_map, es]; rfl)]
    exact ⟨Int.le_trans (h0 s (List.mem_of_getElem? es)) q.1, q.2⟩
  · rw [List.getD_eq_getElem?_getD, List.getD_eq_getElem?_getD, List.getElem?_eq_none (by omega), List.getElem?_eq_none (by rw [List.length_map]; omega)]
    exact ⟨Int.le_refl _, Int.le_refl _⟩
theorem InR.bound {ss : List Seg} {ns : List Int} {f : Seg → Int × Int} (h : InR (ss.map f) ns) (h0 : ∀ s ∈ ss, 0 ≤ (f s).1 ∧ (f s).2 < 2 ^ 60) : ∀ x ∈ ns, -(2 ^ 64) < x ∧ x < 2 ^ 64 := fun x hx => by
  obtain ⟨hl, hr⟩ := h
  rw [List.length_map] at hl
  obtain ⟨i, hi, e⟩ := List.getElem_of_mem hx
  have ex : ns[i]? = some x := by rw [List.getElem?_eq_getElem hi, e]
  obtain ⟨s, es⟩ := some_at (l := ss) (i := i) (by omega)
  have q := hr i (f s) x (by rw [List.getElem?_map, es]; rfl) ex
  have z := h0 s (List.mem_of_getElem? es)
  omega
/-- [1] * n -/
theorem ones (n : Nat) : (List.replicate n [V.int 1]).flatten = (List.replicate n (1 : Int)).map V.int := by
  induction n with
  | zero => rfl
  | succ n ih =>
    rw [List.replicate_succ, List.flatten_cons, ih, List.replicate_succ]
    rfl
/-- [1] * m as an argument, m reckoned without a change of the heap -/
theorem rep_ones {tn : TE} {tr : TA} {σ : L2.St} {H : Hp} {Q : List V → Hp → Prop} (m : Nat) (hm : m ≤ 1000) (htn : ∀ (H' : Hp) (R : VK), Same H H' → R (.int (m : Int)) H' → tn σ H' R)
    (k : ∀ o H', Same H H' → IntsAt H' o (List.replicate m 1) → tr σ H' fun xs H2 => Q (.ref o :: xs) H2) : tCons (tOp rRep (tLst (tCons (tC (.int 1)) tNil)) tn) tr σ H Q := by
  refine ⟨(by show 1 ≤ sizeLine; decide), fun o1 h1 => htn _ _ (same_upd h1) ?_⟩
  refine ⟨o1, _, _, rfl, rfl, upd_same, by omega, by omega, ?_, fun o2 h2 => k o2 _ ((same_upd h1).trans (same_upd h2)) ?_⟩
  · show 1 * (m : Int).toNat ≤ sizeLine
    exact Nat.le_of_lt (small1000 (by omega))
  · show upd _ o2 _ o2 = _
    rw [upd_same, Int.toNat_natCast, ones]
end K29
/-! The law. -/
namespace K29
open PySem PySem.Spec PyProof.Rows L2
/-- a def of the top by its name, and its promise -/
structure Gf (P : Program) (w : World) (K : PySem.W.Frag) (mg : Str → Option Value) (base : Heap) (x : Str) (ps : List Str) (k : Nat) (sp : Sp) where
  f : Addr
  fd : FuncData
  g : mg x = some (.ref f)
  kp : PySem.W.keepIn K (.ref f) = true
  b : Binds K fd ps []
  ok : FnOk P w K mg base CX0 k f fd ps sp
/-- all that the law's body calls -/
structure Kit (P : Program) (w : World) (K : PySem.W.Frag) (mg : Str → Option Value) (base : Heap) (C WC BA : Addr) where
  B : Bl mg
  T : Tr K mg C
  pool : Gf P w K mg base "_law_pool" ["_law_script"] 1 (spPool K)
  segs : Gf P w K mg base "_law_segments" ["_law_pool_here", "_law_most"] 3 spSegs
  draw : Gf P w K mg base "_law_draw" ["_law_pool_here", "_law_many"] 2 spDraw
  dly : Gf P w K mg base "_law_delay" ["_law_segments_here", "_law_node", "_law_resistances", "_law_capacitances"] 2 spDelayL
  sameI : Gf P w K mg base "_law_same" ["_law_actual", "_law_due"] 1 spSameI
  sameT : Gf P w K mg base "_law_same" ["_law_actual", "_law_due"] 2 spSameT
  within : Gf P w K mg base "_law_within" ["_law_pool_here", "_law_pairs"] 3 spWithin
  refused : Gf P w K mg base "_law_refused" ["_law_tree", "_law_node", "_law_first", "_law_second", "_law_unit"] 6 (spRefused C)
  fI : Addr
  fdI : FuncData
  MT : Mk K C fI
  bI : Binds K fdI ["self", "segments"] []
  GI : FnOk P w K mg base CX0 1 fI fdI ["self", "segments"] (spInit C)
  fD : Addr
  fdD : FuncData
  mD : Meth K C "delay" fD
  bD : Binds K fdD ["self", "node", "resistances", "capacitances"] []
  GD : FnOk P w K mg base (L2.CX P w) 4 fD fdD ["self", "node", "resistances", "capacitances"] (spDelayM C WC)
  fR : Addr
  fdR : FuncData
  mR : Meth K C "delay_range" fR
  dR : List Value
  vR : Vals [.int 1] dR
  bR : Binds K fdR ["self", "node", "unit"] dR
  gk : List Value → List Value → List Value
  gV : List V → List V → List V
  kR : KBn K fdR ["self", "node", "unit"] 2 ["unit"] gk gV
  hgV : ∀ a b c : V, gV [a, b] [c] = [a, b, c]
  GR : FnOk P w K mg base (L2.CX P w) 5 fR fdR ["self", "node", "unit"] (spRange C BA)
abbrev lawN : List Str := ["_law_script", "_law_pool_here", "_law_turn", "_law_segments_here", "_law_tree", "_law_first", "_law_second", "_law_unit", "_law_node", "_law_low", "_law_high", "_law_due", "_law_actual", "_law_k", "_law_some", "_law_other", "_law_delay_here", "_law_row", "_law_pair"]
def spLaw (K : PySem.W.Frag) : Sp := fun vs H Q _ => ∃ (a : Addr) (ns : List Int), vs = [.ref a] ∧ SqL K H a (ns.map V.int) ∧ ns.length ≤ 63 ∧ ∀ H', Q (.bl true) H'
theorem scLaw : FnScope lawN ["_law_script"] (defScope sLaw) := ⟨rfl, rfl, rfl, by decide +kernel, rfl, by decide +kernel, by decide +kernel⟩
section
variable {P : Program} {w : World} {K : PySem.W.Frag} {mg : Str → Option Value} {base : Heap} {C WC BA : Addr}
theorem ok_law {f : Addr} {fd : FuncData} (F : Fun K "law" "law" sLaw f fd) (Z : Kit P w K mg base C WC BA) : FnOk P w K mg base CX0 7 f fd ["_law_script"] (spLaw K) := by
  refine F.ok scLaw (fun vs H Q E h => ?_) (fun cdv A outer s H vs Q E hr h => ?_)
  · obtain ⟨a, ns, rfl, _⟩ := h
    rfl
  · obtain ⟨a, ns, rfl, hS, hlen, k⟩ := h
    have r1 := hr.mono (show 1 ≤ 6 by decide)
    have r2 := hr.mono (show 2 ≤ 6 by decide)
    have r3 := hr.mono (show 3 ≤ 6 by decide)
    have r4 := hr.mono (show 4 ≤ 6 by decide)
    have r5 := hr.mono (show 5 ≤ 6 by decide)
    have B := Z.B
    have T := Z.T
    refine ⟨_, pss_cons (ps_set (i := 1) scLaw.nd rfl (Or.inl rfl) (pe_call Z.pool.ok r1 (by rfl) Z.pool.g Z.pool.kp Z.pool.b .nil pass0 (pa_cons (pv 0) pa_nil)))
      (pss_cons (ps_for PassesOwn.never rfl (pi_range1 rfl B.range (pa_cons pe_int pa_nil)) (pg_name (i := 2) scLaw.nd rfl (Or.inl rfl))
        (pss_cons (ps_set (i := 3) scLaw.nd rfl (Or.inl rfl) (pe_call Z.segs.ok r3 (by rfl) Z.segs.g Z.segs.kp Z.segs.b .nil pass0 (pa_cons (pv 1) (pa_cons pe_int pa_nil))))
        (pss_cons (ps_set (i := 4) scLaw.nd rfl (Or.inl rfl) (pe_make Z.MT Z.GI r2 (by rfl) T.gT Z.bI .nil pass0 (pa_cons (pe_callTy call_list_of (by rfl) B.list (by decide +kernel) (pa_cons (pv 3) pa_nil)) pa_nil)))
        (pss_cons (ps_setLc (i := 5) (own := [("_law_row", 17)]) (g := gName 17) (tt := tYes) rfl scLaw.nd rfl rfl (sw_true rfl rfl rfl (by decide +kernel)) (pi_list (pv 3)) (blkOk_by (N := lawN) (sc := defScope sLaw) (by decide +kernel))
          (fun _ _ _ _ _ => pg_name (i := 17) scLaw.nd rfl (Or.inl rfl)) (fun _ _ _ _ _ => pts_nil) (fun _ _ _ _ _ => pe_ix (ixT K rfl) (pv 17) pe_int (fun _ _ => rfl)))
        (pss_cons (ps_setLc (i := 6) (own := [("_law_row", 17)]) (g := gName 17) (tt := tYes) rfl scLaw.nd rfl rfl (sw_true rfl rfl rfl (by decide +kernel)) (pi_list (pv 3)) (blkOk_by (N := lawN) (sc := defScope sLaw) (by decide +kernel))
          (fun _ _ _ _ _ => pg_name (i := 17) scLaw.nd rfl (Or.inl rfl)) (fun _ _ _ _ _ => pts_nil) (fun _ _ _ _ _ => pe_ix (ixT K rfl) (pv 17) pe_int (fun _ _ => rfl)))
        (pss_cons (ps_set (i := 7) scLaw.nd rfl (Or.inl rfl) (pe_ix ix_list
          (pe_lst (pa_cons pe_int (pa_cons pe_int (pa_cons (pe_op op_add pe_int (pe_call Z.draw.ok r2 (by rfl) Z.draw.g Z.draw.kp Z.draw.b .nil pass0 (pa_cons (pv 1) (pa_cons pe_int pa_nil)))) pa_nil))))
          (pe_call Z.draw.ok r2 (by rfl) Z.draw.g Z.draw.kp Z.draw.b .nil pass0 (pa_cons (pv 1) (pa_cons pe_int pa_nil))) (fun _ _ => rfl)))
        (pss_one (ps_for PassesOwn.never rfl (pi_range1 rfl B.range (pa_cons (pe_op op_add (pe_callB call_len_seq (by rfl) B.len PySem.boot_len (pa_cons (pv 3) pa_nil)) pe_int) pa_nil)) (pg_name (i := 8) scLaw.nd rfl (Or.inl rfl))
          (pss_cons (ps_set (i := 9) scLaw.nd rfl (Or.inl rfl) (pe_call Z.dly.ok r2 (by rfl) Z.dly.g Z.dly.kp Z.dly.b .nil pass0 (pa_cons (pv 3) (pa_cons (pv 8)
            (pa_cons (pe_lc (own := [("_law_pair", 18)]) (g := gName 18) (tt := tYes) rfl scLaw.nd (pi_list (pv 5)) (blkOk_by (N := lawN) (sc := defScope sLaw) (by decide +kernel)) (fun _ _ _ _ _ => pg_name (i := 18) scLaw.nd rfl (Or.inl rfl)) (fun _ _ _ _ _ => pts_nil) (fun _ _ _ _ _ => pe_ix (ixT K rfl) (pv 18) pe_int (fun _ _ => rfl)))
            (pa_cons (pe_lc (own := [("_law_pair", 18)]) (g := gName 18) (tt := tYes) rfl scLaw.nd (pi_list (pv 6)) (blkOk_by (N := lawN) (sc := defScope sLaw) (by decide +kernel)) (fun _ _ _ _ _ => pg_name (i := 18) scLaw.nd rfl (Or.inl rfl)) (fun _ _ _ _ _ => pts_nil) (fun _ _ _ _ _ => pe_ix (ixT K rfl) (pv 18) pe_int (fun _ _ => rfl))) pa_nil))))))
          (pss_cons (ps_set (i := 10) scLaw.nd rfl (Or.inl rfl) (pe_call Z.dly.ok r2 (by rfl) Z.dly.g Z.dly.kp Z.dly.b .nil pass0 (pa_cons (pv 3) (pa_cons (pv 8)
            (pa_cons (pe_lc (own := [("_law_pair", 18)]) (g := gName 18) (tt := tYes) rfl scLaw.nd (pi_list (pv 5)) (blkOk_by (N := lawN) (sc := defScope sLaw) (by decide +kernel)) (fun _ _ _ _ _ => pg_name (i := 18) scLaw.nd rfl (Or.inl rfl)) (fun _ _ _ _ _ => pts_nil) (fun _ _ _ _ _ => pe_ix (ixT K rfl) (pv 18) pe_int (fun _ _ => rfl)))
            (pa_cons (pe_lc (own := [("_law_pair", 18)]) (g := gName 18) (tt := tYes) rfl scLaw.nd (pi_list (pv 6)) (blkOk_by (N := lawN) (sc := defScope sLaw) (by decide +kernel)) (fun _ _ _ _ _ => pg_name (i := 18) scLaw.nd rfl (Or.inl rfl)) (fun _ _ _ _ _ => pts_nil) (fun _ _ _ _ _ => pe_ix (ixT K rfl) (pv 18) pe_int (fun _ _ => rfl))) pa_nil))))))
          (pss_cons (ps_set (i := 11) scLaw.nd rfl (Or.inl rfl) (pe_tup (pa_cons (pe_op op_fdiv (pv 9) (pv 7)) (pa_cons (pe_op op_fdiv (pe_op op_sub (pe_op op_add (pv 10) (pv 7)) pe_int) (pv 7)) pa_nil))))
          (pss_cons (ps_set (i := 12) scLaw.nd rfl (Or.inl rfl) (pe_methKX (E := EN) (pv 4) T.cl Z.mR Z.GR r5 Z.kR passN (pa_cons (pv 8) pa_nil) (pk_cons (pv 7) pk_nil)))
          (pss_cons (ps_if (PW.pt (pw_or (pt_not (pt_val (pe_call Z.sameT.ok r2 (by rfl) Z.sameT.g Z.sameT.kp Z.sameT.b .nil pass0 (pa_cons (pv 12) (pa_cons (pv 11) pa_nil)))))
              (pw_or1 (pt_not (pt_val (pe_call Z.sameT.ok r2 (by rfl) Z.sameT.g Z.sameT.kp Z.sameT.b .nil pass0 (pa_cons (pe_methX (E := EN) (pv 4) T.cl Z.mR Z.GR r5 Z.bR Z.vR passN (pa_cons (pv 8) pa_nil)) (pa_cons (pe_tup (pa_cons (pv 9) (pa_cons (pv 10) pa_nil))) pa_nil))))))))
            pss_never pss_nil)
          (pss_cons (ps_for PassesOwn.never rfl (pi_range1 rfl B.range (pa_cons pe_int pa_nil)) (pg_name (i := 13) scLaw.nd rfl (Or.inl rfl))
            (pss_cons (ps_set (i := 14) scLaw.nd rfl (Or.inl rfl) (pe_call Z.within.ok r3 (by rfl) Z.within.g Z.within.kp Z.within.b .nil pass0 (pa_cons (pv 1) (pa_cons (pv 5) pa_nil))))
            (pss_cons (ps_set (i := 15) scLaw.nd rfl (Or.inl rfl) (pe_call Z.within.ok r3 (by rfl) Z.within.g Z.within.kp Z.within.b .nil pass0 (pa_cons (pv 1) (pa_cons (pv 6) pa_nil))))
            (pss_cons (ps_set (i := 16) scLaw.nd rfl (Or.inl rfl) (pe_methX (E := EN) (pv 4) T.cl Z.mD Z.GD r4 Z.bD .nil passN (pa_cons (pv 8) (pa_cons (pv 14) (pa_cons (pv 15) pa_nil)))))
            (pss_cons (ps_if (pt_not (pt_val (pe_call Z.sameI.ok r1 (by rfl) Z.sameI.g Z.sameI.kp Z.sameI.b .nil pass0 (pa_cons (pv 16)
                (pa_cons (pe_call Z.dly.ok r2 (by rfl) Z.dly.g Z.dly.kp Z.dly.b .nil pass0 (pa_cons (pv 3) (pa_cons (pv 8) (pa_cons (pv 14) (pa_cons (pv 15) pa_nil))))) pa_nil)))))
              pss_never pss_nil)
            (pss_one (ps_if (PW.pt (pw_or (pt_cmpR op_gt (pe_op op_mul (pv 7) (pe_ix ix_tup (pv 12) pe_int (fun _ _ => rfl))) (pv 16) (nomark _))
                (pw_or1 (pt_cmpR op_lt (pe_op op_mul (pv 7) (pe_ix ix_tup (pv 12) pe_int (fun _ _ => rfl))) (pv 16) (nomark _)))))
              pss_never pss_nil)))))))
          (pss_cons (ps_if (pt_not (pt_val (pe_call Z.refused.ok hr (by rfl) Z.refused.g Z.refused.kp Z.refused.b .nil pass0 (pa_cons (pv 4) (pa_cons (pv 8)
              (pa_cons (pe_op op_rep (pe_lst (pa_cons pe_int pa_nil)) (pe_op op_add (pe_callB call_len_seq (by rfl) B.len PySem.boot_len (pa_cons (pv 3) pa_nil)) pe_int))
              (pa_cons (pe_op op_rep (pe_lst (pa_cons pe_int pa_nil)) (pe_callB call_len_seq (by rfl) B.len PySem.boot_len (pa_cons (pv 3) pa_nil))) (pa_cons pe_non pa_nil))))))))
            pss_never pss_nil)
          (pss_cons (ps_if (pt_not (pt_val (pe_call Z.refused.ok hr (by rfl) Z.refused.g Z.refused.kp Z.refused.b .nil pass0 (pa_cons (pv 4) (pa_cons (pv 8)
              (pa_cons (pe_op op_rep (pe_lst (pa_cons pe_int pa_nil)) (pe_callB call_len_seq (by rfl) B.len PySem.boot_len (pa_cons (pv 3) pa_nil)))
              (pa_cons (pe_op op_rep (pe_lst (pa_cons pe_int pa_nil)) (pe_op op_add (pe_callB call_len_seq (by rfl) B.len PySem.boot_len (pa_cons (pv 3) pa_nil)) pe_int)) (pa_cons pe_non pa_nil))))))))
            pss_never pss_nil)
          (pss_one (ps_if (pt_not (pt_val (pe_call Z.refused.ok hr (by rfl) Z.refused.g Z.refused.kp Z.refused.b .nil pass0 (pa_cons (pv 4) (pa_cons (pv 8)
              (pa_cons (pe_lst pa_nil) (pa_cons (pe_lst pa_nil) (pa_cons (pe_un un_neg (pe_call Z.draw.ok r2 (by rfl) Z.draw.g Z.draw.kp Z.draw.b .nil pass0 (pa_cons (pv 1) (pa_cons pe_int pa_nil)))) pa_nil))))))))
            pss_never pss_nil))))))))))))))))))
      (pss_one (ps_ret pe_bl))), ?_⟩
    -- the pool
    refine ⟨_, rfl, a, ns, rfl, hS, hlen, fun H1 p l s1 hP1 hp0 => ?_⟩
    refine ⟨2, rfl, by decide, by decide, for_range (lo := 0) (n := 2) (fun _ σ H2 => ∃ (y2 y3 y4 y5 y6 y7 y8 y9 y10 y11 y12 y13 y14 y15 y16 : Option V), σ = [some (.ref a), some (.ref p), y2, y3, y4, y5, y6, y7, y8, y9, y10, y11, y12, y13, y14, y15, y16, none, none] ∧ PoolAt H2 p l)
      ⟨none, none, none, none, none, none, none, none, none, none, none, none, none, none, none, rfl, hP1⟩ ?_ ?_⟩
    · rintro i σ H2 hi ⟨y2, y3, y4, y5, y6, y7, y8, y9, y10, y11, y12, y13, y14, y15, y16, rfl, hP2⟩
      -- segments
      refine ⟨_, rfl, p, l, rfl, hP2, fun ss sa H3 G b3 P3 hS3 => ?_⟩
      have h8 := G.len
      -- tree
      obtain ⟨ws, ew, A2⟩ := id hS3
      refine ⟨_, rfl, sa, ws, rfl, Or.inl (SqL.of ew), fun la hla => ?_⟩
      have sl := same_upd (o := .lst ws) hla
      have hSl : SegsAt (upd H3 la (.lst ws)) la ss := ⟨ws, upd_same, A2.mono fun v x r => r.kp (Kp.of sl)⟩
      intro x dx nx ndx nex
      have s0 : Same (upd H3 la (.lst ws)) (upd (upd (upd H3 la (.lst ws)) dx (.own x)) x (.ins C dx [])) := fun b o e => by
        rw [upd_ne (ne_of_none e nx), upd_ne (ne_of_none e ndx)]
        exact e
      refine ⟨x, dx, la, ss, rfl, upd_same, hSl.kp (Kp.of s0), G, fun H4 hT4 b4 => ⟨rfl, ?_⟩⟩
      have s34 : Same H3 H4 := sl.trans (Same.made nx ndx b4)
      -- first, second
      dsimp only [tSeq, tAsg, gName]
      refine lc_rows 1 (fun x _ => x) (fun s => s.r) (fun n x y => at_of (j := 1) rfl rfl) (fun H s x y hx _ => hx) (by show 17 < 19; decide) (fun R r => ⟨_, rfl, r⟩) (hS3.kp (Kp.of s34)) h8 fun D1 H5 s5 hB5 => ?_
      try dsimp only [tSeq, tAsg, gName]
      refine lc_rows 2 (fun _ y => y) (fun s => s.c) (fun n x y => at_of (j := 2) rfl rfl) (fun H s x y _ hy => hy) (by show 17 < 19; decide) (fun R r => ⟨_, rfl, r⟩) (hS3.kp (Kp.of (s34.trans s5))) h8 fun D2 H6 s6 hB6 => ?_
      have P6 := P3.same ((s34.trans s5).trans s6)
      -- unit
      refine ⟨_, rfl, p, l, 300, rfl, P6, by decide, by decide, fun d1 H7 d10 d11 b7 P7 => ⟨_, _, rfl, rfl, (by show 3 ≤ sizeLine; decide), fun xl hxl => ?_⟩⟩
      have sx := same_upd (o := .lst [.int 1, .int 2, .int (1 + d1)]) hxl
      have nxl := (P7.ne hxl).1
      refine ⟨_, rfl, p, l, 3, rfl, P7.same sx, by decide, by decide, fun d2 H8 d20 d21 b8 P8 => ?_⟩
      have exl : H8 xl = some (.lst [.int 1, .int 2, .int (1 + d1)]) := b8 _ _ upd_same nxl
      obtain ⟨u, eu, u1, u2⟩ := at3i (z := 1 + d1) d20 d21 ⟨by omega, by omega⟩
      refine ⟨xl, _, _, _, rfl, rfl, SqL.of exl, eu, ?_⟩
      have k68 : Kp H6 H8 := (Kp.but P6 b7).trans ((Kp.of sx).trans (Kp.but (P7.same sx) b8))
      have hS8 := hS3.kp ((Kp.of ((s34.trans s5).trans s6)).trans k68)
      have hT8 := hT4.kp ((Kp.of (s5.trans s6)).trans k68)
      obtain ⟨dxx, la', lb', lc', hx8, _, _, _⟩ := id hT8
      have hB18 := hB5.kp ((Kp.of s6).trans k68)
      have hB28 := hB6.kp k68
      obtain ⟨w8, ew8, A8⟩ := id hS8
      have notP : ¬ PoolO (.lst w8) := notPool_refs fun i v q => by
        obtain ⟨_, _, t, _, _, et, _⟩ := A8.getV q
        exact ⟨t, et⟩
      have lw8 : (w8.length : Int) = (ss.length : Int) := by rw [A8.1]
      have l2 : ∀ (f : Seg → Int × Int), (ss.map f).length ≤ 8 := fun f => by rw [List.length_map]; exact h8
      have lmap : ∀ (f : Seg → Int), (ss.map f).length = ss.length := fun f => List.length_map ..
      have bnd : ∀ (f : Seg → Int), (∀ s ∈ ss, 0 ≤ f s ∧ f s < 2 ^ 60) → ∀ x ∈ ss.map f, -(2 ^ 64) < x ∧ x < 2 ^ 64 := fun f h x hx => by
        obtain ⟨s, hs, rfl⟩ := List.mem_map.mp hx
        have z := h s hs
        omega
      -- for node in range(len(segments) + 1)
      refine ⟨_, rfl, sa, w8, rfl, Or.inl (SqL.of ew8), _, _, rfl, rfl, _, rfl, by omega, by omega, for_range (lo := 0) (n := ((w8.length : Int) + 1).toNat) (fun j σ H9 => ∃ (y8 y9 y10 y11 y12 y13 y14 y15 y16 : Option V),
          σ = [some (.ref a), some (.ref p), some (.int (0 + (i : Int))), some (.ref sa), some (.ref x), some (.ref D1), some (.ref D2), some (.int u), y8, y9, y10, y11, y12, y13, y14, y15, y16, none, none] ∧ Kp H8 H9 ∧ PoolAt H9 p l)
        ⟨y8, y9, y10, y11, y12, y13, y14, y15, y16, rfl, Kp.refl _, P8⟩ ?_ ?_⟩
      · rintro j σ H9 hj ⟨y8, y9, y10, y11, y12, y13, y14, y15, y16, rfl, k9, P9⟩
        rw [Int.zero_add]
        have hjn : j ≤ ss.length := by omega
        have hS9 := hS8.kp k9
        have hT9 := hT8.kp k9
        have hB19 := hB18.kp k9
        have hB29 := hB28.kp k9
        -- low
        refine ⟨_, rfl, _, rfl, ?_⟩
        refine lc_pairs 0 (fun q => q.1) at_fst (by show 18 < 19; decide) (fun R r => ⟨_, rfl, r⟩) hB19 (l2 _) fun E1 G1 t1 _ e1 => ?_
        refine lc_pairs 0 (fun q => q.1) at_fst (by show 18 < 19; decide) (fun R r => ⟨_, rfl, r⟩) (hB29.kp (Kp.of t1)) (l2 _) fun E2 G2 t2 _ e2 => ?_
        rw [List.map_map] at e1 e2
        have t12 := t1.trans t2
        refine ⟨sa, E1, E2, ss, j, _, _, rfl, hS9.kp (Kp.of t12), G, hjn, e1.kp (Kp.of t2), e2, lmap _, lmap _, bnd (fun s => s.r.1) (fun s hs => ?_), fun G3 t3 => ?_⟩
        · have z := G.rng s hs
          omega
        have t13 := t12.trans t3
        -- high
        refine ⟨_, rfl, _, rfl, ?_⟩
        refine lc_pairs 1 (fun q => q.2) at_snd (by show 18 < 19; decide) (fun R r => ⟨_, rfl, r⟩) (hB19.kp (Kp.of t13)) (l2 _) fun E3 G4 t4 _ e3 => ?_
        have t14 := t13.trans t4
        refine lc_pairs 1 (fun q => q.2) at_snd (by show 18 < 19; decide) (fun R r => ⟨_, rfl, r⟩) (hB29.kp (Kp.of t14)) (l2 _) fun E4 G5 t5 _ e4 => ?_
        rw [List.map_map] at e3 e4
        have t15 := t14.trans t5
        refine ⟨sa, E3, E4, ss, j, _, _, rfl, hS9.kp (Kp.of t15), G, hjn, e3.kp (Kp.of t5), e4, lmap _, lmap _, bnd (fun s => s.r.2) (fun s hs => ?_), fun G6 t6 => ?_⟩
        · have z := G.rng s hs
          omega
        have t16 := t15.trans t6
        -- due
        refine ⟨_, rfl, _, rfl, _, _, rfl, rfl, ⟨by omega, by omega⟩, _, rfl, _, rfl, _, _, rfl, rfl, _, _, rfl, rfl, _, rfl, _, _, rfl, rfl, ⟨by omega, by omega⟩, (by show 2 ≤ sizeLine; decide), fun td htd => ?_⟩
        have t67 := same_upd (o := .tup [.int (dl (pars ss) (ss.map fun s => s.r.1) (ss.map fun s => s.c.1) j / u), .int ((dl (pars ss) (ss.map fun s => s.r.2) (ss.map fun s => s.c.2) j + u - 1) / u)]) htd
        have t17 := t16.trans t67
        -- actual
        have hx := k9 _ _ hx8 (fun ⟨_, _, _, _, _, z⟩ => nomatch z)
        have nR : (flds la' lb' lc').lookup ("delay_range" : Str) = none := flds_no _ _ _ (by decide +kernel) (by decide +kernel) (by decide +kernel)
        have nD : (flds la' lb' lc').lookup ("delay" : Str) = none := flds_no _ _ _ (by decide +kernel) (by decide +kernel) (by decide +kernel)
        refine ⟨_, rfl, x, dxx, _, rfl, t17 _ _ hx, nR, _, rfl, _, rfl, rfl, rfl, ?_⟩
        rw [Z.hgV]
        refine ⟨x, ss, j, u, rfl, hT9.kp (Kp.of t17), G, hjn, Or.inl ⟨u1, by omega, fun ta G8 t8 eta => ?_⟩⟩
        have t18 := t17.trans t8
        have etd := t8 _ _ (upd_same (H := G6) (a := td) (o := .tup [.int (dl (pars ss) (ss.map fun s => s.r.1) (ss.map fun s => s.c.1) j / u), .int ((dl (pars ss) (ss.map fun s => s.r.2) (ss.map fun s => s.c.2) j + u - 1) / u)]))
        have eta2 := eta
        rw [up_eq u1] at eta2
        -- the two are the same
        refine ⟨_, rfl, _, rfl, ta, td, _, _, rfl, eta2, etd, _, rfl, ?_⟩
        refine ⟨_, rfl, x, dxx, _, rfl, t18 _ _ hx, nR, _, rfl, x, ss, j, 1, rfl, hT9.kp (Kp.of t18), G, hjn, Or.inl ⟨by decide, by decide, fun tb G9 t9 etb => ?_⟩⟩
        rw [Int.ediv_one, Int.ediv_one, Int.neg_neg] at etb
        refine ⟨_, rfl, _, rfl, (by show 2 ≤ sizeLine; decide), fun tc htc => ?_⟩
        have t10 := same_upd (o := .tup [.int (dl (pars ss) (ss.map fun s => s.r.1) (ss.map fun s => s.c.1) j), .int (dl (pars ss) (ss.map fun s => s.r.2) (ss.map fun s => s.c.2) j)]) htc
        refine ⟨tb, tc, _, _, rfl, t10 _ _ etb, upd_same, _, rfl, ?_⟩
        have t1A := t18.trans (t9.trans t10)
        have etaA := (t9.trans t10) _ _ eta
        have P10 := P9.same t1A
        have k10 := k9.trans (Kp.of t1A)
        -- three draws
        refine ⟨3, rfl, by decide, by decide, for_range (lo := 0) (n := 3) (fun _ σ HA => ∃ (y13 y14 y15 y16 : Option V),
            σ = [some (.ref a), some (.ref p), some (.int (0 + (i : Int))), some (.ref sa), some (.ref x), some (.ref D1), some (.ref D2), some (.int u), some (nI j), some (.int (dl (pars ss) (ss.map fun s => s.r.1) (ss.map fun s => s.c.1) j)), some (.int (dl (pars ss) (ss.map fun s => s.r.2) (ss.map fun s => s.c.2) j)), some (.ref td), some (.ref ta), y13, y14, y15, y16, none, none] ∧ Kp H8 HA ∧ PoolAt HA p l ∧
            HA ta = some (.tup [.int (dl (pars ss) (ss.map fun s => s.r.1) (ss.map fun s => s.c.1) j / u), .int (-(-dl (pars ss) (ss.map fun s => s.r.2) (ss.map fun s => s.c.2) j / u))]))
          ⟨y13, y14, y15, y16, rfl, k10, P10, etaA⟩ ?_ ?_⟩
        · rintro m σ HA hm ⟨y13, y14, y15, y16, rfl, kA, PA0, eA⟩
          have tupK : ∀ {H H' : Hp}, Kp H H' → ∀ b xs, H b = some (.tup xs) → H' b = some (.tup xs) := fun k => Tp.kp k
          -- some, other
          refine ⟨_, rfl, _, rfl, p, l, D1, _, rfl, PA0, hB18.kp kA, fun q hq => ?_, l2 _, fun n1 D3 HB bB PB eB rB => ?_⟩
          · obtain ⟨s, hs, rfl⟩ := List.mem_map.mp hq
            have z := G.rng s hs
            exact ⟨by show _ ≤ _; omega, by show 0 ≤ _; omega, by show _ < _; omega⟩
          have kB := kA.trans (Kp.but PA0 bB)
          refine ⟨_, rfl, _, rfl, p, l, D2, _, rfl, PB, hB28.kp kB, fun q hq => ?_, l2 _, fun n2 D4 HC bC PC eC rC => ?_⟩
          · obtain ⟨s, hs, rfl⟩ := List.mem_map.mp hq
            have z := G.rng s hs
            exact ⟨by show _ ≤ _; omega, by show 0 ≤ _; omega, by show _ < _; omega⟩
          have kBC := Kp.but PB bC
          have kC := kB.trans kBC
          have eB2 := eB.kp kBC
          have z1 : n1.length = ss.length := rB.1.trans (List.length_map ..)
          have z2 : n2.length = ss.length := rC.1.trans (List.length_map ..)
          have b1 := rB.bound (fun s hs => by have z := G.rng s hs; omega)
          -- delay_here
          refine ⟨_, rfl, x, dxx, _, rfl, kC _ _ hx8 (fun ⟨_, _, _, _, _, z⟩ => nomatch z), nD, _, rfl, _, rfl, _, rfl, x, D3, D4, ss, j, n1, n2, rfl, hT8.kp kC, G, hjn, eB2, eC, Or.inl ⟨z1, z2, b1, fun HD sD => ?_⟩⟩
          have kD := kC.trans (Kp.of sD)
          refine ⟨_, rfl, _, rfl, _, rfl, _, rfl, _, rfl, sa, D3, D4, ss, j, n1, n2, rfl, hS8.kp kD, G, hjn, eB2.kp (Kp.of sD), eC.kp (Kp.of sD), z1, z2, b1, fun HE sE => ?_⟩
          refine ⟨_, rfl, _, rfl, ?_⟩
          have kE := kD.trans (Kp.of sE)
          have PE := (PC.same sD).same sE
          have eE := (sD.trans sE) _ _ (tupK kBC _ _ (tupK (Kp.but PA0 bB) _ _ eA))
          have hlo : dl (pars ss) (ss.map fun s => s.r.1) (ss.map fun s => s.c.1) j ≤ dl (pars ss) n1 n2 j := dl_mono (rB.low fun s hs => (G.rng s hs).1) (rC.low fun s hs => (G.rng s hs).2.2.2.1)
          have hhi : dl (pars ss) n1 n2 j ≤ dl (pars ss) (ss.map fun s => s.r.2) (ss.map fun s => s.c.2) j := dl_mono (rB.high fun s hs => (G.rng s hs).1) (rC.high fun s hs => (G.rng s hs).2.2.2.1)
          -- unit * actual[0] > delay_here
          refine ⟨_, rfl, _, rfl, ta, _, _, _, rfl, rfl, SqT.of eE, at_of (j := 0) rfl rfl, _, _, rfl, rfl, Or.inl ⟨by omega, by omega⟩, _, rfl, _, _, rfl, rfl, _, rfl, ?_⟩
          refine ite2 (fun q => absurd (of_decide_eq_true q) (low_ok u1 hlo)) (fun _ => ?_)
          refine ⟨_, rfl, _, rfl, ta, _, _, _, rfl, rfl, SqT.of eE, at_of (j := 1) rfl rfl, _, _, rfl, rfl, Or.inl ⟨by omega, by omega⟩, _, rfl, _, _, rfl, rfl, _, rfl, ?_⟩
          refine ite2 (fun q => absurd (of_decide_eq_true q) (high_ok u1 hhi)) (fun _ => ?_)
          exact ⟨_, _, _, _, rfl, kE, PE, eE⟩
        · rintro σ HA ⟨y13, y14, y15, y16, rfl, kA, PA0, eA⟩
          have hTA := hT8.kp kA
          have sq : ∀ {HF : Hp}, Same HA HF → SqL K HF sa w8 := fun sF => SqL.of ((Kp.of sF) _ _ (kA _ _ ew8 notP) notP)
          have hTA := hT8.kp kA
          -- one number too many on the left
          refine ⟨_, rfl, _, rfl, ?_⟩
          refine rep_ones (ss.length + 1) (by omega) (fun HF R sF r => ⟨_, rfl, sa, w8, rfl, Or.inl (sq sF), _, _, rfl, rfl, by rw [lw8]; exact r⟩) fun o1 HB sB e1 => ?_
          refine rep_ones ss.length (by omega) (fun HF R sF r => ⟨_, rfl, sa, w8, rfl, Or.inl (sq (sB.trans sF)), by rw [lw8]; exact r⟩) fun o2 HC sC e2 => ?_
          have sAC := sB.trans sC
          refine ⟨x, ss, j, .ref o1, .ref o2, .non, rfl, hTA.kp (Kp.of sAC), G, hjn, Or.inl ⟨rfl, o1, o2, _, _, rfl, rfl, e1.kp (Kp.of sC), e2, Or.inl (by rw [List.length_replicate]; omega)⟩, _, rfl, ?_⟩
          -- one number too many on the right
          refine ⟨_, rfl, _, rfl, ?_⟩
          refine rep_ones ss.length (by omega) (fun HF R sF r => ⟨_, rfl, sa, w8, rfl, Or.inl (sq (sAC.trans sF)), by rw [lw8]; exact r⟩) fun o3 HD sD e3 => ?_
          refine rep_ones (ss.length + 1) (by omega) (fun HF R sF r => ⟨_, rfl, sa, w8, rfl, Or.inl (sq ((sAC.trans sD).trans sF)), _, _, rfl, rfl, by rw [lw8]; exact r⟩) fun o4 HE sE e4 => ?_
          have sAE := (sAC.trans sD).trans sE
          refine ⟨x, ss, j, .ref o3, .ref o4, .non, rfl, hTA.kp (Kp.of sAE), G, hjn, Or.inl ⟨rfl, o3, o4, _, _, rfl, rfl, e3.kp (Kp.of sE), e4, Or.inr (by rw [List.length_replicate]; omega)⟩, _, rfl, ?_⟩
          -- a unit below 1
          refine ⟨_, rfl, _, rfl, Nat.zero_le _, fun o5 h5 => ⟨Nat.zero_le _, fun o6 h6 => ?_⟩⟩
          have s56 := (same_upd (o := .lst []) h5).trans (same_upd (o := .lst []) h6)
          have sAF := sAE.trans s56
          refine ⟨_, rfl, p, l, 3, rfl, PA0.same sAF, by decide, by decide, fun d HG d0 d3 bG PG => ⟨_, rfl, ?_⟩⟩
          have kG := (Kp.of sAF).trans (Kp.but (PA0.same sAF) bG)
          refine ⟨x, ss, j, .ref o5, .ref o6, .int (-d), rfl, hTA.kp kG, G, hjn, Or.inr ⟨-d, rfl, by omega⟩, _, rfl, ?_⟩
          exact ⟨_, _, _, _, _, _, _, _, _, rfl, kA.trans kG, PG⟩
      · rintro σ H9 ⟨y8, y9, y10, y11, y12, y13, y14, y15, y16, rfl, k9, P9⟩
        exact ⟨_, _, _, _, _, _, _, _, _, _, _, _, _, _, _, rfl, P9⟩
    · rintro σ H2 ⟨y2, y3, y4, y5, y6, y7, y8, y9, y10, y11, y12, y13, y14, y15, y16, rfl, hP2⟩
      exact k _
end
end K29
/-! How delay_range binds. -/
namespace K29
open PySem PySem.Spec PyProof.Rows L2
section
variable {K : PySem.W.Frag} {f : Addr} {fd : FuncData}
theorem binds_range (F : FunR K f fd) : ∃ ds, Vals [.int 1] ds ∧ Binds K fd ["self", "node", "unit"] ds := by
  refine F.binds0 2 (by simp) rfl fun D doc pm an cdv ct us ks hu hk => ?_
  match us, ks, hu, hk with
  | [u1, u2], [k1], _, _ =>
    refine ⟨_, _, _, _, _, _, rfl, rfl, ?_⟩
    rfl
theorem kbinds_range (F : FunR K f fd) : ∃ mv : List Value, KBn K fd ["self", "node", "unit"] 2 ["unit"] (fun us ws => us ++ (mv ++ ws)) (fun vs zs => vs ++ ([] ++ zs)) := by
  refine F.kbinds0 2 ["unit"] [] (fun us mv ws => us ++ (mv ++ ws)) (by simp) (fun q h => by cases h) (fun a b c => a.append (b.append c)) fun D doc pm an cdv ct us mv ws hu hm hw => ?_
  match us, mv, ws, hu, hm, hw with
  | [u1, u2], [], [w1], _, _, _ => rfl
end
end K29
/-! What the top has left, and the end. -/
namespace K29
open PySem PySem.Spec PyProof.Rows L2
/-- isinstance of an own class, asked for that class and for another one -/
theorem kit_self {K : PySem.W.Frag} {D : Addr} : PySem.W.kitOne K (.ref D) (.ref D) = some true := by
  unfold PySem.W.kitOne
  rw [if_pos (beq_self_eq_true _)]
theorem kit_other {K : PySem.W.Frag} {D D2 : Addr} {b : Bool} (ne : ¬ D = D2) (hd : PySem.W.hasDictIn K D2 = true) (ht : PySem.W.typeIn K (.ref D2) = some (.type "type")) (hs : PySem.W.subIn K (.ref D) (.ref D2) = some b) : PySem.W.kitOne K (.ref D) (.ref D2) = some b := by
  obtain ⟨cd, hc, _⟩ := PySem.W.any_some hd
  have e1 : (Value.ref D == Value.ref D2) = false := beq_eq_false_iff_ne.mpr fun q => ne (Value.ref.inj q)
  unfold PySem.W.kitOne
  rw [e1, if_neg Bool.false_ne_true]
  unfold PySem.W.kitCls
  simp only [hc, ht]
  exact hs
theorem all_mk {P : Program} {w : World} {K : PySem.W.Frag} {h : Heap} {mg : Str → Option Value} {fa C S WC BA kD : Addr} {tu : Tok} (X : K.In h) (G : h.Ns mainGlobals mg) (hfa : mg "law" = some (.ref fa))
    {f_i : Addr} {od_i an_i : Option Addr} {sl_i : Array (Option Value)} {oc_i kV_i dc_i pm_i cd_i ct_i : Value}
    {f_c : Addr} {od_c an_c : Option Addr} {sl_c : Array (Option Value)} {oc_c kV_c dc_c pm_c cd_c ct_c : Value}
    {f_p : Addr} {od_p an_p : Option Addr} {sl_p : Array (Option Value)} {oc_p kV_p dc_p pm_p cd_p ct_p : Value}
    {f_b : Addr} {od_b an_b : Option Addr} {sl_b : Array (Option Value)} {oc_b kV_b dc_b pm_b cd_b ct_b : Value}
    {f_d : Addr} {od_d an_d : Option Addr} {sl_d : Array (Option Value)} {oc_d kV_d dc_d pm_d cd_d ct_d : Value}
    {f_r : Addr} {od_r an_r : Option Addr} {sl_r : Array (Option Value)} {oc_r dc_r pm_r cd_r ct_r : Value}
    {f_P : Addr} {od_P an_P : Option Addr} {sl_P : Array (Option Value)} {oc_P kV_P dc_P pm_P cd_P ct_P : Value}
    {f_S : Addr} {od_S an_S : Option Addr} {sl_S : Array (Option Value)} {oc_S kV_S dc_S pm_S cd_S ct_S : Value}
    {f_D : Addr} {od_D an_D : Option Addr} {sl_D : Array (Option Value)} {oc_D kV_D dc_D pm_D cd_D ct_D : Value}
    {f_E : Addr} {od_E an_E : Option Addr} {sl_E : Array (Option Value)} {oc_E kV_E dc_E pm_E cd_E ct_E : Value}
    {f_G : Addr} {od_G an_G : Option Addr} {sl_G : Array (Option Value)} {oc_G kV_G dc_G pm_G cd_G ct_G : Value}
    {f_H : Addr} {od_H an_H : Option Addr} {sl_H : Array (Option Value)} {oc_H kV_H dc_H pm_H cd_H ct_H : Value}
    {f_L : Addr} {od_L an_L : Option Addr} {sl_L : Array (Option Value)} {oc_L kV_L dc_L pm_L cd_L ct_L : Value}
    {f_R : Addr} {od_R an_R : Option Addr} {sl_R : Array (Option Value)} {oc_R kV_R dc_R pm_R cd_R ct_R : Value}
    {f_T : Addr} {od_T an_T : Option Addr} {sl_T : Array (Option Value)} {oc_T kV_T dc_T pm_T cd_T ct_T : Value}
    {f_Z : Addr} {od_Z an_Z : Option Addr} {sl_Z : Array (Option Value)} {oc_Z kV_Z dc_Z pm_Z cd_Z ct_Z : Value}
    (gcC : PySem.W.nsIn K mainGlobals "WireTree" = some (some (.ref C)))
    (gcS : PySem.W.nsIn K mainGlobals "SignoffError" = some (some (.ref S)))
    (gcWC : PySem.W.nsIn K mainGlobals "WrongCount" = some (some (.ref WC)))
    (gcBA : PySem.W.nsIn K mainGlobals "BadArgument" = some (some (.ref BA)))
    (a_i : PySem.W.findIn K (.ref C) "__init__" = some (some (.ref f_i)))
    (i_i : PySem.W.isFn K (.ref f_i) = true)
    (l_i : K.lookup f_i = some ⟨oc_i, od_i, .func (PySem.W.fnOf "__init__" "WireTree.__init__" (defArgs sInit) (defBody sInit) (defScope sInit) .none kV_i dc_i pm_i an_i cd_i ct_i), sl_i⟩)
    (c_i : PySem.W.codeIn K cd_i "WireTree.__init__" = true)
    (k_i : PySem.W.keepIn K (.ref f_i) = true)
    (a_c : PySem.W.findIn K (.ref C) "check_node" = some (some (.ref f_c)))
    (i_c : PySem.W.isFn K (.ref f_c) = true)
    (l_c : K.lookup f_c = some ⟨oc_c, od_c, .func (PySem.W.fnOf "check_node" "WireTree.check_node" (defArgs sCheck) (defBody sCheck) (defScope sCheck) .none kV_c dc_c pm_c an_c cd_c ct_c), sl_c⟩)
    (c_c : PySem.W.codeIn K cd_c "WireTree.check_node" = true)
    (k_c : PySem.W.keepIn K (.ref f_c) = true)
    (a_p : PySem.W.findIn K (.ref C) "path" = some (some (.ref f_p)))
    (i_p : PySem.W.isFn K (.ref f_p) = true)
    (l_p : K.lookup f_p = some ⟨oc_p, od_p, .func (PySem.W.fnOf "path" "WireTree.path" (defArgs sPathM) (defBody sPathM) (defScope sPathM) .none kV_p dc_p pm_p an_p cd_p ct_p), sl_p⟩)
    (c_p : PySem.W.codeIn K cd_p "WireTree.path" = true)
    (k_p : PySem.W.keepIn K (.ref f_p) = true)
    (a_b : PySem.W.findIn K (.ref C) "below" = some (some (.ref f_b)))
    (i_b : PySem.W.isFn K (.ref f_b) = true)
    (l_b : K.lookup f_b = some ⟨oc_b, od_b, .func (PySem.W.fnOf "below" "WireTree.below" (defArgs sBelow) (defBody sBelow) (defScope sBelow) .none kV_b dc_b pm_b an_b cd_b ct_b), sl_b⟩)
    (c_b : PySem.W.codeIn K cd_b "WireTree.below" = true)
    (k_b : PySem.W.keepIn K (.ref f_b) = true)
    (a_d : PySem.W.findIn K (.ref C) "delay" = some (some (.ref f_d)))
    (i_d : PySem.W.isFn K (.ref f_d) = true)
    (l_d : K.lookup f_d = some ⟨oc_d, od_d, .func (PySem.W.fnOf "delay" "WireTree.delay" (defArgs sDelayM) (defBody sDelayM) (defScope sDelayM) .none kV_d dc_d pm_d an_d cd_d ct_d), sl_d⟩)
    (c_d : PySem.W.codeIn K cd_d "WireTree.delay" = true)
    (k_d : PySem.W.keepIn K (.ref f_d) = true)
    (a_r : PySem.W.findIn K (.ref C) "delay_range" = some (some (.ref f_r)))
    (i_r : PySem.W.isFn K (.ref f_r) = true)
    (l_r : K.lookup f_r = some ⟨oc_r, od_r, .func (PySem.W.fnOf "delay_range" "WireTree.delay_range" (defArgs sRange) (defBody sRange) (defScope sRange) .none (.ref kD) dc_r pm_r an_r cd_r ct_r), sl_r⟩)
    (c_r : PySem.W.codeIn K cd_r "WireTree.delay_range" = true)
    (k_r : PySem.W.keepIn K (.ref f_r) = true)
    (a_P : PySem.W.nsIn K mainGlobals "_law_pool" = some (some (.ref f_P)))
    (l_P : K.lookup f_P = some ⟨oc_P, od_P, .func (PySem.W.fnOf "_law_pool" "_law_pool" (defArgs sPool) (defBody sPool) (defScope sPool) .none kV_P dc_P pm_P an_P cd_P ct_P), sl_P⟩)
    (c_P : PySem.W.codeIn K cd_P "_law_pool" = true)
    (k_P : PySem.W.keepIn K (.ref f_P) = true)
    (a_S : PySem.W.nsIn K mainGlobals "_law_spread" = some (some (.ref f_S)))
    (l_S : K.lookup f_S = some ⟨oc_S, od_S, .func (PySem.W.fnOf "_law_spread" "_law_spread" (defArgs sSpread) (defBody sSpread) (defScope sSpread) .none kV_S dc_S pm_S an_S cd_S ct_S), sl_S⟩)
    (c_S : PySem.W.codeIn K cd_S "_law_spread" = true)
    (k_S : PySem.W.keepIn K (.ref f_S) = true)
    (a_D : PySem.W.nsIn K mainGlobals "_law_draw" = some (some (.ref f_D)))
    (l_D : K.lookup f_D = some ⟨oc_D, od_D, .func (PySem.W.fnOf "_law_draw" "_law_draw" (defArgs sDraw) (defBody sDraw) (defScope sDraw) .none kV_D dc_D pm_D an_D cd_D ct_D), sl_D⟩)
    (c_D : PySem.W.codeIn K cd_D "_law_draw" = true)
    (k_D : PySem.W.keepIn K (.ref f_D) = true)
    (a_E : PySem.W.nsIn K mainGlobals "_law_same" = some (some (.ref f_E)))
    (l_E : K.lookup f_E = some ⟨oc_E, od_E, .func (PySem.W.fnOf "_law_same" "_law_same" (defArgs sSame) (defBody sSame) (defScope sSame) .none kV_E dc_E pm_E an_E cd_E ct_E), sl_E⟩)
    (c_E : PySem.W.codeIn K cd_E "_law_same" = true)
    (k_E : PySem.W.keepIn K (.ref f_E) = true)
    (a_G : PySem.W.nsIn K mainGlobals "_law_segments" = some (some (.ref f_G)))
    (l_G : K.lookup f_G = some ⟨oc_G, od_G, .func (PySem.W.fnOf "_law_segments" "_law_segments" (defArgs sSegs) (defBody sSegs) (defScope sSegs) .none kV_G dc_G pm_G an_G cd_G ct_G), sl_G⟩)
    (c_G : PySem.W.codeIn K cd_G "_law_segments" = true)
    (k_G : PySem.W.keepIn K (.ref f_G) = true)
    (a_H : PySem.W.nsIn K mainGlobals "_law_path" = some (some (.ref f_H)))
    (l_H : K.lookup f_H = some ⟨oc_H, od_H, .func (PySem.W.fnOf "_law_path" "_law_path" (defArgs sPath) (defBody sPath) (defScope sPath) .none kV_H dc_H pm_H an_H cd_H ct_H), sl_H⟩)
    (c_H : PySem.W.codeIn K cd_H "_law_path" = true)
    (k_H : PySem.W.keepIn K (.ref f_H) = true)
    (a_L : PySem.W.nsIn K mainGlobals "_law_delay" = some (some (.ref f_L)))
    (l_L : K.lookup f_L = some ⟨oc_L, od_L, .func (PySem.W.fnOf "_law_delay" "_law_delay" (defArgs sDelay) (defBody sDelay) (defScope sDelay) .none kV_L dc_L pm_L an_L cd_L ct_L), sl_L⟩)
    (c_L : PySem.W.codeIn K cd_L "_law_delay" = true)
    (k_L : PySem.W.keepIn K (.ref f_L) = true)
    (a_R : PySem.W.nsIn K mainGlobals "_law_refused" = some (some (.ref f_R)))
    (l_R : K.lookup f_R = some ⟨oc_R, od_R, .func (PySem.W.fnOf "_law_refused" "_law_refused" (defArgs sRefused) (defBody sRefused) (defScope sRefused) .none kV_R dc_R pm_R an_R cd_R ct_R), sl_R⟩)
    (c_R : PySem.W.codeIn K cd_R "_law_refused" = true)
    (k_R : PySem.W.keepIn K (.ref f_R) = true)
    (a_T : PySem.W.nsIn K mainGlobals "_law_within" = some (some (.ref f_T)))
    (l_T : K.lookup f_T = some ⟨oc_T, od_T, .func (PySem.W.fnOf "_law_within" "_law_within" (defArgs sWithin) (defBody sWithin) (defScope sWithin) .none kV_T dc_T pm_T an_T cd_T ct_T), sl_T⟩)
    (c_T : PySem.W.codeIn K cd_T "_law_within" = true)
    (k_T : PySem.W.keepIn K (.ref f_T) = true)
    (a_Z : PySem.W.nsIn K mainGlobals "law" = some (some (.ref f_Z)))
    (l_Z : K.lookup f_Z = some ⟨oc_Z, od_Z, .func (PySem.W.fnOf "law" "law" (defArgs sLaw) (defBody sLaw) (defScope sLaw) .none kV_Z dc_Z pm_Z an_Z cd_Z ct_Z), sl_Z⟩)
    (c_Z : PySem.W.codeIn K cd_Z "law" = true)
    (k_Z : PySem.W.keepIn K (.ref f_Z) = true)
    (un : PySem.W.nsIn K kD "unit" = some (some (.int 1 tu)))
    (z_int : PySem.W.nsIn K mainGlobals "int" = some none)
    (z_list : PySem.W.nsIn K mainGlobals "list" = some none)
    (z_range : PySem.W.nsIn K mainGlobals "range" = some none)
    (z_len : PySem.W.nsIn K mainGlobals "len" = some none)
    (z_isinstance : PySem.W.nsIn K mainGlobals "isinstance" = some none)
    (z_tuple : PySem.W.nsIn K mainGlobals "tuple" = some none)
    (z_bool : PySem.W.nsIn K mainGlobals "bool" = some none)
    (z_sum : PySem.W.nsIn K mainGlobals "sum" = some none)
    (z_enumerate : PySem.W.nsIn K mainGlobals "enumerate" = some none)
    (z_str : PySem.W.nsIn K mainGlobals "str" = some none)
    (cpg : PySem.W.plainGet K C Str.empty = true)
    (chd : PySem.W.hasDictIn K C = true)
    (cpo : PySem.W.plainOver K C = true)
    (csa : PySem.W.findIn K (.ref C) "__setattr__" = some (some (.builtin "object.__setattr__")))
    (cmk : PySem.W.makesIn K C = true)
    (ckc : PySem.W.keepIn K (.ref C) = true)
    (nP : PySem.W.findIn K (.ref C) "_parents" = some none)
    (nR : PySem.W.findIn K (.ref C) "_resistances" = some none)
    (nC : PySem.W.findIn K (.ref C) "_capacitances" = some none)
    (Sb : PySem.W.subIn K (.ref S) (.type "BaseException") = some true)
    (Sd : PySem.W.hasDictIn K S = true)
    (St : PySem.W.typeIn K (.ref S) = some (.type "type"))
    (WCx : PySem.W.excIn K WC [.type "ValueError", .type "Exception", .type "BaseException", .type "object"] "ValueError.__new__" = true)
    (WCk : PySem.W.keepIn K (.ref WC) = true)
    (WCb : PySem.W.subIn K (.ref WC) (.type "BaseException") = some true)
    (WCt : PySem.W.typeIn K (.ref WC) = some (.type "type"))
    (WCs : PySem.W.subIn K (.ref WC) (.ref S) = some true)
    (WCg : PySem.W.findIn K (.ref WC) "__getattribute__" = some (some (.builtin "BaseException.__getattribute__")))
    (WCh : PySem.W.findIn K (.ref WC) "__getattr__" = some none)
    (WCd : PySem.W.hasDictIn K WC = true)
    (WCa : PySem.W.findIn K (.ref WC) "__class__" = some (some (.builtin "object.__class__")))
    (WCm : PySem.W.mroIn K WC (.type "object") = some true)
    (WCo : PySem.W.subIn K (.ref WC) (.ref BA) = some false)
    (BAx : PySem.W.excIn K BA [.type "ValueError", .type "Exception", .type "BaseException", .type "object"] "ValueError.__new__" = true)
    (BAk : PySem.W.keepIn K (.ref BA) = true)
    (BAb : PySem.W.subIn K (.ref BA) (.type "BaseException") = some true)
    (BAt : PySem.W.typeIn K (.ref BA) = some (.type "type"))
    (BAs : PySem.W.subIn K (.ref BA) (.ref S) = some true)
    (BAg : PySem.W.findIn K (.ref BA) "__getattribute__" = some (some (.builtin "BaseException.__getattribute__")))
    (BAh : PySem.W.findIn K (.ref BA) "__getattr__" = some none)
    (BAd : PySem.W.hasDictIn K BA = true)
    (BAa : PySem.W.findIn K (.ref BA) "__class__" = some (some (.builtin "object.__class__")))
    (BAm : PySem.W.mroIn K BA (.type "object") = some true)
    (BAo : PySem.W.subIn K (.ref BA) (.ref WC) = some false)
    (neq : ¬ WC = BA)
    (oc_n : PySem.W.specialIn K (.builtin "object.__class__") "__get__" = some (some (.builtin "getset_descriptor.__get__")))
    (oc_t : PySem.W.takesIn K (.builtin "object.__class__") = some true) :
    ∃ fd : FuncData, (∀ (s : Shared) (v : Value), BindsTo s fd ⟨[v], []⟩ [("_law_script", v)]) ∧ ∀ base : Heap, K.In base → base.Ns mainGlobals mg → FnOk P w K mg base CX0 7 fa fd ["_law_script"] (spLaw K) := by
  have e := hfa.symm.trans (PySem.W.mg_of X G a_Z)
  cases e
  have B : Bl mg := ⟨PySem.W.mg_none_of X G z_int, PySem.W.mg_none_of X G z_list, PySem.W.mg_none_of X G z_range, PySem.W.mg_none_of X G z_len, PySem.W.mg_none_of X G z_isinstance, PySem.W.mg_none_of X G z_tuple, PySem.W.mg_none_of X G z_bool, PySem.W.mg_none_of X G z_sum, PySem.W.mg_none_of X G z_enumerate⟩
  have zs := PySem.W.mg_none_of X G z_str
  have T : Tr K mg C := ⟨⟨cpg, chd, cpo, csa⟩, nP, nR, nC, PySem.W.mg_of X G gcC⟩
  have EWC : Er K mg "WrongCount" WC := ⟨PySem.W.mg_of X G gcWC, WCx, WCk, WCb, WCt⟩
  have AWC : Ask K S WC BA WC true false := ⟨PySem.W.exm_ref Sb Sd St WCs, ⟨WCg, WCh, WCb, WCd, WCa, oc_n, oc_t, WCm⟩, kit_self, kit_other neq BAd BAt WCo⟩
  have EBA : Er K mg "BadArgument" BA := ⟨PySem.W.mg_of X G gcBA, BAx, BAk, BAb, BAt⟩
  have ABA : Ask K S WC BA BA false true := ⟨PySem.W.exm_ref Sb Sd St BAs, ⟨BAg, BAh, BAb, BAd, BAa, oc_n, oc_t, BAm⟩, kit_other (fun q => neq q.symm) WCd WCt BAo, kit_self⟩
  have F_i := fun_mk (st := sInit) l_i c_i k_i
  have b_i := F_i.binds (ps := ["self", "segments"]) fun _ _ _ _ _ _ us hl => match us, hl with | [_, _], _ => rfl
  have F_c := fun_mk (st := sCheck) l_c c_c k_c
  have b_c := F_c.binds (ps := ["self", "node"]) fun _ _ _ _ _ _ us hl => match us, hl with | [_, _], _ => rfl
  have F_p := fun_mk (st := sPathM) l_p c_p k_p
  have b_p := F_p.binds (ps := ["self", "node"]) fun _ _ _ _ _ _ us hl => match us, hl with | [_, _], _ => rfl
  have F_b := fun_mk (st := sBelow) l_b c_b k_b
  have b_b := F_b.binds (ps := ["self", "node"]) fun _ _ _ _ _ _ us hl => match us, hl with | [_, _], _ => rfl
  have F_d := fun_mk (st := sDelayM) l_d c_d k_d
  have b_d := F_d.binds (ps := ["self", "node", "resistances", "capacitances"]) fun _ _ _ _ _ _ us hl => match us, hl with | [_, _, _, _], _ => rfl
  have F_r : FunR K f_r _ := ⟨⟨oc_r, od_r, .none, .ref kD, dc_r, pm_r, an_r, cd_r, ct_r, sl_r, rfl, l_r, c_r, Or.inl ⟨rfl, rfl⟩, Or.inr ⟨kD, rfl, fun q hq => by
    rw [List.mem_singleton.mp hq]
    exact ⟨_, un, ⟨tu, rfl⟩⟩⟩⟩, k_r⟩
  obtain ⟨dR, vR, bR⟩ := binds_range F_r
  obtain ⟨mv, kR⟩ := kbinds_range F_r
  have F_P := fun_mk (st := sPool) l_P c_P k_P
  have b_P := F_P.binds (ps := ["_law_script"]) fun _ _ _ _ _ _ us hl => match us, hl with | [_], _ => rfl
  have F_S := fun_mk (st := sSpread) l_S c_S k_S
  have b_S := F_S.binds (ps := ["_law_cell"]) fun _ _ _ _ _ _ us hl => match us, hl with | [_], _ => rfl
  have F_D := fun_mk (st := sDraw) l_D c_D k_D
  have b_D := F_D.binds (ps := ["_law_pool_here", "_law_many"]) fun _ _ _ _ _ _ us hl => match us, hl with | [_, _], _ => rfl
  have F_E := fun_mk (st := sSame) l_E c_E k_E
  have b_E := F_E.binds (ps := ["_law_actual", "_law_due"]) fun _ _ _ _ _ _ us hl => match us, hl with | [_, _], _ => rfl
  have F_G := fun_mk (st := sSegs) l_G c_G k_G
  have b_G := F_G.binds (ps := ["_law_pool_here", "_law_most"]) fun _ _ _ _ _ _ us hl => match us, hl with | [_, _], _ => rfl
  have F_H := fun_mk (st := sPath) l_H c_H k_H
  have b_H := F_H.binds (ps := ["_law_segments_here", "_law_node"]) fun _ _ _ _ _ _ us hl => match us, hl with | [_, _], _ => rfl
  have F_L := fun_mk (st := sDelay) l_L c_L k_L
  have b_L := F_L.binds (ps := ["_law_segments_here", "_law_node", "_law_resistances", "_law_capacitances"]) fun _ _ _ _ _ _ us hl => match us, hl with | [_, _, _, _], _ => rfl
  have F_R := fun_mk (st := sRefused) l_R c_R k_R
  have b_R := F_R.binds (ps := ["_law_tree", "_law_node", "_law_first", "_law_second", "_law_unit"]) fun _ _ _ _ _ _ us hl => match us, hl with | [_, _, _, _, _], _ => rfl
  have F_T := fun_mk (st := sWithin) l_T c_T k_T
  have b_T := F_T.binds (ps := ["_law_pool_here", "_law_pairs"]) fun _ _ _ _ _ _ us hl => match us, hl with | [_, _], _ => rfl
  have F_Z := fun_mk (st := sLaw) l_Z c_Z k_Z
  have g_P := PySem.W.mg_of X G a_P
  have g_S := PySem.W.mg_of X G a_S
  have g_D := PySem.W.mg_of X G a_D
  have g_E := PySem.W.mg_of X G a_E
  have g_G := PySem.W.mg_of X G a_G
  have g_H := PySem.W.mg_of X G a_H
  have g_L := PySem.W.mg_of X G a_L
  have g_R := PySem.W.mg_of X G a_R
  have g_T := PySem.W.mg_of X G a_T
  have g_Z := PySem.W.mg_of X G a_Z
  refine ⟨PySem.W.fnOf "law" "law" (defArgs sLaw) (defBody sLaw) (defScope sLaw) .none kV_Z dc_Z pm_Z an_Z cd_Z ct_Z, fun s v => .of_eq rfl, fun base _ _ => ?_⟩
  have mC : Meth K C "check_node" f_c := ⟨a_c, i_c, k_c⟩
  have mP : Meth K C "path" f_p := ⟨a_p, i_p, k_p⟩
  have mB : Meth K C "below" f_b := ⟨a_b, i_b, k_b⟩
  have mD : Meth K C "delay" f_d := ⟨a_d, i_d, k_d⟩
  have mR : Meth K C "delay_range" f_r := ⟨a_r, i_r, k_r⟩
  have GD := ok_draw (P := P) (w := w) (base := base) F_D B F_S b_S g_S
  have GdM := ok_delayM (P := P) (w := w) (base := base) F_d B T EWC F_c b_c mC F_p b_p mP F_b b_b mB
  have GrM := ok_range (P := P) (w := w) (base := base) F_r B T EBA F_c b_c mC b_d mD GdM
  exact ok_law F_Z
    { B := B, T := T,
      pool := ⟨f_P, _, g_P, k_P, b_P, ok_pool F_P B⟩, segs := ⟨f_G, _, g_G, k_G, b_G, ok_segs F_G B g_D k_D b_D GD⟩, draw := ⟨f_D, _, g_D, k_D, b_D, GD⟩, dly := ⟨f_L, _, g_L, k_L, b_L, ok_delay F_L B g_H F_H b_H⟩,
      sameI := ⟨f_E, _, g_E, k_E, b_E, ok_sameI F_E B zs⟩, sameT := ⟨f_E, _, g_E, k_E, b_E, ok_sameT F_E B zs g_E b_E⟩, within := ⟨f_T, _, g_T, k_T, b_T, ok_within F_T g_D k_D b_D GD⟩,
      refused := ⟨f_R, _, g_R, k_R, b_R, ok_refused F_R B T (PySem.W.mg_of X G gcS) EWC EBA AWC ABA b_d mD GdM kR (fun _ _ _ => rfl) mR GrM⟩,
      fI := f_i, fdI := _, MT := ⟨cmk, a_i, i_i, ckc⟩, bI := b_i, GI := ok_init F_i B T, fD := f_d, fdD := _, mD := mD, bD := b_d, GD := GdM,
      fR := f_r, fdR := _, mR := mR, dR := dR, vR := vR, bR := bR, gk := _, gV := _, kR := kR, hgV := fun _ _ _ => rfl, GR := GrM }
theorem walk {l : PySem.W.OpenLaw} {q : Program} {loose : List Str} {XP : (Str → Option Value) → Heap → Prop} {YP : World → Heap → Prop} {d : DefRec} {K : Params → PySem.W.Frag} (hn : l.most = some 63) (hdf : d.params.defaults = [])
    (hY : ∀ (w : World) (h : Heap), YP w h → (K w.params).In h)
    (F : ∀ (w : World) (mg : Str → Option Value) (fa : Addr) (h : Heap), (K w.params).In h → h.Ns mainGlobals mg → mg d.name = some (.ref fa) →
      ∃ fd : FuncData, (∀ (s : Shared) (u : Value), BindsTo s fd ⟨[u], []⟩ [("_law_script", u)]) ∧ ∀ base : Heap, (K w.params).In base → base.Ns mainGlobals mg → FnOk l.prog w (K w.params) mg base CX0 7 fa fd ["_law_script"] (spLaw (K w.params))) :
    PySem.W.WalkO q loose XP YP l.row.toRowW d [] (fun f vs => PySem.call f vs) :=
  L2.walk_of (n := 63) (k := 7) (x := "_law_script") (CX := fun _ => CX0) (sp := fun w => spLaw (K w.params)) hn (by decide) hdf ⟨rfl, by decide, by decide⟩ hY F (fun _ _ a ns hl _ hS => ⟨a, ns, rfl, hS, hl, fun _ => rfl⟩) fun _ _ _ _ _ z => z
end K29
open PySem PySem.W PyProof.Rows
set_option maxRecDepth 100000 in
set_option maxHeartbeats 0 in
theorem PySem.Challenge.cw_signoff_k29_whole_delays_of_wires_holds : PySem.Challenge.rw_signoff_k29_whole_delays_of_wires.Holds := by
  w_on; o_law; k_head; (case hw => w_witness2)
  k_fill
  refine K29.walk (l := PySem.Challenge.rw_signoff_k29_whole_delays_of_wires) rfl rfl (fun w h Y => PySem.W.kIn_of Y) ?F
  case F =>
    intro w mg fa h KX G hmg
    refine' K29.all_mk KX G hmg ?gcC ?gcS ?gcWC ?gcBA ?a_i ?i_i ?l_i ?c_i ?k_i ?a_c ?i_c ?l_c ?c_c ?k_c ?a_p ?i_p ?l_p ?c_p ?k_p ?a_b ?i_b ?l_b ?c_b ?k_b ?a_d ?i_d ?l_d ?c_d ?k_d ?a_r ?i_r ?l_r ?c_r ?k_r ?a_P ?l_P ?c_P ?k_P ?a_S ?l_S ?c_S ?k_S ?a_D ?l_D ?c_D ?k_D ?a_E ?l_E ?c_E ?k_E ?a_G ?l_G ?c_G ?k_G ?a_H ?l_H ?c_H ?k_H ?a_L ?l_L ?c_L ?k_L ?a_R ?l_R ?c_R ?k_R ?a_T ?l_T ?c_T ?k_T ?a_Z ?l_Z ?c_Z ?k_Z ?un ?z_int ?z_list ?z_range ?z_len ?z_isinstance ?z_tuple ?z_bool ?z_sum ?z_enumerate ?z_str ?cpg ?chd ?cpo ?csa ?cmk ?ckc ?nP ?nR ?nC ?Sb ?Sd ?St ?WCx ?WCk ?WCb ?WCt ?WCs ?WCg ?WCh ?WCd ?WCa ?WCm ?WCo ?BAx ?BAk ?BAb ?BAt ?BAs ?BAg ?BAh ?BAd ?BAa ?BAm ?BAo ?neq ?oc_n ?oc_t
    (case gcC => k_is)
    (case gcS => k_is)
    (case gcWC => k_is)
    (case gcBA => k_is)
    (case a_i => k_is)
    (case i_i => k_is)
    (case l_i => k_is)
    (case c_i => k_is)
    (case k_i => k_is)
    (case a_c => k_is)
    (case i_c => k_is)
    (case l_c => k_is)
    (case c_c => k_is)
    (case k_c => k_is)
    (case a_p => k_is)
    (case i_p => k_is)
    (case l_p => k_is)
    (case c_p => k_is)
    (case k_p => k_is)
    (case a_b => k_is)
    (case i_b => k_is)
    (case l_b => k_is)
    (case c_b => k_is)
    (case k_b => k_is)
    (case a_d => k_is)
    (case i_d => k_is)
    (case l_d => k_is)
    (case c_d => k_is)
    (case k_d => k_is)
    (case a_r => k_is)
    (case i_r => k_is)
    (case l_r => k_is)
    (case c_r => k_is)
    (case k_r => k_is)
    (case a_P => k_is)
    (case l_P => k_is)
    (case c_P => k_is)
    (case k_P => k_is)
    (case a_S => k_is)
    (case l_S => k_is)
    (case c_S => k_is)
    (case k_S => k_is)
    (case a_D => k_is)
    (case l_D => k_is)
    (case c_D => k_is)
    (case k_D => k_is)
    (case a_E => k_is)
    (case l_E => k_is)
    (case c_E => k_is)
    (case k_E => k_is)
    (case a_G => k_is)
    (case l_G => k_is)
    (case c_G => k_is)
    (case k_G => k_is)
    (case a_H => k_is)
    (case l_H => k_is)
    (case c_H => k_is)
    (case k_H => k_is)
    (case a_L => k_is)
    (case l_L => k_is)
    (case c_L => k_is)
    (case k_L => k_is)
    (case a_R => k_is)
    (case l_R => k_is)
    (case c_R => k_is)
    (case k_R => k_is)
    (case a_T => k_is)
    (case l_T => k_is)
    (case c_T => k_is)
    (case k_T => k_is)
    (case a_Z => k_is)
    (case l_Z => k_is)
    (case c_Z => k_is)
    (case k_Z => k_is)
    (case un => k_is)
    (case z_int => k_is)
    (case z_list => k_is)
    (case z_range => k_is)
    (case z_len => k_is)
    (case z_isinstance => k_is)
    (case z_tuple => k_is)
    (case z_bool => k_is)
    (case z_sum => k_is)
    (case z_enumerate => k_is)
    (case z_str => k_is)
    (case cpg => k_is)
    (case chd => k_is)
    (case cpo => k_is)
    (case csa => k_is)
    (case cmk => k_is)
    (case ckc => k_is)
    (case nP => k_is)
    (case nR => k_is)
    (case nC => k_is)
    (case Sb => k_is)
    (case Sd => k_is)
    (case St => k_is)
    (case WCx => k_exc)
    (case WCk => k_is)
    (case WCb => k_is)
    (case WCt => k_is)
    (case WCs => k_is)
    (case WCg => k_is)
    (case WCh => k_is)
    (case WCd => k_is)
    (case WCa => k_is)
    (case WCm => k_is)
    (case WCo => k_is)
    (case BAx => k_exc)
    (case BAk => k_is)
    (case BAb => k_is)
    (case BAt => k_is)
    (case BAs => k_is)
    (case BAg => k_is)
    (case BAh => k_is)
    (case BAd => k_is)
    (case BAa => k_is)
    (case BAm => k_is)
    (case BAo => k_is)
    (case neq => decide)
    (case oc_n => k_is)
    (case oc_t => k_is)
#print axioms PySem.Challenge.cw_signoff_k29_whole_delays_of_wires_holds
