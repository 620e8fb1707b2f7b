import PyProof.Rows.All
import Wide.All
import OpenK.AllK
import Wide.FinOn
import HandS.ForMost
import HandS.Defaults
import HandS.Property
import HandS.ClsMeth
import HandS.TupSets
import HandS.Codes
import PySem.Challenge.RW_viewloom_k38_whole_no_lane_waits_longer
set_option Elab.async false
set_option maxRecDepth 100000
set_option maxHeartbeats 4000000
/-! The law k38 of viewloom: a schedule that is worked as a root works it. 0 two rules; 1 the mathematics; 2, 3 the class Schedule; 4 to 6 the law's defs; 7 the end. -/
/-! ## 0. Two more rules: a method called with keywords, `in` by an own __contains__ -/
namespace Vl
open PySem L2
section
variable {X : Cx} {CX : CXT} {k n : Nat} {f C : Addr} {fd : FuncData} {ps ks : List Str} {sp : Sp} {E : XK} {m : Str} {pos apos : Pos} {o e : Expr} {es : List Expr} {kws : List Keyword} {ta : TE} {t tk : TA} {g : List Value → List Value → List Value} {gV : List V → List V → List V}
/-- o.m(.., k = v, ..) of an instance of the class at C -/
def tMethN (C : Addr) (m : Str) (n j : Nat) (sp : Sp) (gV : List V → List V → List V) (E : XK) (ta : TE) (t tk : TA) : TE := fun σ H Q => ta σ H fun x H1 => ∃ a dx fs, x = .ref a ∧ H1 a = some (.ins C dx fs) ∧ fs.lookup m = none ∧
  t σ H1 fun vs H2 => tk σ H2 fun zs H3 => (x :: vs).length = n ∧ zs.length = j ∧ sp (gV (x :: vs) zs) H3 Q E
theorem pe_methN {pl : Sem Bool} (he : PE X o ta) (c : Cls X.K C) (hm : Meth X.K C m f) (F : FnOk X.prog X.w X.K X.mg X.base CX k f fd ps sp) (hr : Room k X.A) (hb : KBn X.K fd ps n ks g gV) (hx : Passes CX X E) (ha : PA X (e :: es) t) (hkw : PK X kws tk)
    (hall : (backToKw pos (keywordEach kws X.env)).all (·.1.isSome) = true := by rfl) (hks : (backToKw pos (keywordEach kws X.env)).filterMap (·.1) = ks := by rfl)
    (hst : starEach (e :: es) X.env = (false, eval e X.env) :: starEach es X.env := by rfl)
    (hpl : ((backTo pos (starEach (e :: es) X.env)).any (·.1) || (backToKw pos (keywordEach kws X.env)).any (·.1.isNone)) = false := by rfl)
    (ht : eval (.Call (.Attribute o m apos) (e :: es) kws pos) X.env = (do
      let ov ← eval o X.env
      standAt apos.atName
      let (f, first) ← holding [ov] (getMethod ov m pl)
      callWith pos f first (backTo pos (starEach (e :: es) X.env)) (backToKw pos (keywordEach kws X.env))) := by rfl) :
    PE X (.Call (.Attribute o m apos) (e :: es) kws pos) (tMethN C m n ks.length sp gV E ta t tk) := by
  refine ⟨fun pins s σ H Q I h => ?_⟩
  refine PySem.W.methodCall_KW (pl := pl) (L2.thn (he.run pins s σ H _ I h) fun u s1 ⟨x, H1, I1, rx, a, dx, fs, ex, ea, l, q⟩ => ?_) ht
  subst ex
  obtain rfl : u = Value.ref a := rx
  refine getmeth_ok I1 ea c hm l ?_
  refine PySem.W.callWith_KW (first := [.ref a]) (h₀ := X.base) I.ok.mod.kin hm.kp hall (L2.thn (ha.run pos pins s1 σ H1 _ I1 q) fun us s2 ⟨vs, H2, I2, r, q2⟩ => ?_) hpl hst
  refine L2.thn (hkw.run pos pins s2 σ H2 _ I2 q2) fun ws s3 ⟨zs, H3, I3, rz, l1, l2, q3⟩ => ⟨I3.kIn, ?_⟩
  rw [hks]
  exact run_fnN (us := .ref a :: us) (vs := .ref a :: vs) F hr hb hx I3 (.cons rfl r) rz l1 l2 q3
/-- o.m(k = v, ..) -/
theorem pe_methN0 {pl : Sem Bool} (he : PE X o ta) (c : Cls X.K C) (hm : Meth X.K C m f) (F : FnOk X.prog X.w X.K X.mg X.base CX k f fd ps sp) (hr : Room k X.A) (hb : KBn X.K fd ps n ks g gV) (hx : Passes CX X E) (hkw : PK X kws tk)
    (hall : (backToKw pos (keywordEach kws X.env)).all (·.1.isSome) = true := by rfl) (hks : (backToKw pos (keywordEach kws X.env)).filterMap (·.1) = ks := by rfl)
    (hpl : ((backTo pos (starEach [] X.env)).any (·.1) || (backToKw pos (keywordEach kws X.env)).any (·.1.isNone)) = false := by rfl)
    (ht : eval (.Call (.Attribute o m apos) [] kws pos) X.env = (do
      let ov ← eval o X.env
      standAt apos.atName
      let (f, first) ← holding [ov] (getMethod ov m pl)
      callWith pos f first (backTo pos (starEach [] X.env)) (backToKw pos (keywordEach kws X.env))) := by rfl) :
    PE X (.Call (.Attribute o m apos) [] kws pos) (tMethN C m n ks.length sp gV E ta tNil tk) := by
  refine ⟨fun pins s σ H Q I h => ?_⟩
  refine PySem.W.methodCall_KW (pl := pl) (L2.thn (he.run pins s σ H _ I h) fun u s1 ⟨x, H1, I1, rx, a, dx, fs, ex, ea, l, q⟩ => ?_) ht
  subst ex
  obtain rfl : u = Value.ref a := rx
  refine getmeth_ok I1 ea c hm l ?_
  refine PySem.W.callWith_KW0 (first := [.ref a]) (h₀ := X.base) I.ok.mod.kin hm.kp hall ?_ hpl
  refine L2.thn (hkw.run pos pins s1 σ H1 _ I1 q) fun ws s3 ⟨zs, H3, I3, rz, l1, l2, q3⟩ => ⟨I3.kIn, ?_⟩
  rw [hks]
  exact run_fnN (us := [.ref a]) (vs := [.ref a]) F hr hb hx I3 (.cons rfl .nil) rz l1 l2 q3
/-- x in o, o an instance of the class at C, by its own __contains__ -/
def rInOwn (C : Addr) (sp : Sp) (E : XK) : R2 := fun x y H Q => ∃ a dx fs, y = .ref a ∧ H a = some (.ins C dx fs) ∧ sp [.ref a, x] H (fun r H' => ∃ b, r = .bl b ∧ Q (.bl b) H') E
theorem op_in_own (hm : Meth X.K C "__contains__" f) (F : FnOk X.prog X.w X.K X.mg X.base CX k f fd ps sp) (hr : Room k X.A) (hb : Binds X.K fd ps []) (hx : Passes CX X E) : OpR X (compareOp .In) (rInOwn C sp E) := by
  intro pins s σ H x y v u Q I rx ry h
  obtain ⟨a, dx, fs, ey, ea, q⟩ := h
  subst ey
  obtain rfl : u = Value.ref a := ry
  obtain ⟨mA, O, _⟩ := ins_get I.hok ea
  obtain ⟨od, J, _⟩ := O.look
  obtain ⟨mm, Ff⟩ := I.fr
  refine PySem.W.in_K Ff I.ok.mod.kin J hm.at_ hm.fn ?_
  refine L2.thn (run_fn (us := [.ref a, v]) (vs := [.ref a, x]) (dvs := []) (ds := []) F hr hb .nil hx I (.cons rfl (.cons rx .nil)) q) fun r s' ⟨y', H', I', ry', b, eb, q'⟩ => ?_
  subst eb
  obtain rfl : r = Value.bool b := ry'
  exact wpAny_truthy_bool ⟨.bl b, H', I', rfl, q'⟩
end
/-- how a def without defaults binds n positional values and the keywords ks, all of them written -/
theorem kbn_of {K : PySem.W.Frag} {x qual : Str} {st : Stmt} {f : Addr} {fd : FuncData} {ps ks : List Str} {n : Nat} (F : Fun K x qual st f fd)
    (h : ∀ (kV doc pm : Value) (an : Option Addr) (cdv ct : Value) (us ws : List Value), us.length = n → ws.length = ks.length → bindArgs (PySem.W.fnOf x qual (defArgs st) (defBody st) (defScope st) .none kV doc pm an cdv ct) ⟨us, ks.zip ws⟩ = pure (ps.zip (us ++ ws))) :
    KBn K fd ps n ks (fun us ws => us ++ ws) (fun vs zs => vs ++ zs) := by
  obtain ⟨oc, od, kV, doc, pm, an, cdv, ct, osl, rfl, lk, hcd⟩ := F.ex
  exact ⟨fun s us ws _ l1 l2 => .of_eq (h kV doc pm an cdv ct us ws l1 l2), fun r1 r2 => r1.append r2⟩
end Vl

/-! ## 1. The mathematics: pending lanes as a list of (lane, tick) -/
namespace Vl
open PySem L2
abbrev PL := List (Int × Int)
def lk : PL → Int → Option Int
  | [], _ => none
  | p :: r, k => if p.1 = k then some p.2 else lk r k
def rm (ps : PL) (k : Int) : PL := ps.filter fun p => decide (p.1 ≠ k)
def rmAll (ps : PL) (ls : List Int) : PL := ls.foldl rm ps
def kvOf (ps : PL) : List (Key × V) := ps.map fun p => ((Sum.inl p.1 : Key), V.int p.2)
theorem valV_kvOf (k : Int) : ∀ ps : PL, valV (kvOf ps) (Sum.inl k : Key) = (lk ps k).map V.int
  | [] => rfl
  | p :: r => by
    show valV (((Sum.inl p.1 : Key), V.int p.2) :: kvOf r) (Sum.inl k : Key) = (if p.1 = k then some p.2 else lk r k).map V.int
    by_cases e : p.1 = k
    · rw [valV_pos (congrArg Sum.inl e), if_pos e]
      rfl
    · rw [valV_neg fun z => e (Sum.inl.inj z), if_neg e]
      exact valV_kvOf k r
theorem dropK_kvOf (k : Int) : ∀ ps : PL, dropK (kvOf ps) (Sum.inl k : Key) = kvOf (rm ps k)
  | [] => rfl
  | p :: r => by
    show dropK (((Sum.inl p.1 : Key), V.int p.2) :: kvOf r) (Sum.inl k : Key) = kvOf (rm (p :: r) k)
    by_cases e : p.1 = k
    · rw [dropK_pos (congrArg Sum.inl e), dropK_kvOf k r]
      unfold rm
      rw [List.filter_cons, if_neg (by simp [e])]
    · rw [dropK_neg fun z => e (Sum.inl.inj z), dropK_kvOf k r]
      unfold rm
      rw [List.filter_cons (x := p), if_pos (by simp [e])]
      rfl
theorem putK_kvOf {ps : PL} {k : Int} (v : Int) (h : lk ps k = none) : putK (kvOf ps) (Sum.inl k : Key) (V.int v) = kvOf (ps ++ [(k, v)]) := by
  rw [putK_new _ (by rw [valV_kvOf, h]; rfl)]
  unfold kvOf
  rw [List.map_append]
  rfl
theorem lk_rm (k j : Int) : ∀ ps : PL, lk (rm ps k) j = if j = k then none else lk ps j
  | [] => by
    show none = if j = k then none else none
    split <;> rfl
  | p :: r => by
    have ih := lk_rm k j r
    unfold rm at ih ⊢
    by_cases e : p.1 = k
    · rw [List.filter_cons, if_neg (by simp [e]), ih]
      by_cases ej : j = k
      · rw [if_pos ej, if_pos ej]
      · rw [if_neg ej, if_neg ej]
        show lk r j = if p.1 = j then some p.2 else lk r j
        rw [if_neg fun z => ej (z.symm.trans e)]
    · rw [List.filter_cons, if_pos (by simp [e])]
      show (if p.1 = j then some p.2 else lk (r.filter fun p => decide (p.1 ≠ k)) j) = if j = k then none else if p.1 = j then some p.2 else lk r j
      by_cases ep : p.1 = j
      · rw [if_pos ep, if_pos ep, if_neg fun z => e (ep.trans z)]
      · rw [if_neg ep, if_neg ep, ih]
theorem lk_rmAll (j : Int) : ∀ (ls : List Int) (ps : PL), lk (rmAll ps ls) j = if j ∈ ls then none else lk ps j
  | [], ps => by
    rw [if_neg (by simp)]
    rfl
  | k :: r, ps => by
    show lk (rmAll (rm ps k) r) j = _
    rw [lk_rmAll j r, lk_rm]
    by_cases e : j = k
    · subst e
      rw [if_pos rfl, if_pos (List.mem_cons_self ..)]
      split <;> rfl
    · rw [if_neg e]
      by_cases m : j ∈ r
      · rw [if_pos m, if_pos (List.mem_cons_of_mem _ m)]
      · rw [if_neg m, if_neg fun z => (List.mem_cons.mp z).elim e m]
theorem lk_snoc {ps : PL} {k v : Int} (h : lk ps k = none) (j : Int) : lk (ps ++ [(k, v)]) j = if j = k then some v else lk ps j := by
  induction ps with
  | nil =>
    show (if k = j then some v else none) = if j = k then some v else none
    by_cases e : j = k
    · rw [if_pos e, if_pos e.symm]
    · rw [if_neg e, if_neg fun z => e z.symm]
  | cons p r ih =>
    have h' : (if p.1 = k then some p.2 else lk r k) = none := h
    by_cases e : p.1 = k
    · rw [if_pos e] at h'
      cases h'
    · rw [if_neg e] at h'
      show (if p.1 = j then some p.2 else lk (r ++ [(k, v)]) j) = if j = k then some v else if p.1 = j then some p.2 else lk r j
      rw [ih h']
      by_cases ep : p.1 = j
      · rw [if_pos ep, if_pos ep, if_neg fun z => e (ep.trans z)]
      · rw [if_neg ep, if_neg ep]
theorem rm_none {ps : PL} {k : Int} (h : lk ps k = none) : rm ps k = ps := by
  induction ps with
  | nil => rfl
  | cons p r ih =>
    have h' : (if p.1 = k then some p.2 else lk r k) = none := h
    by_cases e : p.1 = k
    · rw [if_pos e] at h'
      cases h'
    · rw [if_neg e] at h'
      have q := ih h'
      unfold rm at q ⊢
      rw [List.filter_cons, if_pos (by simp [e]), q]
theorem lk_mem {ps : PL} {k t : Int} (h : lk ps k = some t) : (k, t) ∈ ps := by
  induction ps with
  | nil => cases h
  | cons p r ih =>
    have h' : (if p.1 = k then some p.2 else lk r k) = some t := h
    by_cases e : p.1 = k
    · rw [if_pos e] at h'
      cases h'
      rw [← e]
      exact List.mem_cons_self ..
    · rw [if_neg e] at h'
      exact List.mem_cons_of_mem _ (ih h')
theorem lk_not {ps : PL} {k : Int} (h : lk ps k = none) : k ∉ ps.map (·.1) := by
  induction ps with
  | nil => simp
  | cons p r ih =>
    have h' : (if p.1 = k then some p.2 else lk r k) = none := h
    by_cases e : p.1 = k
    · rw [if_pos e] at h'
      cases h'
    · rw [if_neg e] at h'
      intro m
      rcases List.mem_cons.mp (show k ∈ p.1 :: r.map (·.1) from m) with z | z
      · exact e z.symm
      · exact ih h' z
/-! lanes are 0 to 3, each once -/
structure Good (ps : PL) : Prop where
  nd : (ps.map (·.1)).Nodup
  rg : ∀ p ∈ ps, 0 ≤ p.1 ∧ p.1 < 4
theorem good_nil : Good [] := ⟨List.nodup_nil, fun _ h => by cases h⟩
theorem Good.at_ {ps : PL} {k t : Int} (g : Good ps) (h : lk ps k = some t) : 0 ≤ k ∧ k < 4 := g.rg _ (lk_mem h)
theorem Good.rm {ps : PL} (g : Good ps) (k : Int) : Good (rm ps k) := by
  refine ⟨?_, fun p hp => g.rg p (List.mem_filter.mp hp).1⟩
  exact List.Nodup.sublist (List.Sublist.map _ List.filter_sublist) g.nd
theorem Good.rmAll : ∀ (ls : List Int) {ps : PL}, Good ps → Good (rmAll ps ls)
  | [], _, g => g
  | k :: r, _, g => Good.rmAll r (g.rm k)
theorem Good.snoc {ps : PL} {k : Int} (v : Int) (g : Good ps) (h : lk ps k = none) (h0 : 0 ≤ k) (h4 : k < 4) : Good (ps ++ [(k, v)]) := by
  refine ⟨?_, fun p hp => ?_⟩
  · rw [List.map_append]
    exact nd_snoc g.nd (lk_not h)
  · rcases List.mem_append.mp hp with q | q
    · exact g.rg p q
    · rw [List.mem_singleton.mp q]
      exact ⟨h0, h4⟩
theorem len_rg : ∀ (n : Nat) (l : List Int), l.Nodup → (∀ x ∈ l, 0 ≤ x ∧ x < (n : Int)) → l.length ≤ n
  | 0, l, _, h => by
    cases l with
    | nil => exact Nat.le_refl _
    | cons a r =>
      obtain ⟨h1, h2⟩ := h a (List.mem_cons_self ..)
      omega
  | n + 1, l, nd, h => by
    have ih := len_rg n (l.erase (n : Int)) (nd.erase _) fun x hx => by
      obtain ⟨h1, h2⟩ := h x (List.mem_of_mem_erase hx)
      have ne : x ≠ (n : Int) := fun e => by
        rw [e] at hx
        exact (List.Nodup.mem_erase_iff nd).mp hx |>.1 rfl
      omega
    by_cases m : (n : Int) ∈ l
    · rw [List.length_erase_of_mem m] at ih
      omega
    · rw [List.erase_of_not_mem m] at ih
      omega
theorem Good.len {ps : PL} (g : Good ps) : ps.length ≤ 4 := by
  have q := len_rg 4 (ps.map (·.1)) g.nd fun x hx => by
    obtain ⟨p, hp, e⟩ := List.mem_map.mp hx
    rw [← e]
    exact g.rg p hp
  rw [List.length_map] at q
  exact q
theorem kvOf_len (ps : PL) : (kvOf ps).length = ps.length := List.length_map _
theorem kvOf_keys (ps : PL) : (kvOf ps).map (·.1) = (ps.map (·.1)).map Sum.inl := by
  unfold kvOf
  rw [List.map_map, List.map_map]
  rfl
/-! ### patience, what is overdue -/
def pats : List Int := [0, 5000, 10000, 60000]
def pat (k : Int) : Int := pats.getD k.toNat 0
theorem pat_at {k : Int} (h0 : 0 ≤ k) (h4 : k < 4) : atI (pats.map V.int) k = some (V.int (pat k)) := by
  obtain ⟨j, rfl⟩ := Int.eq_ofNat_of_zero_le h0
  have hj : j < 4 := by omega
  refine atI_nat ?_
  rcases j with _ | _ | _ | _ | j
  all_goals first | rfl | omega
def over (ps : PL) (now k : Int) : Bool := match lk ps k with
  | none => false
  | some t => decide (t + pat k ≤ now)
theorem over_none {ps : PL} {now k : Int} (h : lk ps k = none) : over ps now k = false := by
  unfold over
  rw [h]
theorem over_some {ps : PL} {now k t : Int} (h : lk ps k = some t) : over ps now k = decide (t + pat k ≤ now) := by
  unfold over
  rw [h]
theorem over_is {ps : PL} {now k : Int} (h : over ps now k = true) : (lk ps k).isSome = true := by
  cases e : lk ps k with
  | none =>
    rw [over_none e] at h
    cases h
  | some t => rfl
def NoOver (ps : PL) (now : Int) : Prop := ∀ k, over ps now k = false
theorem over_rmAll {ps : PL} {now k : Int} {ls : List Int} (h : over (rmAll ps ls) now k = true) : k ∉ ls ∧ over ps now k = true := by
  by_cases m : k ∈ ls
  · rw [over_none (by rw [lk_rmAll, if_pos m])] at h
    cases h
  · refine ⟨m, ?_⟩
    unfold over at h ⊢
    rw [lk_rmAll, if_neg m] at h
    exact h
theorem NoOver.rmAll {ps : PL} {now : Int} (h : NoOver ps now) (ls : List Int) : NoOver (rmAll ps ls) now := fun k => by
  cases e : over (Vl.rmAll ps ls) now k with
  | false => rfl
  | true =>
    have q := (over_rmAll e).2
    rw [h k] at q
    cases q
/-! ### the waited list -/
def wv (ps : PL) (k : Int) : V := match lk ps k with
  | none => .non
  | some t => .int t
def wl (ps : PL) : List V := [wv ps 0, wv ps 1, wv ps 2, wv ps 3]
theorem four {P : Int → Prop} {k : Int} (h0 : 0 ≤ k) (h4 : k < 4) (a : P 0) (b : P 1) (c : P 2) (d : P 3) : P k := by
  have e : k = 0 ∨ k = 1 ∨ k = 2 ∨ k = 3 := by omega
  rcases e with e | e | e | e <;> (subst e; assumption)
theorem wl_at (ps : PL) {k : Int} (h0 : 0 ≤ k) (h4 : k < 4) : atI (wl ps) k = some (wv ps k) :=
  four (P := fun k => atI (wl ps) k = some (wv ps k)) h0 h4 rfl rfl rfl rfl
theorem wl_ix (ps : PL) {k : Int} (h0 : 0 ≤ k) (h4 : k < 4) : ixN (wl ps).length k = some k.toNat := by
  unfold ixN
  rw [if_pos h0, if_pos (show k < (((wl ps).length : Nat) : Int) from h4)]
theorem wv_of {ps qs : PL} {k : Int} (h : lk ps k = lk qs k) : wv ps k = wv qs k := by
  unfold wv
  rw [h]
theorem wl_set {ps qs : PL} {k : Int} {v : V} (h0 : 0 ≤ k) (h4 : k < 4) (hv : v = wv qs k) (h : ∀ j, j ≠ k → lk ps j = lk qs j) : (wl ps).set k.toNat v = wl qs := by
  subst hv
  have e : k = 0 ∨ k = 1 ∨ k = 2 ∨ k = 3 := by omega
  have w : ∀ j, j ≠ k → wv ps j = wv qs j := fun j n => wv_of (h j n)
  rcases e with e | e | e | e
  · subst e
    show [wv qs 0, wv ps 1, wv ps 2, wv ps 3] = _
    rw [w 1 (by decide), w 2 (by decide), w 3 (by decide)] <;> rfl
  · subst e
    show [wv ps 0, wv qs 1, wv ps 2, wv ps 3] = _
    rw [w 0 (by decide), w 2 (by decide), w 3 (by decide)] <;> rfl
  · subst e
    show [wv ps 0, wv ps 1, wv qs 2, wv ps 3] = _
    rw [w 0 (by decide), w 1 (by decide), w 3 (by decide)] <;> rfl
  · subst e
    show [wv ps 0, wv ps 1, wv ps 2, wv qs 3] = _
    rw [w 0 (by decide), w 1 (by decide), w 2 (by decide)] <;> rfl
theorem wl_drop (ps : PL) {k : Int} (h0 : 0 ≤ k) (h4 : k < 4) : (wl ps).set k.toNat .non = wl (rm ps k) := by
  refine wl_set h0 h4 ?_ fun j n => ?_
  · unfold wv
    rw [lk_rm, if_pos rfl]
  · rw [lk_rm, if_neg n]
theorem wl_wake {ps : PL} {k now : Int} (h0 : 0 ≤ k) (h4 : k < 4) (h : lk ps k = none) : (wl ps).set k.toNat (.int now) = wl (ps ++ [(k, now)]) := by
  refine wl_set h0 h4 ?_ fun j n => ?_
  · unfold wv
    rw [lk_snoc h, if_pos rfl]
  · rw [lk_snoc h, if_neg n]
/-! ### the next pass -/
def rng4 : List Int := [0, 1, 2, 3]
theorem rng4_at {i : Nat} (h : i < 4) : rng4[i]? = some (i : Int) := by
  rcases i with _ | _ | _ | _ | i
  all_goals first | rfl | omega
theorem rng4_mem {k : Int} (h0 : 0 ≤ k) (h4 : k < 4) : k ∈ rng4 := four (P := fun k => k ∈ rng4) h0 h4 (by decide) (by decide) (by decide) (by decide)
theorem rng4_rg : ∀ k ∈ rng4, 0 ≤ k ∧ k < 4 := by decide
def pend (ps : PL) : List Int := rng4.filter fun k => (lk ps k).isSome
def overs (ps : PL) (now : Int) : List Int := (pend ps).filter (over ps now)
theorem filt_yes {α : Type} {l : List α} {f : α → Bool} {i : Nat} {x : α} (h : l[i]? = some x) (e : f x = true) : (l.take (i + 1)).filter f = (l.take i).filter f ++ [x] := by
  rw [List.take_add_one, h, List.filter_append]
  show _ ++ [x].filter f = _
  rw [List.filter_cons, if_pos e]
  rfl
theorem filt_no {α : Type} {l : List α} {f : α → Bool} {i : Nat} {x : α} (h : l[i]? = some x) (e : f x = false) : (l.take (i + 1)).filter f = (l.take i).filter f := by
  rw [List.take_add_one, h, List.filter_append]
  show _ ++ [x].filter f = _
  rw [List.filter_cons, if_neg (by rw [e]; exact Bool.false_ne_true)]
  exact List.append_nil _
theorem pend_mem {ps : PL} {k : Int} : k ∈ pend ps ↔ (0 ≤ k ∧ k < 4) ∧ (lk ps k).isSome = true := by
  unfold pend
  rw [List.mem_filter]
  exact ⟨fun h => ⟨rng4_rg k h.1, h.2⟩, fun h => ⟨rng4_mem h.1.1 h.1.2, h.2⟩⟩
theorem overs_mem {ps : PL} {now k : Int} (g : Good ps) : k ∈ overs ps now ↔ over ps now k = true := by
  unfold overs
  rw [List.mem_filter, pend_mem]
  refine ⟨fun h => h.2, fun h => ⟨?_, h⟩⟩
  have q := over_is h
  obtain ⟨t, e⟩ := Option.isSome_iff_exists.mp q
  exact ⟨g.at_ e, q⟩
theorem overs_up (ps : PL) (now : Int) : (overs ps now).Pairwise (· < ·) := by
  have h : rng4.Pairwise (· < ·) := by decide
  exact (h.filter _).filter _
theorem pend_up (ps : PL) : (pend ps).Pairwise (· < ·) := by
  have h : rng4.Pairwise (· < ·) := by decide
  exact h.filter _
/-- the lanes of a pass: all pending ones above its lowest -/
def Upper (ps : PL) (ls : List Int) : Prop := ∃ i m, ls = i ++ [m] ∧ ∀ k t, lk ps k = some t → k < m → k ∈ ls
structure PassOk (ps : PL) (now : Int) (ls : List Int) (b : Bool) : Prop where
  rg : ∀ k ∈ ls, 0 ≤ k ∧ k < 4
  up : Upper ps ls
  wh : b = true → (∃ k, over ps now k = true) ∧ NoOver (rmAll ps ls) now
  no : b = false → NoOver ps now
theorem next_none {ps : PL} {now : Int} (g : Good ps) (h : pend ps = []) : NoOver ps now := fun k => by
  cases e : over ps now k with
  | false => rfl
  | true =>
    obtain ⟨t, z⟩ := Option.isSome_iff_exists.mp (over_is e)
    have m : k ∈ pend ps := pend_mem.mpr ⟨g.at_ z, over_is e⟩
    rw [h] at m
    cases m
theorem le_last {i : List Int} {m k : Int} (h : (i ++ [m]).Pairwise (· < ·)) (hk : k ∈ i ++ [m]) : k ≤ m := by
  rcases List.mem_append.mp hk with q | q
  · have := (List.pairwise_append.mp h).2.2 k q m (List.mem_singleton.mpr rfl)
    omega
  · rw [List.mem_singleton.mp q]
    exact Int.le_refl _
theorem filt_last {l : List Int} {m : Int} (hl : l.Pairwise (· < ·)) (hm : m ∈ l) : ∃ j, l.filter (fun k => decide (k ≤ m)) = j ++ [m] := by
  induction l with
  | nil => cases hm
  | cons a r ih =>
    obtain ⟨h1, h2⟩ := List.pairwise_cons.mp hl
    rcases List.mem_cons.mp hm with e | e
    · subst e
      refine ⟨[], ?_⟩
      rw [List.filter_cons, if_pos (by simp)]
      have z : r.filter (fun k => decide (k ≤ m)) = [] := List.filter_eq_nil_iff.mpr fun x hx => by
        have := h1 x hx
        simp
        omega
      rw [z]
      rfl
    · obtain ⟨j, q⟩ := ih h2 e
      have := h1 m e
      refine ⟨a :: j, ?_⟩
      rw [List.filter_cons, if_pos (by simp; omega), q]
      rfl
theorem next_whole {ps : PL} {now m : Int} {i : List Int} (g : Good ps) (h : overs ps now = i ++ [m]) : PassOk ps now ((pend ps).filter fun k => decide (k ≤ m)) true := by
  have hm : m ∈ overs ps now := by
    rw [h]
    exact List.mem_append_right _ (List.mem_singleton.mpr rfl)
  have om := (overs_mem g).mp hm
  have pm : m ∈ pend ps := (List.mem_filter.mp hm).1
  refine ⟨fun k hk => (pend_mem.mp (List.mem_filter.mp hk).1).1, ?_, fun _ => ⟨⟨m, om⟩, fun k => ?_⟩, fun z => by cases z⟩
  · obtain ⟨j, q⟩ := filt_last (pend_up ps) pm
    refine ⟨j, m, q, fun k t hk hlt => List.mem_filter.mpr ⟨pend_mem.mpr ⟨g.at_ hk, by rw [hk]; rfl⟩, ?_⟩⟩
    simp
    omega
  · cases e : over (rmAll ps ((pend ps).filter fun k => decide (k ≤ m))) now k with
    | false => rfl
    | true =>
      obtain ⟨q1, q2⟩ := over_rmAll e
      have mk := (overs_mem g).mpr q2
      have le : k ≤ m := by
        have up := overs_up ps now
        rw [h] at up mk
        exact le_last up mk
      exact absurd (List.mem_filter.mpr ⟨(List.mem_filter.mp mk).1, by simp; omega⟩) q1
theorem next_part {ps : PL} {now a : Int} {r : List Int} (g : Good ps) (h : overs ps now = []) (hp : pend ps = a :: r) : PassOk ps now [a] false := by
  have ma : a ∈ pend ps := by
    rw [hp]
    exact List.mem_cons_self ..
  refine ⟨fun k hk => ?_, ⟨[], a, rfl, fun k t hk hlt => ?_⟩, (fun z => by cases z), fun _ k => ?_⟩
  · rw [List.mem_singleton.mp hk]
    exact (pend_mem.mp ma).1
  · have mk : k ∈ pend ps := pend_mem.mpr ⟨g.at_ hk, by rw [hk]; rfl⟩
    have up := pend_up ps
    rw [hp] at mk up
    rcases List.mem_cons.mp mk with e | e
    · omega
    · have := (List.pairwise_cons.mp up).1 k e
      omega
  · cases e : over ps now k with
    | false => rfl
    | true =>
      have mk := (overs_mem g).mpr e
      rw [h] at mk
      cases mk
theorem inV_ints (k : Int) : ∀ ls : List Int, inV (.int k) (ls.map V.int) = decide (k ∈ ls)
  | [] => rfl
  | a :: r => by
    have ih := inV_ints k r
    unfold inV at ih ⊢
    rw [List.map_cons, List.any_cons, ih, Bool.eq_iff_iff]
    show ((a == k) || decide (k ∈ r)) = true ↔ _
    simp only [Bool.or_eq_true, beq_iff_eq, decide_eq_true_eq, List.mem_cons]
    exact ⟨fun h => h.elim (fun e => .inl e.symm) .inr, fun h => h.elim (fun e => .inl e.symm) .inr⟩
theorem ints_flat : ∀ ls : List Int, (ls.map V.int).all flatV = true
  | [] => rfl
  | a :: r => by
    rw [List.map_cons, List.all_cons, ints_flat r]
    rfl
theorem at_minus {i : List Int} {m : Int} : atI ((i ++ [m]).map V.int) ((((i ++ [m]).map V.int).length : Int) - 1) = some (.int m) := by
  have e : ((((i ++ [m]).map V.int).length : Int) - 1) = ((i.length : Nat) : Int) := by
    rw [List.length_map, List.length_append]
    simp
  rw [e]
  refine atI_nat ?_
  rw [List.map_append, List.getElem?_append_right (by simp)]
  simp
end Vl

/-! ## 2. The class Schedule -/
namespace Vl
open PySem L2
/-! ### the text by places -/
def top (i : Nat) : Stmt := PySem.Challenge.pw_viewloom_k38_whole_no_lane_waits_longer.main.body.getD i (.Pass ⟨0, 0, 0, 0⟩)
abbrev sInit : Stmt := inClass (top 2) 6
abbrev sCont : Stmt := inClass (top 2) 7
abbrev sPend : Stmt := inClass (top 2) 8
abbrev sWake : Stmt := inClass (top 2) 9
abbrev sOver : Stmt := inClass (top 2) 10
abbrev sNext : Stmt := inClass (top 2) 11
abbrev sPort : Stmt := inClass (top 2) 12
abbrev sEnd : Stmt := inClass (top 2) 14
/-! ### the data -/
theorem kc : ¬ (("since" : Str) = "done") := by decide +kernel
/-- the attributes, in the order in which __init__ stores them -/
def flds (d : Addr) (z : Int) : List (Str × V) := putF "done" (.int z) (putF "since" (.ref d) [])
theorem flds_eq (d : Addr) (z : Int) : flds d z = ([("since", V.ref d), ("done", V.int z)] : List (Str × V)) := by
  show (if ("since" : Str) = "done" then [(("since" : Str), V.int z)] else (("since" : Str), V.ref d) :: putF "done" (V.int z) []) = ([("since", V.ref d), ("done", V.int z)] : List (Str × V))
  rw [if_neg kc]
  all_goals rfl
theorem flds_since (d : Addr) (z : Int) : (flds d z).lookup ("since" : Str) = some (.ref d) := by
  unfold flds
  rw [lookup_putF, if_neg kc, lookup_putF, if_pos rfl]
theorem flds_done (d : Addr) (z : Int) : (flds d z).lookup ("done" : Str) = some (.int z) := by
  unfold flds
  rw [lookup_putF, if_pos rfl]
theorem flds_no (d : Addr) (z : Int) {m : Str} (h1 : ¬ m = "done") (h2 : ¬ m = "since") : (flds d z).lookup m = none := by
  unfold flds
  rw [lookup_putF, if_neg h1, lookup_putF, if_neg h2]
  all_goals rfl
theorem flds_put (d : Addr) (z y : Int) : putF "done" (.int y) (flds d z) = flds d y := by
  rw [flds_eq, flds_eq]
  show (if ("since" : Str) = "done" then _ else (("since" : Str), V.ref d) :: (if ("done" : Str) = "done" then [(("done" : Str), V.int y)] else _)) = ([("since", V.ref d), ("done", V.int y)] : List (Str × V))
  rw [if_neg kc, if_pos rfl]
theorem flds_few (d : Addr) (z : Int) : (flds d z).length < 1000 := by
  rw [flds_eq]
  show 2 < 1000
  decide
/-- all but what stands at xs is as it was -/
def Oth (xs : List Addr) (H H' : Hp) : Prop := ∀ c o, H c = some o → c ∉ xs → H' c = some o
theorem Oth.refl {xs : List Addr} {H : Hp} : Oth xs H H := fun _ _ h _ => h
theorem Oth.trans {xs : List Addr} {H H1 H2 : Hp} (a : Oth xs H H1) (b : Oth xs H1 H2) : Oth xs H H2 := fun c o h n => b c o (a c o h n) n
theorem Oth.mono {xs ys : List Addr} {H H' : Hp} (a : Oth xs H H') (h : ∀ x ∈ xs, x ∈ ys) : Oth ys H H' := fun c o e n => a c o e fun m => n (h c m)
theorem Oth.upd {xs : List Addr} {H H' : Hp} (a : Oth xs H H') {x : Addr} {o : HO} (h : x ∈ xs) : Oth xs H (upd H' x o) := fun c u e n => by
  rw [upd_ne fun z => n (by rw [z]; exact h)]
  exact a c u e n
theorem Oth.of_same {xs : List Addr} {H H' : Hp} (a : Same H H') : Oth xs H H' := fun c o h _ => a c o h
theorem Oth.same {xs : List Addr} {H H1 H2 : Hp} (a : Oth xs H H1) (b : Same H1 H2) : Oth xs H H2 := fun c o h n => b c o (a c o h n)
/-- a new object -/
theorem same_new {H H' : Hp} {q : Addr} {o : HO} (s : Same H H') (h : H' q = none) : Same H (L2.upd H' q o) := fun c u e => by
  rw [upd_ne (ne_of_none (s c u e) h)]
  exact s c u e
/-- a new object is written again -/
theorem same_own {H H' : Hp} {q : Addr} {o : HO} (s : Same H H') (h : H q = none) : Same H (L2.upd H' q o) := fun c u e => by
  rw [upd_ne (ne_of_none e h)]
  exact s c u e
/-- a Schedule stands at p, its dict at d: THE INVARIANT -/
structure SchedAt (C : Addr) (H : Hp) (p d : Addr) (ps : PL) : Prop where
  ob : ∃ dx z, H p = some (.ins C dx (flds d z))
  dc : H d = some (.dK (kvOf ps))
  gd : Good ps
section
variable {C p d : Addr} {H H' : Hp} {ps qs : PL}
theorem SchedAt.ne (S : SchedAt C H p d ps) : p ≠ d := by
  obtain ⟨⟨dx, z, h⟩, hd, _⟩ := S
  exact ne_of h hd (by intro z; cases z)
theorem SchedAt.oth {xs : List Addr} (S : SchedAt C H p d ps) (s : Oth xs H H') (hp : p ∉ xs) (hd : d ∉ xs) : SchedAt C H' p d ps := by
  obtain ⟨⟨dx, z, h⟩, h2, g⟩ := S
  exact ⟨⟨dx, z, s _ _ h hp⟩, s _ _ h2 hd, g⟩
theorem SchedAt.same (S : SchedAt C H p d ps) (s : Same H H') : SchedAt C H' p d ps := S.oth (xs := []) (Oth.of_same s) (by simp) (by simp)
theorem SchedAt.setD (S : SchedAt C H p d ps) (g : Good qs) : SchedAt C (upd H d (.dK (kvOf qs))) p d qs := by
  obtain ⟨⟨dx, z, h⟩, _, _⟩ := id S
  exact ⟨⟨dx, z, by rw [upd_ne S.ne]; exact h⟩, upd_same, g⟩
theorem SchedAt.setO (S : SchedAt C H p d ps) (dx : Addr) (z y : Int) : SchedAt C (upd H p (.ins C dx (putF "done" (.int y) (flds d z)))) p d ps := by
  refine ⟨⟨dx, y, ?_⟩, by rw [upd_ne S.ne.symm]; exact S.dc, S.gd⟩
  rw [flds_put]
  exact upd_same
theorem SchedAt.no {k : Int} (S : SchedAt C H p d ps) (e : lk ps k = none) : DGet H d (.int k) none := by
  have q := DGet.k (k := (Sum.inl k : Key)) S.dc
  rw [valV_kvOf, e] at q
  exact q
theorem SchedAt.is {k t : Int} (S : SchedAt C H p d ps) (e : lk ps k = some t) : DGet H d (.int k) (some (.int t)) := by
  have q := DGet.k (k := (Sum.inl k : Key)) S.dc
  rw [valV_kvOf, e] at q
  exact q
end
/-! ### what the walk asks of the class as the top has made it -/
structure Txt (K : PySem.W.Frag) (mg : Str → Option Value) (C : Addr) : Prop where
  cl : Cls K C
  nS : NoAttr K C "since"
  nD : NoAttr K C "done"
  mgC : mg "Schedule" = some (.ref C)
  cr : ClX.CRead K C (.type "type")
  pat : ∃ pa, ClX.CVal K C (.type "type") "PATIENCE" (.ref pa) (.ref pa) ∧ ∀ H, SqT K H pa (pats.map V.int)
  len : mg "len" = none
  min : mg "min" = none
  max : mg "max" = none
  range : mg "range" = none
  int : mg "int" = none
/-! ### promises -/
def wk (ps : PL) (k now : Int) : PL := match lk ps k with
  | none => ps ++ [(k, now)]
  | some _ => ps
/-- a new pair (lane, tick) -/
def TupIn (ps : PL) (H : Hp) (x : V) : Prop := ∃ r k t, x = .ref r ∧ H r = some (.tup [.int k, .int t]) ∧ lk ps k = some t
def spInit (C : Addr) : Sp := fun vs H Q _ => ∃ (p dx : Addr), vs = [.ref p] ∧ H p = some (.ins C dx []) ∧ ∀ (d : Addr) (H' : Hp), H d = none → SchedAt C H' p d [] → Oth [p] H H' → Q .non H'
def spCont (C : Addr) : Sp := fun vs H Q _ => ∃ (p d : Addr) (ps : PL) (k : Int), vs = [.ref p, .int k] ∧ SchedAt C H p d ps ∧ Q (.bl (lk ps k).isSome) H
def spPend (C : Addr) : Sp := fun vs H Q _ => ∃ (p d : Addr) (ps : PL), vs = [.ref p] ∧ SchedAt C H p d ps ∧ ∀ (H' : Hp) (l : Addr) (rs : List V), Same H H' → H' l = some (.lst rs) → (∀ x ∈ rs, TupIn ps H' x) → Q (.ref l) H'
def spWake (C : Addr) : Sp := fun vs H Q _ => ∃ (p d : Addr) (ps : PL) (k now : Int), vs = [.ref p, .int k, .int now] ∧ SchedAt C H p d ps ∧ 0 ≤ k ∧ k < 4 ∧ ∀ H', SchedAt C H' p d (wk ps k now) → Oth [p, d] H H' → Q .non H'
def spOver (C : Addr) : Sp := fun vs H Q _ => ∃ (p d : Addr) (ps : PL) (k now : Int), vs = [.ref p, .int k, .int now] ∧ SchedAt C H p d ps ∧ Q (.bl (over ps now k)) H
def spNext (C : Addr) : Sp := fun vs H Q _ => ∃ (p d : Addr) (ps : PL) (now : Int), vs = [.ref p, .int now] ∧ SchedAt C H p d ps ∧
  (∀ H', Same H H' → NoOver ps now → Q .non H') ∧
  ∀ (H' : Hp) (t l : Addr) (ls : List Int) (b : Bool), Same H H' → PassOk ps now ls b → H l = none → H' t = some (.tup [.ref l, .bl b]) → H' l = some (.lst (ls.map V.int)) → Q (.ref t) H'
def spPort (C : Addr) : Sp := fun vs H Q _ => ∃ (p d : Addr) (ps : PL) (c : Int), vs = [.ref p, .int c] ∧ SchedAt C H p d ps ∧ ∀ (H' : Hp) (b : Bool), SchedAt C H' p d ps → Oth [p] H H' → Q (.bl b) H'
def spEnd (C : Addr) : Sp := fun vs H Q _ => ∃ (p d l : Addr) (ps : PL) (ls : List Int), vs = [.ref p, .ref l] ∧ SchedAt C H p d ps ∧ H l = some (.lst (ls.map V.int)) ∧ ∀ H', SchedAt C H' p d (rmAll ps ls) → Oth [p, d] H H' → Q .non H'
section
variable {P : Program} {w : World} {K : PySem.W.Frag} {mg : Str → Option Value} {base : Heap}
/-! ### __init__, __contains__ -/
theorem scI : FnScope ["self"] ["self"] (defScope sInit) := ⟨rfl, rfl, rfl, by decide +kernel, rfl, by decide +kernel, by decide +kernel⟩
theorem ok_init {f C : Addr} {fd : FuncData} (F : Fun K "__init__" "Schedule.__init__" sInit f fd) (T : Txt K mg C) : FnOk P w K mg base CX0 1 f fd ["self"] (spInit C) := by
  refine F.ok scI (fun vs H Q E h => ?_) (fun cdv A outer s H vs Q E hr h => ?_)
  · obtain ⟨p, dx, rfl, _⟩ := h
    rfl
  · obtain ⟨p, dx, rfl, hp, k⟩ := h
    -- self.since = {}; self.done = 0
    refine ⟨_, pss_cons (ps_fld (pv 0) pe_dnewK rfl) (pss_one (ps_fld (pv 0) pe_int rfl)), ?_⟩
    intro d hd
    have npd : p ≠ d := ne_of_none hp hd
    refine ⟨_, rfl, p, C, dx, [], rfl, (by rw [upd_ne npd]; exact hp), T.cl, T.nS, (by show 0 < 1000; decide), _, rfl, p, C, dx, _, rfl, upd_same, T.cl, T.nD, (by show 1 < 1000; decide), ?_⟩
    refine k d _ hd ⟨⟨dx, 0, upd_same⟩, by rw [upd_ne npd.symm, upd_ne npd.symm, upd_same]; rfl, good_nil⟩ fun b o e hb => ?_
    have hb : b ≠ p := fun z => hb (by simp [z])
    rw [upd_ne hb, upd_ne hb, upd_ne (ne_of_none e hd)]
    exact e
theorem scC : FnScope ["self", "lane"] ["self", "lane"] (defScope sCont) := ⟨rfl, rfl, rfl, by decide +kernel, rfl, by decide +kernel, by decide +kernel⟩
theorem ok_cont {f C : Addr} {fd : FuncData} (F : Fun K "__contains__" "Schedule.__contains__" sCont f fd) (T : Txt K mg C) : FnOk P w K mg base CX0 1 f fd ["self", "lane"] (spCont C) := by
  refine F.ok scC (fun vs H Q E h => ?_) (fun cdv A outer s H vs Q E hr h => ?_)
  · obtain ⟨p, d, ps, k, rfl, _⟩ := h
    rfl
  · obtain ⟨p, d, ps, k, rfl, S, q⟩ := h
    have hu := hu_of hr
    obtain ⟨⟨dx, z, h1⟩, hd, g⟩ := id S
    refine ⟨_, pss_one (ps_ret (pe_cmp (pc_din hu (pv 1) (pe_fld (pv 0) rfl)))), ?_⟩
    cases e : lk ps k with
    | none =>
      rw [e] at q
      exact ⟨_, rfl, _, rfl, p, C, dx, _, _, rfl, h1, T.cl, T.nS, flds_since _ _, d, _, rfl, S.no e, q⟩
    | some t =>
      rw [e] at q
      exact ⟨_, rfl, _, rfl, p, C, dx, _, _, rfl, h1, T.cl, T.nS, flds_since _ _, d, _, rfl, S.is e, q⟩
/-! ### is_overdue -/
theorem scO : FnScope ["self", "lane", "now"] ["self", "lane", "now"] (defScope sOver) := ⟨rfl, rfl, rfl, by decide +kernel, rfl, by decide +kernel, by decide +kernel⟩
theorem ok_over {f C : Addr} {fd : FuncData} (F : Fun K "is_overdue" "Schedule.is_overdue" sOver f fd) (T : Txt K mg C) : FnOk P w K mg base CX0 1 f fd ["self", "lane", "now"] (spOver C) := by
  refine F.ok scO (fun vs H Q E h => ?_) (fun cdv A outer s H vs Q E hr h => ?_)
  · obtain ⟨p, d, ps, k, now, rfl, _⟩ := h
    rfl
  · obtain ⟨p, d, ps, k, now, rfl, S, q⟩ := h
    have hu := hu_of hr
    obtain ⟨⟨dx, z, h1⟩, hd, g⟩ := id S
    obtain ⟨pa, cv, tp⟩ := T.pat
    -- if lane not in self.since: return False; return self.since[lane] + Schedule.PATIENCE[lane] <= now
    refine ⟨_, pss_cons (ps_if (pt_cmp (pc_dnotin hu (pv 1) (pe_fld (pv 0) rfl))) (pss_one (ps_ret pe_bl)) pss_nil)
      (pss_one (ps_ret (pe_cmpR op_le (pe_op op_add (pe_dget hu (pe_fld (pv 0) rfl) (pv 1) (fun _ _ => rfl)) (pe_ix ix_tup (ClX.pe_cval (pe_glob (v := V.ref C) rfl T.mgC rfl)) (pv 1) (fun _ _ => rfl))) (pv 2) (nomark _)))), ?_⟩
    cases e : lk ps k with
    | none =>
      rw [over_none e] at q
      refine ⟨_, rfl, _, rfl, p, C, dx, _, _, rfl, h1, T.cl, T.nS, flds_since _ _, d, _, rfl, S.no e, _, rfl, ?_⟩
      exact iteT q
    | some t =>
      rw [over_some e] at q
      obtain ⟨k0, k4⟩ := g.at_ e
      refine ⟨_, rfl, _, rfl, p, C, dx, _, _, rfl, h1, T.cl, T.nS, flds_since _ _, d, _, rfl, S.is e, _, rfl, iteF ?_⟩
      refine ⟨_, rfl, p, C, dx, _, _, rfl, h1, T.cl, T.nS, flds_since _ _, _, rfl, d, _, rfl, S.is e, ?_⟩
      refine ⟨C, _, _, _, rfl, T.cr, cv, _, rfl, pa, _, k, _, rfl, rfl, tp _, pat_at k0 k4, _, _, rfl, rfl, _, rfl, _, _, rfl, rfl, q⟩
/-! ### wake -/
theorem scW : FnScope ["self", "lane", "now"] ["self", "lane", "now"] (defScope sWake) := ⟨rfl, rfl, rfl, by decide +kernel, rfl, by decide +kernel, by decide +kernel⟩
theorem ok_wake {f C : Addr} {fd : FuncData} (F : Fun K "wake" "Schedule.wake" sWake f fd) (T : Txt K mg C) : FnOk P w K mg base CX0 1 f fd ["self", "lane", "now"] (spWake C) := by
  refine F.ok scW (fun vs H Q E h => ?_) (fun cdv A outer s H vs Q E hr h => ?_)
  · obtain ⟨p, d, ps, k, now, rfl, _⟩ := h
    rfl
  · obtain ⟨p, d, ps, k, now, rfl, S, k0, k4, q⟩ := h
    have hu := hu_of hr
    obtain ⟨⟨dx, z, h1⟩, hd, g⟩ := id S
    refine ⟨_, C8.pss_cut (ps_if (PW.pt (pw_and (pt_truth (pe_fld (pv 0) rfl) (fun _ => rfl)) (pw_and1 (pt_cmpR op_le (pv 1) (pe_callB (cr_minK rfl) (by rfl) T.min PyProof.Rows.boot_min (pa_cons (pe_fld (pv 0) rfl) pa_nil)) (nomark _)))))
        (pss_one (ps_fld (pv 0) pe_int rfl)) pss_nil)
      (pss_one (ps_if (pt_cmp (pc_dnotin hu (pv 1) (pe_fld (pv 0) rfl))) (pss_one (ps_dput hu (pe_fld (pv 0) rfl) (pv 1) (pv 2) rfl)) pss_nil)), ?_⟩
    refine ⟨fun σ' H' => σ' = [some (.ref p), some (.int k), some (.int now)] ∧ SchedAt C H' p d ps ∧ Oth [p, d] H H', ?_, ?_⟩
    · -- if self.since and lane <= min(self.since): self.done = 0
      refine ⟨_, rfl, p, C, dx, _, _, rfl, h1, T.cl, T.nS, flds_since _ _, _, Or.inr (Or.inr ⟨_, hd, rfl⟩), ?_⟩
      cases ps with
      | nil =>
        refine iteF (iteF ?_)
        exact ⟨rfl, S, Oth.refl⟩
      | cons a r =>
        refine iteT ?_
        refine ⟨_, rfl, _, rfl, p, C, dx, _, _, rfl, h1, T.cl, T.nS, flds_since _ _, d, _, (a :: r).map (·.1), rfl, hd, kvOf_keys _, by simp, fun m _ _ => ?_⟩
        refine ⟨_, _, rfl, rfl, _, rfl, ite2 (fun _ => ?_) (fun _ => ?_)⟩
        · refine ⟨_, rfl, p, C, dx, _, rfl, h1, T.cl, T.nD, flds_few _ _, ?_⟩
          exact ⟨rfl, S.setO dx z 0, Oth.refl.upd (by simp)⟩
        · exact ⟨rfl, S, Oth.refl⟩
    · -- if lane not in self.since: self.since[lane] = now
      rintro σ' H' ⟨rfl, S', o⟩
      obtain ⟨⟨dx', z', h1'⟩, hd', _⟩ := id S'
      cases e : lk ps k with
      | none =>
        have ew : wk ps k now = ps ++ [(k, now)] := by
          unfold wk
          rw [e]
        rw [ew] at q
        refine ⟨_, rfl, _, rfl, p, C, dx', _, _, rfl, h1', T.cl, T.nS, flds_since _ _, d, _, rfl, S'.no e, _, rfl, iteT ?_⟩
        refine ⟨_, rfl, _, rfl, p, C, dx', _, _, rfl, h1', T.cl, T.nS, flds_since _ _, _, rfl, d, _, rfl, DPut.k (k := (Sum.inl k : Key)) hd' (small1000 (by rw [kvOf_len]; have := g.len; omega)), ?_⟩
        rw [putK_kvOf now e]
        exact q _ (S'.setD (g.snoc now e k0 k4)) (o.upd (by simp))
      | some t =>
        have ew : wk ps k now = ps := by
          unfold wk
          rw [e]
        rw [ew] at q
        refine ⟨_, rfl, _, rfl, p, C, dx', _, _, rfl, h1', T.cl, T.nS, flds_since _ _, d, _, rfl, S'.is e, _, rfl, iteF ?_⟩
        exact q _ S' o
/-! ### portion -/
theorem scPo : FnScope ["self", "cost"] ["self", "cost"] (defScope sPort) := ⟨rfl, rfl, rfl, by decide +kernel, rfl, by decide +kernel, by decide +kernel⟩
theorem ok_port {f C : Addr} {fd : FuncData} (F : Fun K "portion" "Schedule.portion" sPort f fd) (T : Txt K mg C) : FnOk P w K mg base CX0 1 f fd ["self", "cost"] (spPort C) := by
  refine F.ok scPo (fun vs H Q E h => ?_) (fun cdv A outer s H vs Q E hr h => ?_)
  · obtain ⟨p, d, ps, c, rfl, _⟩ := h
    rfl
  · obtain ⟨p, d, ps, c, rfl, S, q⟩ := h
    obtain ⟨⟨dx, z, h1⟩, hd, g⟩ := id S
    refine ⟨_, pss_cons (ps_if (pt_not (pt_truth (pe_fld (pv 0) rfl) (fun _ => rfl))) (pss_one (ps_ret pe_bl)) pss_nil)
      (pss_cons (ps_fld (pv 0) (pe_op op_add (pe_fld (pv 0) rfl) pe_int) rfl)
      (pss_one (ps_ret (pe_cmpR op_ge (pe_fld (pv 0) rfl) (pv 1) (nomark _))))), ?_⟩
    refine ⟨_, rfl, p, C, dx, _, _, rfl, h1, T.cl, T.nS, flds_since _ _, _, Or.inr (Or.inr ⟨_, hd, rfl⟩), ?_⟩
    cases ps with
    | nil =>
      refine iteT ?_
      exact q H false S Oth.refl
    | cons a r =>
      refine iteF ?_
      refine ⟨_, rfl, p, C, dx, _, _, rfl, h1, T.cl, T.nD, flds_done _ _, _, _, rfl, rfl, _, rfl, p, C, dx, _, rfl, h1, T.cl, T.nD, flds_few _ _, ?_⟩
      have S' := S.setO dx z (z + 1)
      have o' : Oth [p] H (upd H p (.ins C dx (putF "done" (.int (z + 1)) (flds d z)))) := Oth.refl.upd (by simp)
      refine ⟨_, rfl, p, C, dx, _, _, rfl, upd_same, T.cl, T.nD, (by rw [flds_put]; exact flds_done _ _), _, rfl, _, _, rfl, rfl, ?_⟩
      exact q _ _ S' o'
/-! ### end -/
theorem rmAll_step {ps : PL} {ls : List Int} {i : Nat} {x : Int} (h : ls[i]? = some x) : rmAll ps (ls.take (i + 1)) = rm (rmAll ps (ls.take i)) x := by
  rw [List.take_add_one, h]
  unfold rmAll
  rw [List.foldl_append]
  rfl
theorem ints_at {ls : List Int} {i : Nat} {y : V} (h : (ls.map V.int)[i]? = some y) : ∃ x, ls[i]? = some x ∧ y = V.int x := by
  rw [List.getElem?_map] at h
  obtain ⟨x, e1, e2⟩ := Option.map_eq_some_iff.mp h
  exact ⟨x, e1, e2.symm⟩
theorem take_all {ls : List Int} : ls.take (ls.map V.int).length = ls := by
  rw [List.length_map]
  exact List.take_length
theorem scE : FnScope ["self", "lanes", "lane"] ["self", "lanes"] (defScope sEnd) := ⟨rfl, rfl, rfl, by decide +kernel, rfl, by decide +kernel, by decide +kernel⟩
theorem ok_end {f C : Addr} {fd : FuncData} (F : Fun K "end" "Schedule.end" sEnd f fd) (T : Txt K mg C) : FnOk P w K mg base CX0 1 f fd ["self", "lanes"] (spEnd C) := by
  refine F.ok scE (fun vs H Q E h => ?_) (fun cdv A outer s H vs Q E hr h => ?_)
  · obtain ⟨p, d, l, ps, ls, rfl, _⟩ := h
    rfl
  · obtain ⟨p, d, l, ps, ls, rfl, S, hl, q⟩ := h
    have hu := hu_of hr
    have nl : l ∉ [p, d] := by
      obtain ⟨⟨dx, z, h1⟩, hd, _⟩ := S
      have n1 : l ≠ p := ne_of hl h1 (by intro z; cases z)
      have n2 : l ≠ d := ne_of hl hd (by intro z; cases z)
      simp [n1, n2]
    refine ⟨_, pss_cons (ps_for PassesOwn.never rfl (pi_list (pv 1)) (pg_name (i := 2) scE.nd rfl (Or.inl rfl))
        (pss_one (ps_if (pt_cmp (pc_din hu (pv 2) (pe_fld (pv 0) rfl))) (pss_one (ps_ddel (pe_fld (pv 0) rfl) (pv 2))) pss_nil)))
      (pss_one (ps_fld (pv 0) pe_int rfl)), ?_⟩
    refine ⟨_, rfl, l, rfl, ⟨_, SqL.of hl⟩, for_list (K := K) (a := l) (xs := ls.map V.int) (fun i σ H' => ∃ v : Option V, σ = [some (.ref p), some (.ref l), v] ∧ SchedAt C H' p d (rmAll ps (ls.take i)) ∧ Oth [p, d] H H')
      ⟨none, rfl, S, Oth.refl⟩ (fun i σ H' _ ⟨_, _, _, o⟩ => SqL.of (o _ _ hl nl)) ?_ ?_⟩
    · rintro i y σ H' hi ⟨v, rfl, S', o⟩
      obtain ⟨x, hx, rfl⟩ := ints_at hi
      obtain ⟨⟨dx, z, h1⟩, hd, g⟩ := id S'
      have es := rmAll_step (ps := ps) hx
      cases e : lk (rmAll ps (ls.take i)) x with
      | none =>
        refine ⟨_, rfl, _, rfl, p, C, dx, _, _, rfl, h1, T.cl, T.nS, flds_since _ _, d, _, rfl, S'.no e, _, rfl, iteF ?_⟩
        refine ⟨_, rfl, ?_, o⟩
        rw [es, rm_none e]
        exact S'
      | some t =>
        refine ⟨_, rfl, _, rfl, p, C, dx, _, _, rfl, h1, T.cl, T.nS, flds_since _ _, d, _, rfl, S'.is e, _, rfl, iteT ?_⟩
        refine ⟨_, rfl, p, C, dx, _, _, rfl, h1, T.cl, T.nS, flds_since _ _, _, rfl, d, _, (Sum.inl x : Key), rfl, hd, rfl, (by rw [valV_kvOf, e]; rfl), ?_⟩
        rw [dropK_kvOf]
        refine ⟨_, rfl, ?_, o.upd (by simp)⟩
        rw [es]
        exact S'.setD (g.rm x)
    · rintro σ H' ⟨v, rfl, S', o⟩
      rw [take_all] at S'
      obtain ⟨⟨dx, z, h1⟩, hd, g⟩ := id S'
      refine ⟨_, rfl, p, C, dx, _, rfl, h1, T.cl, T.nD, flds_few _ _, ?_⟩
      exact q _ (S'.setO dx z 0) (o.upd (by simp))
end
end Vl

/-! ## 3. pending and next_pass -/
namespace Vl
open PySem L2
section
variable {P : Program} {w : World} {K : PySem.W.Frag} {mg : Str → Option Value} {base : Heap}
theorem TupIn.same {ps : PL} {H H' : Hp} {x : V} (t : TupIn ps H x) (s : Same H H') : TupIn ps H' x := by
  obtain ⟨r, k, u, e, h, l⟩ := t
  exact ⟨r, k, u, e, s _ _ h, l⟩
theorem TupIn.own {ps : PL} {H : Hp} {x : V} {D : Addr} {xs ys : List V} (t : TupIn ps H x) (h : H D = some (.lst xs)) : TupIn ps (upd H D (.lst ys)) x := by
  obtain ⟨r, k, u, e, h', l⟩ := t
  refine ⟨r, k, u, e, ?_, l⟩
  rw [upd_ne (ne_of h' h (by intro z; cases z))]
  exact h'
theorem scPd : FnScope ["self", "lane"] ["self"] (defScope sPend) := ⟨rfl, rfl, rfl, by decide +kernel, rfl, by decide +kernel, by decide +kernel⟩
theorem ok_pend {f C : Addr} {fd : FuncData} (F : Fun K "pending" "Schedule.pending" sPend f fd) (T : Txt K mg C) : FnOk P w K mg base CX0 1 f fd ["self"] (spPend C) := by
  refine F.ok scPd (fun vs H Q E h => ?_) (fun cdv A outer s H vs Q E hr h => ?_)
  · obtain ⟨p, d, ps, rfl, _⟩ := h
    rfl
  · obtain ⟨p, d, ps, rfl, S, q⟩ := h
    have hu := hu_of hr
    refine ⟨_, pss_one (ps_ret (pe_lc (own := [("lane", 1)]) (g := gName 1) (tt := tB (tDIn (tVar 1) (tFld K (tVar 0) "since"))) (te := tTup (tCons (tVar 1) (tCons (tDGet (tFld K (tVar 0) "since") (tVar 1)) tNil))) (by rfl) scPd.nd (pi_range1 rfl T.range (pa_cons pe_int pa_nil)) (blkOk_by (own := [("lane", 1)]) (N := ["self", "lane"]) (sc := defScope sPend) (by decide +kernel))
      (fun _ _ _ _ _ => pg_name (i := 1) scPd.nd rfl (Or.inl rfl))
      (fun _ _ _ _ _ => pts_one (pt_cmp (pc_din hu (pv 1) (pe_fld (pv 0) rfl))))
      (fun _ _ _ _ _ => pe_tup (pa_cons (pv 1) (pa_cons (pe_dget hu (pe_fld (pv 0) rfl) (pv 1) (fun _ _ => rfl)) pa_nil))))), ?_⟩
    refine ⟨4, rfl, by decide, by decide, fun D nD => lc_range (lo := 0) (n := 4) (fun i H' => Same H H' ∧ ∃ rs, H' D = some (.lst rs) ∧ rs.length ≤ i ∧ ∀ x ∈ rs, TupIn ps H' x) ⟨same_new (Same.refl H) nD, [], upd_same, Nat.le_refl _, fun x hx => by cases hx⟩ ?_ ?_⟩
    · rintro i H' hi ⟨sm, rs, hD, hlen, ht⟩
      have S' := S.same sm
      obtain ⟨⟨dx, z, h1⟩, hd, g⟩ := id S'
      refine ⟨rfl, ?_⟩
      cases e : lk ps (0 + (i : Int)) with
      | none =>
        refine ⟨_, rfl, _, rfl, p, C, dx, _, _, rfl, h1, T.cl, T.nS, flds_since _ _, d, _, rfl, S'.no e, _, rfl, iteF ?_⟩
        exact ⟨sm, rs, hD, Nat.le_succ_of_le hlen, ht⟩
      | some t =>
        refine ⟨_, rfl, _, rfl, p, C, dx, _, _, rfl, h1, T.cl, T.nS, flds_since _ _, d, _, rfl, S'.is e, _, rfl, iteT ?_⟩
        refine ⟨_, rfl, _, rfl, p, C, dx, _, _, rfl, h1, T.cl, T.nS, flds_since _ _, _, rfl, d, _, rfl, S'.is e, (by show 2 ≤ sizeLine; decide), fun r nr => ?_⟩
        have nrD : D ≠ r := ne_of_none hD nr
        refine ⟨rs, (by rw [upd_ne nrD]; exact hD), small1000 (by omega), ?_⟩
        have sr : Same H' (upd H' r (.tup [.int (0 + (i : Int)), .int t])) := same_new (Same.refl H') nr
        have hD' : (upd H' r (.tup [.int (0 + (i : Int)), .int t])) D = some (.lst rs) := by rw [upd_ne nrD]; exact hD
        refine ⟨same_own (sm.trans sr) nD, _, upd_same, (by rw [List.length_append]; exact Nat.succ_le_succ hlen), fun x hx => ?_⟩
        refine TupIn.own ?_ hD'
        rcases List.mem_append.mp hx with m | m
        · exact (ht x m).same sr
        · rw [List.mem_singleton.mp m]
          exact ⟨r, _, t, rfl, upd_same, e⟩
    · rintro H' ⟨sm, rs, hD, hlen, ht⟩
      exact q H' D rs sm hD ht
/-! ### next_pass -/
theorem scN : FnScope ["self", "now", "lanes", "overdue", "lane"] ["self", "now"] (defScope sNext) := ⟨rfl, rfl, rfl, by decide +kernel, rfl, by decide +kernel, by decide +kernel⟩
theorem ok_next {f C fO : Addr} {fd dO : FuncData} (F : Fun K "next_pass" "Schedule.next_pass" sNext f fd) (T : Txt K mg C)
    (GO : FnOk P w K mg base CX0 1 fO dO ["self", "lane", "now"] (spOver C)) (bO : KBn K dO ["self", "lane", "now"] 2 ["now"] (fun us ws => us ++ ws) (fun vs zs => vs ++ zs)) (mO : Meth K C "is_overdue" fO) :
    FnOk P w K mg base CX0 2 f fd ["self", "now"] (spNext C) := by
  refine F.ok scN (fun vs H Q E h => ?_) (fun cdv A outer s H vs Q E hr h => ?_)
  · obtain ⟨p, d, ps, now, rfl, _⟩ := h
    rfl
  · obtain ⟨p, d, ps, now, rfl, S, q0, q1⟩ := h
    have hu := hu_of hr
    have g := S.gd
    refine ⟨_, pss_cons (ps_setLc (i := 2) (own := [("lane", 4)]) (g := gName 4) (tt := tB (tDIn (tVar 4) (tFld K (tVar 0) "since"))) (te := tVar 4) (by rfl) scN.nd rfl rfl (sw_true rfl rfl rfl (by decide +kernel)) (pi_range1 rfl T.range (pa_cons pe_int pa_nil))
          (blkOk_by (own := [("lane", 4)]) (N := ["self", "now", "lanes", "overdue", "lane"]) (sc := defScope sNext) (by decide +kernel))
          (fun _ _ _ _ _ => pg_name (i := 4) scN.nd rfl (Or.inl rfl))
          (fun _ _ _ _ _ => pts_one (pt_cmp (pc_din hu (pv 4) (pe_fld (pv 0) rfl))))
          (fun _ _ _ _ _ => pv 4))
      (pss_cons (ps_if (pt_not (pt_truth (pv 2) (fun _ => rfl))) (pss_one (ps_ret pe_non)) pss_nil)
      (pss_cons (ps_set (i := 3) scN.nd rfl (Or.inr rfl) (pe_lc (own := [("lane", 4)]) (g := gName 4) (tt := tB (tMethN C "is_overdue" 2 (List.length (α := Str) ["now"]) (spOver C) (fun vs zs => vs ++ zs) E0 (tVar 0) (tCons (tVar 4) tNil) (tCons (tVar 1) tNil))) (te := tVar 4) (by rfl) scN.nd (pi_list (pv 2))
          (blkOk_by (own := [("lane", 4)]) (N := ["self", "now", "lanes", "overdue", "lane"]) (sc := defScope sNext) (by decide +kernel))
          (fun _ _ _ _ _ => pg_name (i := 4) scN.nd rfl (Or.inl rfl))
          (fun _ _ _ _ _ => pts_one (pt_val (pe_methN (pv 0) T.cl mO GO hr bO pass0 (pa_cons (pv 4) pa_nil) (pk_cons (pv 1) pk_nil))))
          (fun _ _ _ _ _ => pv 4)))
      (pss_cons (ps_if (pt_truth (pv 3) (fun _ => rfl)) (pss_one (ps_ret (pe_tup (pa_cons (pe_lc (own := [("lane", 4)]) (g := gName 4) (tt := tTest (tOp (rI0 fun i j => .bl (decide (i ≤ j))) (tVar 4) (tOp (rIxL K) (tVar 3) (tUn (rU fun i => .int (-i)) (tC (.int 1)))))) (te := tVar 4) (by rfl) scN.nd (pi_list (pv 2))
            (blkOk_by (own := [("lane", 4)]) (N := ["self", "now", "lanes", "overdue", "lane"]) (sc := defScope sNext) (by decide +kernel))
            (fun _ _ _ _ _ => pg_name (i := 4) scN.nd rfl (Or.inl rfl))
            (fun _ _ _ _ _ => pts_one (pt_cmpR op_le (pv 4) (pe_ix ix_list (pv 3) (pe_un un_neg pe_int) (fun _ _ => rfl)) (nomark _)))
            (fun _ _ _ _ _ => pv 4)) (pa_cons pe_bl pa_nil))))) pss_nil)
      (pss_one (ps_ret (pe_tup (pa_cons (pe_lst (pa_cons (pe_ix ix_list (pv 2) pe_int (fun _ _ => rfl)) pa_nil)) (pa_cons pe_bl pa_nil)))))))), ?_⟩
    -- lanes = [lane for lane in range(4) if lane in self.since]
    refine ⟨4, rfl, by decide, by decide, fun D nD => lc_range (lo := 0) (n := 4) (fun i H' => Same H H' ∧ H' D = some (.lst (((rng4.take i).filter fun k => (lk ps k).isSome).map V.int))) ⟨same_new (Same.refl H) nD, upd_same⟩ ?_ ?_⟩
    · rintro i H' hi ⟨sm, hD⟩
      have S' := S.same sm
      obtain ⟨⟨dx, z, h1⟩, hd, _⟩ := id S'
      have ea := rng4_at hi
      refine ⟨rfl, ?_⟩
      rw [show (0 : Int) + (i : Int) = (i : Int) from Int.zero_add _]
      cases e : lk ps (i : Int) with
      | none =>
        refine ⟨_, rfl, _, rfl, p, C, dx, _, _, rfl, h1, T.cl, T.nS, flds_since _ _, d, _, rfl, S'.no e, _, rfl, iteF ?_⟩
        refine ⟨sm, ?_⟩
        rw [filt_no ea (by rw [e]; rfl)]
        exact hD
      | some t =>
        refine ⟨_, rfl, _, rfl, p, C, dx, _, _, rfl, h1, T.cl, T.nS, flds_since _ _, d, _, rfl, S'.is e, _, rfl, iteT ?_⟩
        refine ⟨_, rfl, _, hD, small1000 (by rw [List.length_map]; exact Nat.le_trans (List.length_filter_le _ _) (Nat.le_trans (List.length_take_le _ _) (by omega))), ?_⟩
        refine ⟨same_own sm nD, ?_⟩
        rw [filt_yes ea (by rw [e]; rfl), List.map_append]
        exact upd_same
    · rintro H1 ⟨s1, hD⟩
      have hL : H1 D = some (.lst ((pend ps).map V.int)) := hD
      -- if not lanes: return None
      refine ⟨_, rfl, _, Or.inl ⟨_, SqL.of hL, rfl⟩, ?_⟩
      cases ep : pend ps with
      | nil =>
        refine iteT ?_
        exact q0 H1 s1 (next_none g ep)
      | cons a r =>
        refine iteF ?_
        rw [ep] at hL
        -- overdue = [lane for lane in lanes if self.is_overdue(lane, now=now)]
        refine ⟨_, rfl, D, rfl, ⟨_, SqL.of hL⟩, fun V' nV => lc_list (K := K) (a := D) (xs := (a :: r).map V.int) (fun i H' => Same H1 H' ∧ H' V' = some (.lst ((((a :: r).take i).filter (over ps now)).map V.int))) ⟨same_new (Same.refl H1) nV, upd_same⟩ (fun i H' _ ⟨sm, _⟩ => SqL.of (sm _ _ hL)) ?_ ?_⟩
        · rintro i y H' hi ⟨sm, hV⟩
          obtain ⟨x, hx, rfl⟩ := ints_at hi
          have S' := S.same (s1.trans sm)
          obtain ⟨⟨dx, z, h1⟩, _, _⟩ := id S'
          refine ⟨rfl, ?_⟩
          refine ⟨_, rfl, p, dx, _, rfl, h1, flds_no _ _ (by decide +kernel) (by decide +kernel), _, rfl, _, rfl, rfl, rfl, p, d, ps, x, now, rfl, S', _, rfl, ?_⟩
          cases eo : over ps now x with
          | false =>
            refine iteF ⟨sm, ?_⟩
            rw [filt_no hx eo]
            exact hV
          | true =>
            refine iteT ⟨_, rfl, _, hV, small1000 ?_, same_own sm nV, ?_⟩
            · have l1 : (pend ps).length ≤ 4 := List.length_filter_le _ _
              rw [ep] at l1
              have l2 := List.length_filter_le (over ps now) ((a :: r).take i)
              have l3 := List.length_take_le' i (a :: r)
              rw [List.length_map]
              omega
            · rw [filt_yes hx eo, List.map_append]
              exact upd_same
        · rintro H2 ⟨s2, hV⟩
          have hV : H2 V' = some (.lst ((overs ps now).map V.int)) := by
            rw [take_all] at hV
            unfold overs
            rw [ep]
            exact hV
          have hL2 := s2 _ _ hL
          -- if overdue: return ([lane for lane in lanes if lane <= overdue[-1]], True)
          refine ⟨_, rfl, _, Or.inl ⟨_, SqL.of hV, rfl⟩, ?_⟩
          cases eo : overs ps now with
          | nil =>
            refine iteF ?_
            -- return ([lanes[0]], False)
            refine ⟨_, rfl, D, _, 0, .int a, rfl, rfl, SqL.of hL2, atI_nat (j := 0) rfl, (by show 1 ≤ sizeLine; decide), fun l nl => ?_⟩
            refine ⟨by show 2 ≤ sizeLine; decide, fun t nt => ?_⟩
            have sl : Same H2 (upd H2 l (.lst [.int a])) := same_new (Same.refl H2) nl
            have ntl : l ≠ t := ne_of_none (upd_same (H := H2) (a := l) (o := .lst [.int a])) nt
            exact q1 _ t l [a] false (((s1.trans s2).trans sl).trans (same_new (Same.refl _) nt)) (next_part g eo ep) ((s1.trans s2).free nl) upd_same (by rw [upd_ne ntl]; exact upd_same)
          | cons o1 o2 =>
            refine iteT ?_
            obtain ⟨ini, m, em⟩ : ∃ ini m, overs ps now = ini ++ [m] := ⟨_, _, (List.dropLast_concat_getLast (by rw [eo]; exact List.cons_ne_nil _ _)).symm⟩
            rw [em, List.map_append] at hV
            refine ⟨_, rfl, D, rfl, ⟨_, SqL.of hL2⟩, fun l nl => lc_list (K := K) (a := D) (xs := (a :: r).map V.int) (fun i H' => Same H2 H' ∧ H' l = some (.lst ((((a :: r).take i).filter fun k => decide (k ≤ m)).map V.int))) ⟨same_new (Same.refl H2) nl, upd_same⟩ (fun i H' _ ⟨sm, _⟩ => SqL.of (sm _ _ hL2)) ?_ ?_⟩
            · rintro i y H' hi ⟨sm, hl⟩
              obtain ⟨x, hx, rfl⟩ := ints_at hi
              refine ⟨rfl, ?_⟩
              refine ⟨_, rfl, _, rfl, _, rfl, V', _, _, .int m, rfl, rfl, SqL.of (sm _ _ hV), atI_last _ _, _, _, rfl, rfl, _, rfl, ?_⟩
              cases eo : decide (x ≤ m) with
              | false =>
                refine iteF ⟨sm, ?_⟩
                rw [filt_no hx eo]
                exact hl
              | true =>
                refine iteT ⟨_, rfl, _, hl, small1000 ?_, same_own sm nl, ?_⟩
                · have l1 : (pend ps).length ≤ 4 := List.length_filter_le _ _
                  rw [ep] at l1
                  have l2 := List.length_filter_le (fun k => decide (k ≤ m)) ((a :: r).take i)
                  have l3 := List.length_take_le' i (a :: r)
                  rw [List.length_map]
                  omega
                · rw [filt_yes hx eo, List.map_append]
                  exact upd_same
            · rintro H3 ⟨s3, hl⟩
              rw [take_all, ← ep] at hl
              refine ⟨by show 2 ≤ sizeLine; decide, fun t nt => ?_⟩
              have ntl : l ≠ t := ne_of_none hl nt
              exact q1 _ t l _ true (((s1.trans s2).trans s3).trans (same_new (Same.refl _) nt)) (next_whole g em) ((s1.trans s2).free nl) upd_same (by rw [upd_ne ntl]; exact hl)
end
end Vl

/-! ## 4. The law's own defs -/
namespace Vl
open PySem L2
abbrev sCell : Stmt := top 4
abbrev sStart : Stmt := top 6
abbrev sDig : Stmt := top 7
abbrev sUp : Stmt := top 8
abbrev sFin : Stmt := top 9
abbrev sWh : Stmt := top 10
abbrev sPrt : Stmt := top 11
/-- the law's state: the schedule, and the list of what waits -/
structure LawSt (C : Addr) (H : Hp) (p d wa : Addr) (ps : PL) : Prop where
  S : SchedAt C H p d ps
  W : H wa = some (.lst (wl ps))
section
variable {C p d wa : Addr} {H H' : Hp} {ps : PL}
theorem LawSt.oth {xs : List Addr} (L : LawSt C H p d wa ps) (s : Oth xs H H') (hp : p ∉ xs) (hd : d ∉ xs) (hw : wa ∉ xs) : LawSt C H' p d wa ps := ⟨L.S.oth s hp hd, s _ _ L.W hw⟩
theorem LawSt.same (L : LawSt C H p d wa ps) (s : Same H H') : LawSt C H' p d wa ps := L.oth (xs := []) (Oth.of_same s) (by simp) (by simp) (by simp)
theorem LawSt.nwp (L : LawSt C H p d wa ps) : wa ≠ p := by
  obtain ⟨⟨dx, z, h1⟩, hd, _⟩ := L.S
  exact ne_of L.W h1 (by intro z; cases z)
theorem LawSt.nwd (L : LawSt C H p d wa ps) : wa ≠ d := ne_of L.W L.S.dc (by intro z; cases z)
/-- another list stands apart -/
theorem LawSt.apart {q : Addr} {xs : List V} (L : LawSt C H p d wa ps) (h : H q = some (.lst xs)) : q ≠ p ∧ q ≠ d := by
  obtain ⟨⟨dx, z, h1⟩, hd, _⟩ := L.S
  exact ⟨ne_of h h1 (by intro z; cases z), ne_of h hd (by intro z; cases z)⟩
end
def spCell (K : PySem.W.Frag) : Sp := fun vs H Q _ => ∃ (a : Addr) (ns : List Int) (k : Int), vs = [.ref a, .int k] ∧ SqL K H a (ns.map V.int) ∧ 0 ≤ k ∧ ∀ z : Int, Q (.int z) H
def spStart : Sp := fun vs H Q _ => ∃ c k : Int, vs = [.int c, .int k] ∧ ∀ (z : Int) (l : Addr), H l = none → Q (.ref l) (upd H l (.lst [.int z]))
def spDig : Sp := fun vs H Q _ => ∃ (sa : Addr) (z m : Int), vs = [.ref sa, .int m] ∧ 0 < m ∧ H sa = some (.lst [.int z]) ∧ ∀ z' k : Int, 0 ≤ k → k < m → Q (.int k) (upd H sa (.lst [.int z']))
def spUp (C : Addr) : Sp := fun vs H Q _ => ∃ (p d l : Addr) (ps : PL) (ls : List Int), vs = [.ref p, .ref l] ∧ SchedAt C H p d ps ∧ H l = some (.lst (ls.map V.int)) ∧ Upper ps ls ∧ ∀ H', Same H H' → Q (.bl true) H'
def spFin (C : Addr) : Sp := fun vs H Q _ => ∃ (p d l wa : Addr) (now : Int) (ps : PL) (ls : List Int), vs = [.ref p, .ref l, .ref wa, .int now] ∧ LawSt C H p d wa ps ∧ H l = some (.lst (ls.map V.int)) ∧ l ≠ wa ∧ (∀ k ∈ ls, 0 ≤ k ∧ k < 4) ∧
  ∀ H', LawSt C H' p d wa (rmAll ps ls) → Oth [p, d, wa] H H' → Q .non H'
def spWh (C : Addr) : Sp := fun vs H Q _ => ∃ (p d wa : Addr) (now : Int) (ps : PL), vs = [.ref p, .ref wa, .int now] ∧ LawSt C H p d wa ps ∧
  ∀ (H' : Hp) (qs : PL), LawSt C H' p d wa qs → NoOver qs now → Oth [p, d, wa] H H' → Q (.bl true) H'
def spPrt (C : Addr) : Sp := fun vs H Q _ => ∃ (p d wa sa : Addr) (now z : Int) (ps : PL), vs = [.ref p, .ref wa, .int now, .ref sa] ∧ LawSt C H p d wa ps ∧ NoOver ps now ∧ H sa = some (.lst [.int z]) ∧ sa ≠ wa ∧
  ∀ (H' : Hp) (qs : PL), LawSt C H' p d wa qs → NoOver qs now → Oth [p, d, wa, sa] H H' → Q (.bl true) H'
section
variable {P : Program} {w : World} {K : PySem.W.Frag} {mg : Str → Option Value} {base : Heap}
theorem scCe : FnScope ["_law_script", "_law_k"] ["_law_script", "_law_k"] (defScope sCell) := ⟨rfl, rfl, rfl, by decide +kernel, rfl, by decide +kernel, by decide +kernel⟩
theorem ok_cell {f C : Addr} {fd : FuncData} (F : Fun K "_law_cell" "_law_cell" sCell f fd) (T : Txt K mg C) : FnOk P w K mg base CX0 1 f fd ["_law_script", "_law_k"] (spCell K) := by
  refine F.ok scCe (fun vs H Q E h => ?_) (fun cdv A outer s H vs Q E hr h => ?_)
  · obtain ⟨a, ns, k, rfl, _⟩ := h
    rfl
  · obtain ⟨a, ns, k, rfl, hS, k0, q⟩ := h
    refine ⟨_, pss_cons (ps_if (pt_cmpR op_lt (pv 1) (pe_callB call_len_seq (by rfl) T.len PySem.boot_len (pa_cons (pv 0) pa_nil)) (nomark _)) (pss_one (ps_ret (pe_ix ix_list (pv 0) (pv 1) (fun _ _ => rfl)))) pss_nil)
      (pss_one (ps_ret pe_int)), ?_⟩
    refine ⟨_, rfl, _, rfl, a, _, rfl, .inl hS, _, _, rfl, rfl, _, rfl, ite2 (fun c => ?_) (fun _ => ?_)⟩
    · have c := of_decide_eq_true c
      obtain ⟨j, rfl⟩ := Int.eq_ofNat_of_zero_le k0
      rw [List.length_map] at c
      have hj : j < ns.length := by omega
      exact ⟨_, rfl, _, rfl, a, _, _, _, rfl, rfl, hS, atI_nat (by rw [List.getElem?_map, List.getElem?_eq_getElem hj]; rfl), q _⟩
    · exact q 0
theorem scSt : FnScope ["_law_cell_here", "_law_k"] ["_law_cell_here", "_law_k"] (defScope sStart) := ⟨rfl, rfl, rfl, by decide +kernel, rfl, by decide +kernel, by decide +kernel⟩
theorem ok_start {f C : Addr} {fd : FuncData} (F : Fun K "_law_start" "_law_start" sStart f fd) (T : Txt K mg C) : FnOk P w K mg base CX0 1 f fd ["_law_cell_here", "_law_k"] spStart := by
  refine F.ok scSt (fun vs H Q E h => ?_) (fun cdv A outer s H vs Q E hr h => ?_)
  · obtain ⟨c, k, rfl, _⟩ := h
    rfl
  · obtain ⟨c, k, rfl, q⟩ := h
    refine ⟨_, pss_one (ps_ret (pe_lst (pa_cons (pe_op op_mod (pe_callTy call_int1 (by rfl) T.int (by decide +kernel) (pa_cons (pe_op op_add (pe_op op_mul (pv 0) pe_int) (pe_op op_mul (pe_op op_add (pv 1) pe_int) pe_int)) pa_nil)) pe_int) pa_nil))), ?_⟩
    refine ⟨_, rfl, _, _, rfl, rfl, .inr ⟨by decide, by decide⟩, _, rfl, _, _, rfl, rfl, _, _, rfl, rfl, .inr ⟨by decide, by decide⟩, _, _, rfl, rfl, .inl ⟨_, rfl, ?_⟩⟩
    refine ⟨_, _, rfl, rfl, (by show (0 : Int) < 18446744073709551557; decide), (by show 1 ≤ sizeLine; decide), fun l nl => ?_⟩
    exact q _ l nl
theorem scDi : FnScope ["_law_state", "_law_many"] ["_law_state", "_law_many"] (defScope sDig) := ⟨rfl, rfl, rfl, by decide +kernel, rfl, by decide +kernel, by decide +kernel⟩
theorem ok_dig {f C : Addr} {fd : FuncData} (F : Fun K "_law_digit" "_law_digit" sDig f fd) (T : Txt K mg C) : FnOk P w K mg base CX0 1 f fd ["_law_state", "_law_many"] spDig := by
  refine F.ok scDi (fun vs H Q E h => ?_) (fun cdv A outer s H vs Q E hr h => ?_)
  · obtain ⟨sa, z, m, rfl, _⟩ := h
    rfl
  · obtain ⟨sa, z, m, rfl, m0, hs, q⟩ := h
    refine ⟨_, pss_cons (ps_asg (pe_op op_mod (pe_callTy call_int1 (by rfl) T.int (by decide +kernel) (pa_cons (pe_op op_add (pe_op op_mul (pe_ix ix_list (pv 0) pe_int (fun _ _ => rfl)) pe_int) pe_int) pa_nil)) pe_int) (pg_sub (pv 0) pe_int set_list))
      (pss_one (ps_ret (pe_op op_mod (pe_callTy call_int1 (by rfl) T.int (by decide +kernel) (pa_cons (pe_op op_fdiv (pe_ix ix_list (pv 0) pe_int (fun _ _ => rfl)) pe_int) pa_nil)) (pv 1)))), ?_⟩
    refine ⟨_, rfl, sa, _, 0, .int z, rfl, rfl, SqL.of hs, atI_nat (j := 0) rfl, _, _, rfl, rfl, .inr ⟨by decide, by decide⟩, _, _, rfl, rfl, .inl ⟨_, rfl, ?_⟩⟩
    refine ⟨_, _, rfl, rfl, (by show (0 : Int) < 18446744073709551557; decide), _, rfl, sa, _, 0, 0, rfl, rfl, hs, rfl, ?_⟩
    refine ⟨_, rfl, sa, _, 0, _, rfl, rfl, SqL.of upd_same, atI_nat (j := 0) rfl, _, _, rfl, rfl, ⟨by decide, by decide⟩, .inl ⟨_, rfl, ?_⟩⟩
    refine ⟨_, rfl, _, _, rfl, rfl, m0, ?_⟩
    exact q _ _ (Int.emod_nonneg _ (by omega)) (Int.emod_lt_of_pos _ m0)
/-! ### _law_upper -/
theorem scU : FnScope ["_law_schedule", "_law_lanes", "_law_lane", "_law_tick"] ["_law_schedule", "_law_lanes"] (defScope sUp) := ⟨rfl, rfl, rfl, by decide +kernel, rfl, by decide +kernel, by decide +kernel⟩
theorem ok_up {f C fP pP : Addr} {fd dP : FuncData} (F : Fun K "_law_upper" "_law_upper" sUp f fd) (T : Txt K mg C)
    (GP : FnOk P w K mg base CX0 1 fP dP ["self"] (spPend C)) (bP : Binds K dP ["self"] []) (pP : PropOf K C "pending" pP fP) :
    FnOk P w K mg base CX0 3 f fd ["_law_schedule", "_law_lanes"] (spUp C) := by
  refine F.ok scU (fun vs H Q E h => ?_) (fun cdv A outer s H vs Q E hr h => ?_)
  · obtain ⟨p, d, l, ps, ls, rfl, _⟩ := h
    rfl
  · obtain ⟨p, d, l, ps, ls, rfl, S, hl, ⟨ini, m, em, up⟩, q⟩ := h
    obtain ⟨⟨dx, z, h1⟩, hd, g⟩ := id S
    refine ⟨_, pss_cons (ps_for PassesOwn.never rfl (pi_list (pe_prop (pv 0) T.cl pP GP hr bP .nil pass0 rfl)) (pg_tup rfl (pgs_cons (pg_name (i := 2) scU.nd rfl (Or.inl rfl)) (pgs_cons (pg_name (i := 3) scU.nd rfl (Or.inl rfl)) pgs_nil)))
        (pss_one (ps_if (PW.pt (pw_and (pt_cmpR op_lt (pv 2) (pe_ix ix_list (pv 1) (pe_op op_sub (pe_callB call_len_seq (by rfl) T.len PySem.boot_len (pa_cons (pv 1) pa_nil)) pe_int) (fun _ _ => rfl)) (nomark _))
          (pw_and1 (pt_cmpR op_notIn_seq (pv 2) (pv 1) (by rfl))))) (pss_one (ps_ret pe_bl)) pss_nil)))
      (pss_one (ps_ret pe_bl)), ?_⟩
    refine ⟨_, rfl, p, dx, _, rfl, h1, p, d, ps, rfl, S, fun H1 lp rs s1 hrs ht => ?_⟩
    have hl1 := s1 _ _ hl
    refine ⟨lp, rfl, ⟨_, SqL.of hrs⟩, for_list (K := K) (a := lp) (xs := rs) (fun i σ H' => ∃ v2 v3 : Option V, σ = [some (.ref p), some (.ref l), v2, v3] ∧ H' = H1) ⟨none, none, rfl, rfl⟩ (fun i σ H' _ ⟨_, _, _, e⟩ => by rw [e]; exact SqL.of hrs) ?_ ?_⟩
    · rintro i x σ H' hi ⟨v2, v3, rfl, rfl⟩
      obtain ⟨r, k, t, rfl, hr', hk⟩ := ht x (List.mem_of_getElem? hi)
      refine ⟨r, _, rfl, SqT.of hr', rfl, _, _, rfl, _, _, rfl, rfl, ?_⟩
      have ea : atI (ls.map V.int) (((ls.map V.int).length : Int) - 1) = some (.int m) := by
        rw [em]
        exact at_minus
      refine ⟨_, rfl, _, rfl, _, rfl, l, _, rfl, .inl (SqL.of hl1), _, _, rfl, rfl, l, _, _, .int m, rfl, rfl, SqL.of hl1, ea, _, _, rfl, rfl, _, rfl, ite2 (fun c => ?_) (fun _ => ?_)⟩
      · have c := of_decide_eq_true c
        refine ⟨_, rfl, _, rfl, l, _, rfl, .inl (SqL.of hl1), rfl, ints_flat ls, _, rfl, ?_⟩
        have en : (!inV (.int k) (ls.map V.int)) = false := by
          rw [inV_ints, decide_eq_true (up k t hk c)]
          rfl
        show if (!inV (.int k) (ls.map V.int)) = true then _ else _
        rw [en]
        exact iteF ⟨_, _, rfl, rfl⟩
      · exact iteF ⟨_, _, rfl, rfl⟩
    · rintro σ H' ⟨v2, v3, rfl, rfl⟩
      exact q _ s1
/-! ### _law_finish -/
theorem scF : FnScope ["_law_schedule", "_law_lanes", "_law_waited", "_law_now", "_law_lane"] ["_law_schedule", "_law_lanes", "_law_waited", "_law_now"] (defScope sFin) := ⟨rfl, rfl, rfl, by decide +kernel, rfl, by decide +kernel, by decide +kernel⟩
theorem ok_fin {f C fE : Addr} {fd dE : FuncData} (F : Fun K "_law_finish" "_law_finish" sFin f fd) (T : Txt K mg C)
    (GE : FnOk P w K mg base CX0 1 fE dE ["self", "lanes"] (spEnd C)) (bE : Binds K dE ["self", "lanes"] []) (mE : Meth K C "end" fE) :
    FnOk P w K mg base CX0 2 f fd ["_law_schedule", "_law_lanes", "_law_waited", "_law_now"] (spFin C) := by
  refine F.ok scF (fun vs H Q E h => ?_) (fun cdv A outer s H vs Q E hr h => ?_)
  · obtain ⟨p, d, l, wa, now, ps, ls, rfl, _⟩ := h
    rfl
  · obtain ⟨p, d, l, wa, now, ps, ls, rfl, L, hl, nlw, hrg, q⟩ := h
    refine ⟨_, pss_cons (ps_for PassesOwn.never rfl (pi_list (pv 1)) (pg_name (i := 4) scF.nd rfl (Or.inl rfl)) (pss_one (ps_asg pe_non (pg_sub (pv 2) (pv 4) set_list))))
      (pss_one (ps_expr (pe_meth (pv 0) T.cl mE GE hr bE .nil pass0 (pa_cons (pv 1) pa_nil)))), ?_⟩
    refine ⟨_, rfl, l, rfl, ⟨_, SqL.of hl⟩, for_list (K := K) (a := l) (xs := ls.map V.int) (fun i σ H' => ∃ v : Option V, σ = [some (.ref p), some (.ref l), some (.ref wa), some (.int now), v] ∧ H' wa = some (.lst (wl (rmAll ps (ls.take i)))) ∧ Oth [wa] H H')
      ⟨none, rfl, L.W, Oth.refl⟩ (fun i σ H' _ ⟨_, _, _, o⟩ => SqL.of (o _ _ hl (by simp [nlw]))) ?_ ?_⟩
    · rintro i y σ H' hi ⟨v, rfl, hw, o⟩
      obtain ⟨x, hx, rfl⟩ := ints_at hi
      obtain ⟨x0, x4⟩ := hrg x (List.mem_of_getElem? hx)
      refine ⟨_, rfl, _, rfl, wa, _, x, _, rfl, rfl, hw, wl_ix _ x0 x4, ?_⟩
      rw [wl_drop _ x0 x4, ← rmAll_step hx]
      exact ⟨_, rfl, upd_same, o.upd (by simp)⟩
    · rintro σ H' ⟨v, rfl, hw, o⟩
      rw [take_all] at hw
      have S' : SchedAt C H' p d ps := L.S.oth o (by simp [L.nwp.symm]) (by simp [L.nwd.symm])
      have hl' := o _ _ hl (by simp [nlw])
      obtain ⟨⟨dx, z, h1⟩, hd, g⟩ := id S'
      refine ⟨_, rfl, p, dx, _, rfl, h1, flds_no _ _ (by decide +kernel) (by decide +kernel), _, rfl, p, d, l, ps, ls, rfl, S', hl', fun H2 S2 o2 => ?_⟩
      exact q H2 ⟨S2, o2 _ _ hw (by simp [L.nwp, L.nwd])⟩ ((o.mono (by simp)).trans (o2.mono (by simp)))
end
end Vl

/-! ## 5. _law_whole_passes and _law_portions -/
namespace Vl
open PySem L2
section
variable {P : Program} {w : World} {K : PySem.W.Frag} {mg : Str → Option Value} {base : Heap}
theorem scWh : FnScope ["_law_schedule", "_law_waited", "_law_now", "_law_k", "_law_upcoming"] ["_law_schedule", "_law_waited", "_law_now"] (defScope sWh) := ⟨rfl, rfl, rfl, by decide +kernel, rfl, by decide +kernel, by decide +kernel⟩
theorem ok_wh {f C fN fU fF : Addr} {fd dN dU dF : FuncData} (F : Fun K "_law_whole_passes" "_law_whole_passes" sWh f fd) (T : Txt K mg C)
    (GN : FnOk P w K mg base CX0 2 fN dN ["self", "now"] (spNext C)) (bN : KBn K dN ["self", "now"] 1 ["now"] (fun us ws => us ++ ws) (fun vs zs => vs ++ zs)) (mN : Meth K C "next_pass" fN)
    (GU : FnOk P w K mg base CX0 3 fU dU ["_law_schedule", "_law_lanes"] (spUp C)) (bU : Binds K dU ["_law_schedule", "_law_lanes"] []) (gU : mg "_law_upper" = some (.ref fU)) (kU : PySem.W.keepIn K (.ref fU) = true)
    (GF : FnOk P w K mg base CX0 2 fF dF ["_law_schedule", "_law_lanes", "_law_waited", "_law_now"] (spFin C)) (bF : Binds K dF ["_law_schedule", "_law_lanes", "_law_waited", "_law_now"] []) (gF : mg "_law_finish" = some (.ref fF)) (kF : PySem.W.keepIn K (.ref fF) = true) :
    FnOk P w K mg base CX0 4 f fd ["_law_schedule", "_law_waited", "_law_now"] (spWh C) := by
  refine F.ok scWh (fun vs H Q E h => ?_) (fun cdv A outer s H vs Q E hr h => ?_)
  · obtain ⟨p, d, wa, now, ps, rfl, _⟩ := h
    rfl
  · obtain ⟨p, d, wa, now, ps, rfl, L, q⟩ := h
    have hr2 : Room 2 _ := hr.mono (by decide)
    refine ⟨_, pss_cons (ps_for PassesOwn.never rfl (pi_range1 rfl T.range (pa_cons pe_int pa_nil)) (pg_name (i := 3) scWh.nd rfl (Or.inl rfl))
        (pss_cons (ps_set (i := 4) scWh.nd rfl (Or.inl rfl) (pe_methN0 (pv 0) T.cl mN GN hr2 bN pass0 (pk_cons (pv 2) pk_nil)))
        (pss_cons (ps_if (PW.pt (pw_or (pt_cmp (pc_isN (pv 4))) (pw_or1 (pt_not (pt_val (pe_ix ix_tup (pv 4) pe_int (fun _ _ => rfl))))))) (pss_one (ps_ret pe_bl)) pss_nil)
        (pss_cons (ps_if (pt_not (pt_val (pe_call GU hr rfl gU kU bU .nil pass0 (pa_cons (pv 0) (pa_cons (pe_ix ix_tup (pv 4) pe_int (fun _ _ => rfl)) pa_nil))))) (pss_one (ps_ret pe_bl)) pss_nil)
        (pss_one (ps_expr (pe_call GF hr2 rfl gF kF bF .nil pass0 (pa_cons (pv 0) (pa_cons (pe_ix ix_tup (pv 4) pe_int (fun _ _ => rfl)) (pa_cons (pv 1) (pa_cons (pv 2) pa_nil)))))))))))
      (pss_one (ps_ret pe_bl)), ?_⟩
    refine ⟨5, rfl, by decide, by decide, for_range (lo := 0) (n := 5) (fun i σ H' => ∃ (v3 v4 : Option V) (qs : PL), σ = [some (.ref p), some (.ref wa), some (.int now), v3, v4] ∧ LawSt C H' p d wa qs ∧ Oth [p, d, wa] H H' ∧ (i = 0 ∨ (i = 1 ∧ NoOver qs now)))
      ⟨none, none, ps, rfl, L, Oth.refl, .inl rfl⟩ ?_ ?_⟩
    · rintro i σ H' hi ⟨v3, v4, qs, rfl, L', o, hi2⟩
      obtain ⟨⟨dx, z, h1⟩, hd, g⟩ := L'.S
      -- _law_upcoming = _law_schedule.next_pass(now=_law_now)
      refine ⟨_, rfl, p, dx, _, rfl, h1, flds_no _ _ (by decide +kernel) (by decide +kernel), _, rfl, rfl, rfl, p, d, qs, now, rfl, L'.S, fun H1 s1 no => ?_, fun H1 t l ls b s1 ok nl ht hl => ?_⟩
      · -- None
        refine ⟨_, rfl, _, rfl, iteT (iteT ?_)⟩
        exact q H1 qs (L'.same s1) no (o.same s1)
      · refine ⟨_, rfl, _, rfl, iteF ?_⟩
        refine ⟨_, rfl, t, _, 1, .bl b, rfl, rfl, SqT.of ht, atI_nat (j := 1) rfl, _, rfl, ?_⟩
        cases b with
        | false =>
          refine iteT ?_
          exact q H1 qs (L'.same s1) (ok.no rfl) (o.same s1)
        | true =>
          refine iteF ?_
          obtain ⟨⟨k, ek⟩, no⟩ := ok.wh rfl
          have i0 : i = 0 := by
            rcases hi2 with e | ⟨_, n⟩
            · exact e
            · rw [n k] at ek
              cases ek
          have L1 := L'.same s1
          have nlw : l ≠ wa := (ne_of_none L'.W nl).symm
          -- not _law_upper(_law_schedule, _law_upcoming[0])
          refine ⟨_, rfl, _, rfl, t, _, 0, .ref l, rfl, rfl, SqT.of ht, atI_nat (j := 0) rfl, p, d, l, qs, ls, rfl, L1.S, hl, ok.up, fun H2 s2 => ⟨_, rfl, iteF ?_⟩⟩
          -- _law_finish
          refine ⟨_, rfl, _, rfl, t, _, 0, .ref l, rfl, rfl, SqT.of (s2 _ _ ht), atI_nat (j := 0) rfl, _, rfl, _, rfl, p, d, l, wa, now, qs, ls, rfl, L1.same s2, s2 _ _ hl, nlw, ok.rg, fun H3 L3 o3 => ?_⟩
          exact ⟨_, _, _, rfl, L3, ((o.same s1).same s2).trans o3, .inr ⟨by rw [i0], no⟩⟩
    · rintro σ H' ⟨v3, v4, qs, rfl, L', o, hi2⟩
      rcases hi2 with e | ⟨e, _⟩
      · exact absurd e (by decide)
      · exact absurd e (by decide)
/-! ### _law_portions -/
theorem scPr : FnScope ["_law_schedule", "_law_waited", "_law_now", "_law_state", "_law_k", "_law_upcoming"] ["_law_schedule", "_law_waited", "_law_now", "_law_state"] (defScope sPrt) := ⟨rfl, rfl, rfl, by decide +kernel, rfl, by decide +kernel, by decide +kernel⟩
theorem ok_prt {f C fN fU fF fD fW fP : Addr} {fd dN dU dF dD dW dP : FuncData} (F : Fun K "_law_portions" "_law_portions" sPrt f fd) (T : Txt K mg C)
    (GN : FnOk P w K mg base CX0 2 fN dN ["self", "now"] (spNext C)) (bN : KBn K dN ["self", "now"] 1 ["now"] (fun us ws => us ++ ws) (fun vs zs => vs ++ zs)) (mN : Meth K C "next_pass" fN)
    (GU : FnOk P w K mg base CX0 3 fU dU ["_law_schedule", "_law_lanes"] (spUp C)) (bU : Binds K dU ["_law_schedule", "_law_lanes"] []) (gU : mg "_law_upper" = some (.ref fU)) (kU : PySem.W.keepIn K (.ref fU) = true)
    (GF : FnOk P w K mg base CX0 2 fF dF ["_law_schedule", "_law_lanes", "_law_waited", "_law_now"] (spFin C)) (bF : Binds K dF ["_law_schedule", "_law_lanes", "_law_waited", "_law_now"] []) (gF : mg "_law_finish" = some (.ref fF)) (kF : PySem.W.keepIn K (.ref fF) = true)
    (GD : FnOk P w K mg base CX0 1 fD dD ["_law_state", "_law_many"] spDig) (bD : Binds K dD ["_law_state", "_law_many"] []) (gD : mg "_law_digit" = some (.ref fD)) (kD : PySem.W.keepIn K (.ref fD) = true)
    (GW : FnOk P w K mg base CX0 4 fW dW ["_law_schedule", "_law_waited", "_law_now"] (spWh C)) (bW : Binds K dW ["_law_schedule", "_law_waited", "_law_now"] []) (gW : mg "_law_whole_passes" = some (.ref fW)) (kW : PySem.W.keepIn K (.ref fW) = true)
    (GP : FnOk P w K mg base CX0 1 fP dP ["self", "cost"] (spPort C)) (bP : Binds K dP ["self", "cost"] []) (mP : Meth K C "portion" fP) :
    FnOk P w K mg base CX0 5 f fd ["_law_schedule", "_law_waited", "_law_now", "_law_state"] (spPrt C) := by
  refine F.ok scPr (fun vs H Q E h => ?_) (fun cdv A outer s H vs Q E hr h => ?_)
  · obtain ⟨p, d, wa, sa, now, z, ps, rfl, _⟩ := h
    rfl
  · obtain ⟨p, d, wa, sa, now, z, ps, rfl, L, no, hs, nsw, q⟩ := h
    have hr1 : Room 1 _ := hr.mono (by decide)
    have hr2 : Room 2 _ := hr.mono (by decide)
    have hr3 : Room 3 _ := hr.mono (by decide)
    obtain ⟨nsp, nsd⟩ := L.apart hs
    have nwp := L.nwp
    have nwd := L.nwd
    refine ⟨_, pss_cons (ps_for PassesOwn.never rfl (pi_range1 rfl T.range (pa_cons (pe_call GD hr1 rfl gD kD bD .nil pass0 (pa_cons (pv 3) (pa_cons pe_int pa_nil))) pa_nil)) (pg_name (i := 4) scPr.nd rfl (Or.inl rfl))
        (pss_cons (ps_set (i := 5) scPr.nd rfl (Or.inl rfl) (pe_methN0 (pv 0) T.cl mN GN hr2 bN pass0 (pk_cons (pv 2) pk_nil)))
        (pss_cons (ps_if (pt_cmp (pc_isN (pv 5))) (pss_one (ps_ret pe_bl)) pss_nil)
        (pss_cons (ps_if (pt_not (pt_val (pe_call GU hr3 rfl gU kU bU .nil pass0 (pa_cons (pv 0) (pa_cons (pe_ix ix_tup (pv 5) pe_int (fun _ _ => rfl)) pa_nil))))) (pss_one (ps_ret pe_bl)) pss_nil)
        (C8.pss_cut (ps_if (pt_val (pe_meth (pv 0) T.cl mP GP hr1 bP .nil pass0 (pa_cons (pe_op op_add pe_int (pe_call GD hr1 rfl gD kD bD .nil pass0 (pa_cons (pv 3) (pa_cons pe_int pa_nil)))) pa_nil)))
          (pss_one (ps_expr (pe_call GF hr2 rfl gF kF bF .nil pass0 (pa_cons (pv 0) (pa_cons (pe_ix ix_tup (pv 5) pe_int (fun _ _ => rfl)) (pa_cons (pv 1) (pa_cons (pv 2) pa_nil))))))) pss_nil)
        (pss_one (ps_if (pt_not (pt_val (pe_call GW hr rfl gW kW bW .nil pass0 (pa_cons (pv 0) (pa_cons (pv 1) (pa_cons (pv 2) pa_nil)))))) (pss_one (ps_ret pe_bl)) pss_nil)))))))
      (pss_one (ps_ret pe_bl)), ?_⟩
    -- range(_law_digit(_law_state, 4))
    refine ⟨_, rfl, sa, z, 4, rfl, by decide, hs, fun z1 n n0 n4 => ?_⟩
    have o0 : Oth [p, d, wa, sa] H (upd H sa (.lst [.int z1])) := Oth.refl.upd (by simp)
    have L0 : LawSt C (upd H sa (.lst [.int z1])) p d wa ps := L.oth (xs := [sa]) (Oth.refl.upd (by simp)) (by simp [nsp.symm]) (by simp [nsd.symm]) (by simp [nsw.symm])
    refine ⟨n, rfl, by omega, by omega, for_range (lo := 0) (n := n.toNat) (fun i σ H' => ∃ (v4 v5 : Option V) (qs : PL) (y : Int), σ = [some (.ref p), some (.ref wa), some (.int now), some (.ref sa), v4, v5] ∧ LawSt C H' p d wa qs ∧ NoOver qs now ∧ H' sa = some (.lst [.int y]) ∧ Oth [p, d, wa, sa] H H')
      ⟨none, none, ps, z1, rfl, L0, no, upd_same, o0⟩ ?_ ?_⟩
    · rintro i σ H' hi ⟨v4, v5, qs, y, rfl, L', no', hs', o⟩
      obtain ⟨⟨dx, zz, h1⟩, hd, g⟩ := L'.S
      -- _law_upcoming = _law_schedule.next_pass(now=_law_now)
      refine ⟨_, rfl, p, dx, _, rfl, h1, flds_no _ _ (by decide +kernel) (by decide +kernel), _, rfl, rfl, rfl, p, d, qs, now, rfl, L'.S, fun H1 s1 _ => ?_, fun H1 t l ls b s1 ok nl ht hl => ?_⟩
      · refine ⟨_, rfl, _, rfl, iteT ?_⟩
        exact q H1 qs (L'.same s1) no' (o.same s1)
      · refine ⟨_, rfl, _, rfl, iteF ?_⟩
        have L1 := L'.same s1
        have nlw : l ≠ wa := (ne_of_none L'.W nl).symm
        have nls : l ≠ sa := (ne_of_none hs' nl).symm
        -- not _law_upper(_law_schedule, _law_upcoming[0])
        refine ⟨_, rfl, _, rfl, t, _, 0, .ref l, rfl, rfl, SqT.of ht, atI_nat (j := 0) rfl, p, d, l, qs, ls, rfl, L1.S, hl, ok.up, fun H2 s2 => ⟨_, rfl, iteF ?_⟩⟩
        have L2 := L1.same s2
        have hs2 := s2 _ _ (s1 _ _ hs')
        have hl2 := s2 _ _ hl
        have ht2 := s2 _ _ ht
        have o2 := (o.same s1).same s2
        obtain ⟨nlp, nld⟩ := L2.apart hl2
        have nts : t ≠ sa := ne_of ht2 hs2 (by intro z; cases z)
        have ntp : t ≠ p := by
          obtain ⟨⟨dy, y', h2⟩, _, _⟩ := L2.S
          exact ne_of ht2 h2 (by intro z; cases z)
        -- if _law_schedule.portion(1 + _law_digit(_law_state, 5)): _law_finish(..)
        refine ⟨fun σ' H' => ∃ (v4 v5 : Option V) (rs : PL) (x : Int), σ' = [some (.ref p), some (.ref wa), some (.int now), some (.ref sa), v4, v5] ∧ LawSt C H' p d wa rs ∧ NoOver rs now ∧ H' sa = some (.lst [.int x]) ∧ Oth [p, d, wa, sa] H H', ?_, ?_⟩
        · obtain ⟨⟨dy, y', h2⟩, hd2, _⟩ := L2.S
          refine ⟨_, rfl, p, dy, _, rfl, h2, flds_no _ _ (by decide +kernel) (by decide +kernel), _, rfl, sa, y, 5, rfl, by decide, hs2, fun y1 c c0 c5 => ?_⟩
          have o3 : Oth [sa] H2 (upd H2 sa (.lst [.int y1])) := Oth.refl.upd (by simp)
          have L3 : LawSt C (upd H2 sa (.lst [.int y1])) p d wa qs := L2.oth o3 (by simp [nsp.symm]) (by simp [nsd.symm]) (by simp [nsw.symm])
          refine ⟨_, _, rfl, rfl, p, d, qs, _, rfl, L3.S, fun H4 b4 S4 o4 => ⟨_, rfl, ?_⟩⟩
          have hs4 : H4 sa = some (.lst [.int y1]) := o4 _ _ upd_same (by simp [nsp])
          have L4 : LawSt C H4 p d wa qs := ⟨S4, o4 _ _ L3.W (by simp [nwp])⟩
          have o5 : Oth [p, d, wa, sa] H H4 := (o2.trans (o3.mono (by simp))).trans (o4.mono (by simp))
          cases b4 with
          | false => exact iteF ⟨_, _, qs, y1, rfl, L4, no', hs4, o5⟩
          | true =>
            refine iteT ?_
            have hl4 : H4 l = some (.lst (ls.map V.int)) := o4 _ _ (o3 _ _ hl2 (by simp [nls])) (by simp [nlp])
            have ht4 : H4 t = some (.tup [.ref l, .bl b]) := o4 _ _ (o3 _ _ ht2 (by simp [nts])) (by simp [ntp])
            refine ⟨_, rfl, _, rfl, t, _, 0, .ref l, rfl, rfl, SqT.of ht4, atI_nat (j := 0) rfl, _, rfl, _, rfl, p, d, l, wa, now, qs, ls, rfl, L4, hl4, nlw, ok.rg, fun H6 L6 o6 => ?_⟩
            exact ⟨_, _, _, y1, rfl, L6, no'.rmAll ls, o6 _ _ hs4 (by simp [nsp, nsd, nsw]), o5.trans (o6.mono (by simp))⟩
        · -- if not _law_whole_passes(..): return False
          rintro σ' H7 ⟨u4, u5, rs, x, rfl, L7, no7, hs7, o7⟩
          refine ⟨_, rfl, _, rfl, _, rfl, p, d, wa, now, rs, rfl, L7, fun H8 ts L8 no8 o8 => ⟨_, rfl, iteF ?_⟩⟩
          exact ⟨_, _, ts, x, rfl, L8, no8, o8 _ _ hs7 (by simp [nsp, nsd, nsw]), o7.trans (o8.mono (by simp))⟩
    · rintro σ H' ⟨v4, v5, qs, y, rfl, L', no', hs', o⟩
      exact q H' qs L' no' o
end
end Vl

/-! ## 6. law -/
namespace Vl
open PySem L2
abbrev sLaw : Stmt := top 12
def spLaw (K : PySem.W.Frag) : Sp := fun vs H Q _ => ∃ (a : Addr) (ns : List Int), vs = [.ref a] ∧ SqL K H a (ns.map V.int) ∧ ns.length ≤ 63 ∧ ∀ H', Q (.bl true) H'
theorem same_oth {xs : List Addr} {H H1 H2 : Hp} (s : Same H H1) (o : Oth xs H1 H2) (fr : ∀ x ∈ xs, H x = none) : Same H H2 := fun c u e => o c u (s c u e) fun m => by
  rw [fr c m] at e
  cases e
theorem wv_none {ps : PL} {k : Int} (e : lk ps k = none) : wv ps k = .non := by
  unfold wv
  rw [e]
theorem wv_some {ps : PL} {k t : Int} (e : lk ps k = some t) : wv ps k = .int t := by
  unfold wv
  rw [e]
theorem wl_none {ps : PL} {k : Int} (h0 : 0 ≤ k) (h4 : k < 4) (e : lk ps k = none) : atI (wl ps) k = some .non := by
  rw [wl_at ps h0 h4, wv_none e]
theorem wl_some {ps : PL} {k t : Int} (h0 : 0 ≤ k) (h4 : k < 4) (e : lk ps k = some t) : atI (wl ps) k = some (.int t) := by
  rw [wl_at ps h0 h4, wv_some e]
theorem tup_at {a b c d k : Int} (h0 : 0 ≤ k) (h4 : k < 4) : ∃ x : Int, atI [V.int a, V.int b, V.int c, V.int d] k = some (.int x) :=
  four (P := fun k => ∃ x : Int, atI [V.int a, V.int b, V.int c, V.int d] k = some (.int x)) h0 h4 ⟨a, rfl⟩ ⟨b, rfl⟩ ⟨c, rfl⟩ ⟨d, rfl⟩
/-- how many moments -/
def many (n : Int) : Int := if (if n > 8 then n else 8) < 60 then (if n > 8 then n else 8) else 60
theorem many_lo (n : Int) : -(2 ^ 62) ≤ many n := by
  unfold many
  split <;> split <;> omega
theorem many_hi (n : Int) : many n < 2 ^ 62 := by
  unfold many
  split <;> (try split) <;> omega
section
variable {P : Program} {w : World} {K : PySem.W.Frag} {mg : Str → Option Value} {base : Heap}
abbrev lawN : List Str := ["_law_script", "_law_schedule", "_law_waited", "_law_now", "_law_k", "_law_state", "_law_lane", "_law_late", "_law_j"]
theorem scL : FnScope lawN ["_law_script"] (defScope sLaw) := ⟨rfl, rfl, rfl, by decide +kernel, rfl, by decide +kernel, by decide +kernel⟩
theorem ok_law {f C fI fC fW fO fCe fS fD fWh fR : Addr} {fd dI dC dW dO dCe dS dD dWh dR : FuncData} (F : Fun K "law" "law" sLaw f fd) (T : Txt K mg C) (M : Mk K C fI)
    (GI : FnOk P w K mg base CX0 1 fI dI ["self"] (spInit C)) (bI : Binds K dI ["self"] [])
    (GC : FnOk P w K mg base CX0 1 fC dC ["self", "lane"] (spCont C)) (bC : Binds K dC ["self", "lane"] []) (mC : Meth K C "__contains__" fC)
    (GW : FnOk P w K mg base CX0 1 fW dW ["self", "lane", "now"] (spWake C)) (bW : KBn K dW ["self", "lane", "now"] 2 ["now"] (fun us ws => us ++ ws) (fun vs zs => vs ++ zs)) (mW : Meth K C "wake" fW)
    (GO : FnOk P w K mg base CX0 1 fO dO ["self", "lane", "now"] (spOver C)) (bO : KBn K dO ["self", "lane", "now"] 2 ["now"] (fun us ws => us ++ ws) (fun vs zs => vs ++ zs)) (mO : Meth K C "is_overdue" fO)
    (GCe : FnOk P w K mg base CX0 1 fCe dCe ["_law_script", "_law_k"] (spCell K)) (bCe : Binds K dCe ["_law_script", "_law_k"] []) (gCe : mg "_law_cell" = some (.ref fCe)) (kCe : PySem.W.keepIn K (.ref fCe) = true)
    (GS : FnOk P w K mg base CX0 1 fS dS ["_law_cell_here", "_law_k"] spStart) (bS : Binds K dS ["_law_cell_here", "_law_k"] []) (gS : mg "_law_start" = some (.ref fS)) (kS : PySem.W.keepIn K (.ref fS) = true)
    (GD : FnOk P w K mg base CX0 1 fD dD ["_law_state", "_law_many"] spDig) (bD : Binds K dD ["_law_state", "_law_many"] []) (gD : mg "_law_digit" = some (.ref fD)) (kD : PySem.W.keepIn K (.ref fD) = true)
    (GWh : FnOk P w K mg base CX0 4 fWh dWh ["_law_schedule", "_law_waited", "_law_now"] (spWh C)) (bWh : Binds K dWh ["_law_schedule", "_law_waited", "_law_now"] []) (gWh : mg "_law_whole_passes" = some (.ref fWh)) (kWh : PySem.W.keepIn K (.ref fWh) = true)
    (GR : FnOk P w K mg base CX0 5 fR dR ["_law_schedule", "_law_waited", "_law_now", "_law_state"] (spPrt C)) (bR : Binds K dR ["_law_schedule", "_law_waited", "_law_now", "_law_state"] []) (gR : mg "_law_portions" = some (.ref fR)) (kR : PySem.W.keepIn K (.ref fR) = true) :
    FnOk P w K mg base CX0 6 f fd ["_law_script"] (spLaw K) := by
  refine F.ok scL (fun vs H Q E h => ?_) (fun cdv A outer s H vs Q E hr h => ?_)
  · obtain ⟨a, ns, rfl, _⟩ := h
    rfl
  · obtain ⟨a, ns, rfl, hS, hlen, q⟩ := h
    have hr1 : Room 1 _ := hr.mono (by decide)
    have hr2 : Room 2 _ := hr.mono (by decide)
    have hr4 : Room 4 _ := hr.mono (by decide)
    obtain ⟨pa, cv, tp⟩ := T.pat
    refine ⟨_, pss_cons (ps_set (i := 1) scL.nd rfl (Or.inl rfl) (pe_make0 M GI hr2 rfl T.mgC bI .nil pass0))
      (pss_cons (ps_set (i := 2) scL.nd rfl (Or.inl rfl) (pe_lst (pa_cons pe_non (pa_cons pe_non (pa_cons pe_non (pa_cons pe_non pa_nil))))))
      (pss_cons (ps_set (i := 3) scL.nd rfl (Or.inl rfl) pe_int)
      (pss_cons (ps_for PassesOwn.never rfl (pi_range1 rfl T.range (pa_cons (pe_callB (call_min2 rfl) (by rfl) T.min PyProof.Rows.boot_min (pa_cons pe_int (pa_cons (pe_callB (call_max2 rfl) (by rfl) T.max PyProof.Rows.boot_max (pa_cons pe_int (pa_cons (pe_callB call_len_seq (by rfl) T.len PySem.boot_len (pa_cons (pv 0) pa_nil)) pa_nil))) pa_nil))) pa_nil)) (pg_name (i := 4) scL.nd rfl (Or.inl rfl))
        (pss_cons (ps_set (i := 5) scL.nd rfl (Or.inl rfl) (pe_call GS hr1 rfl gS kS bS .nil pass0 (pa_cons (pe_call GCe hr1 rfl gCe kCe bCe .nil pass0 (pa_cons (pv 0) (pa_cons (pv 4) pa_nil))) (pa_cons (pv 4) pa_nil))))
        (pss_cons (ps_set (i := 3) scL.nd rfl (Or.inl rfl) (pe_op op_add (pv 3) (pe_ix ix_tup (pe_tup (pa_cons pe_int (pa_cons (pe_call GD hr1 rfl gD kD bD .nil pass0 (pa_cons (pv 5) (pa_cons pe_int pa_nil))) (pa_cons (pe_call GD hr1 rfl gD kD bD .nil pass0 (pa_cons (pv 5) (pa_cons pe_int pa_nil))) (pa_cons pe_int pa_nil)))))
            (pe_call GD hr1 rfl gD kD bD .nil pass0 (pa_cons (pv 5) (pa_cons pe_int pa_nil))) (fun _ _ => rfl))))
        (C8.pss_cut (ps_for PassesOwn.never rfl (pi_range1 rfl T.range (pa_cons pe_int pa_nil)) (pg_name (i := 6) scL.nd rfl (Or.inl rfl))
          (pss_cons (ps_set (i := 7) scL.nd rfl (Or.inl rfl) (pe_and (pe_cmp (pc_notN (pe_ix ix_list (pv 2) (pv 6) (fun _ _ => rfl))))
              (pe_one (pe_cmpR op_le (pe_op op_add (pe_ix ix_list (pv 2) (pv 6) (fun _ _ => rfl)) (pe_ix ix_tup (ClX.pe_cval (pe_glob (v := V.ref C) rfl T.mgC rfl)) (pv 6) (fun _ _ => rfl))) (pv 3) (nomark _)))))
          (pss_one (ps_if (PW.pt (pw_and (pt_val (pv 7)) (pw_and1 (pt_not (pt_val (pe_methN (pv 1) T.cl mO GO hr1 bO pass0 (pa_cons (pv 6) pa_nil) (pk_cons (pv 3) pk_nil))))))) (pss_one (ps_ret pe_bl)) pss_nil))))
        (C8.pss_cut (ps_for PassesOwn.never rfl (pi_range1 rfl T.range (pa_cons (pe_call GD hr1 rfl gD kD bD .nil pass0 (pa_cons (pv 5) (pa_cons pe_int pa_nil))) pa_nil)) (pg_name (i := 8) scL.nd rfl (Or.inl rfl))
          (pss_cons (ps_set (i := 6) scL.nd rfl (Or.inl rfl) (pe_call GD hr1 rfl gD kD bD .nil pass0 (pa_cons (pv 5) (pa_cons pe_int pa_nil))))
          (pss_cons (ps_expr (pe_methN (pv 1) T.cl mW GW hr1 bW pass0 (pa_cons (pv 6) pa_nil) (pk_cons (pv 3) pk_nil)))
          (pss_one (ps_if (pt_cmp (pc_isN (pe_ix ix_list (pv 2) (pv 6) (fun _ _ => rfl)))) (pss_one (ps_asg (pv 3) (pg_sub (pv 2) (pv 6) set_list))) pss_nil)))))
        (pss_cons (ps_if (PW.pt (pw_or (pt_not (pt_val (pe_call GWh hr4 rfl gWh kWh bWh .nil pass0 (pa_cons (pv 1) (pa_cons (pv 2) (pa_cons (pv 3) pa_nil))))))
            (pw_or1 (pt_not (pt_val (pe_call GR hr rfl gR kR bR .nil pass0 (pa_cons (pv 1) (pa_cons (pv 2) (pa_cons (pv 3) (pa_cons (pv 5) pa_nil)))))))))) (pss_one (ps_ret pe_bl)) pss_nil)
        (pss_one (ps_for PassesOwn.never rfl (pi_range1 rfl T.range (pa_cons pe_int pa_nil)) (pg_name (i := 6) scL.nd rfl (Or.inl rfl))
          (pss_cons (ps_if (PW.pt (pw_or (pt_val (pe_methN (pv 1) T.cl mO GO hr1 bO pass0 (pa_cons (pv 6) pa_nil) (pk_cons (pv 3) pk_nil)))
              (pw_or1 (pt_cmpR op_ne (pe_cmpR (op_in_own mC GC hr1 bC pass0) (pv 6) (pv 1) (by rfl)) (pe_cmp (pc_notN (pe_ix ix_list (pv 2) (pv 6) (fun _ _ => rfl)))) (nomark _))))) (pss_one (ps_ret pe_bl)) pss_nil)
          (pss_one (ps_if (PW.pt (pw_and (pt_cmp (pc_notN (pe_ix ix_list (pv 2) (pv 6) (fun _ _ => rfl))))
              (pw_and1 (pt_cmpR op_le (pe_op op_add (pe_ix ix_list (pv 2) (pv 6) (fun _ _ => rfl)) (pe_ix ix_tup (ClX.pe_cval (pe_glob (v := V.ref C) rfl T.mgC rfl)) (pv 6) (fun _ _ => rfl))) (pv 3) (nomark _))))) (pss_one (ps_ret pe_bl)) pss_nil)))))))))))
      (pss_one (ps_ret pe_bl))))), ?_⟩
    -- _law_schedule = Schedule()
    intro p dx nx ndx nex
    refine ⟨p, dx, rfl, upd_same, fun d H1 fd0 S1 kp => ⟨rfl, ?_⟩⟩
    have s0 : Same H (upd (upd H dx (.own p)) p (.ins C dx [])) := same_own (same_new (Same.refl H) ndx) nx
    have s1 : Same H H1 := same_oth s0 kp (by simp [nx])
    have nd0 : H d = none := s0.free fd0
    -- _law_waited = [None, None, None, None]
    refine ⟨by show 4 ≤ sizeLine; decide, fun wa nw1 => ?_⟩
    have nw0 : H wa = none := s1.free nw1
    have L0 : LawSt C (upd H1 wa (.lst [.non, .non, .non, .non])) p d wa [] := ⟨S1.same (same_new (Same.refl _) nw1), upd_same⟩
    have s2 : Same H (upd H1 wa (.lst [.non, .non, .non, .non])) := same_new s1 nw1
    -- for _law_k in range(min(60, max(8, len(_law_script))))
    refine ⟨_, rfl, a, _, rfl, .inl (s2.seq hS), _, _, rfl, _, _, rfl, many (((ns.map V.int).length : Nat) : Int), rfl, many_lo _, many_hi _,
      for_range (lo := 0) (n := (many (((ns.map V.int).length : Nat) : Int)).toNat) (fun i σ H' => ∃ (v4 v5 v6 v7 v8 : Option V) (ps : PL) (now : Int), σ = [some (.ref a), some (.ref p), some (.ref wa), some (.int now), v4, v5, v6, v7, v8] ∧ LawSt C H' p d wa ps ∧ Same H H')
      ⟨none, none, none, none, none, [], 0, rfl, L0, s2⟩ ?_ ?_⟩
    · rintro i σ H3 hi ⟨v4, v5, v6, v7, v8, ps, now, rfl, L3, s3⟩
      -- _law_state = _law_start(_law_cell(_law_script, _law_k), _law_k)
      refine ⟨_, rfl, _, rfl, a, ns, _, rfl, s3.seq hS, by omega, fun zc => ⟨_, rfl, zc, _, rfl, fun z0 sa nsa => ?_⟩⟩
      have L4 := L3.same (same_new (o := .lst [.int z0]) (Same.refl H3) nsa)
      have hs4 : (upd H3 sa (.lst [.int z0])) sa = some (.lst [.int z0]) := upd_same
      have s4 : Same H (upd H3 sa (.lst [.int z0])) := same_new s3 nsa
      have nsH : H sa = none := s3.free nsa
      have nsw : sa ≠ wa := (ne_of_none L3.W nsa).symm
      generalize upd H3 sa (.lst [.int z0]) = H4 at L4 hs4 s4 ⊢
      obtain ⟨nsp, nsd⟩ := L4.apart hs4
      have nwp := L4.nwp
      have nwd := L4.nwd
      have dig : ∀ {H' : Hp} {qs : PL} (y : Int), LawSt C H' p d wa qs → Same H H' → LawSt C (upd H' sa (.lst [.int y])) p d wa qs ∧ Same H (upd H' sa (.lst [.int y])) := fun y L' s' =>
        ⟨L'.oth (xs := [sa]) (Oth.refl.upd (by simp)) (by simp [nsp.symm]) (by simp [nsd.symm]) (by simp [nsw.symm]), same_own s' nsH⟩
      -- _law_now = _law_now + (1, .., .., 60000)[..]
      refine ⟨_, rfl, _, rfl, sa, z0, 50, rfl, by decide, hs4, fun z1 k1 _ _ => ⟨_, rfl, sa, z1, 9000, rfl, by decide, upd_same, fun z2 k2 _ _ => ⟨by show 4 ≤ sizeLine; decide, fun t nt => ?_⟩⟩⟩
      obtain ⟨L5, s5⟩ := dig z1 L4 s4
      obtain ⟨L6, s6⟩ := dig z2 L5 s5
      have hs6 : (upd (upd H4 sa (.lst [.int z1])) sa (.lst [.int z2])) sa = some (.lst [.int z2]) := upd_same
      generalize upd (upd H4 sa (.lst [.int z1])) sa (.lst [.int z2]) = H6 at L6 s6 hs6 nt ⊢
      have st := same_new (o := .tup [.int 1, .int k1, .int k2, .int 60000]) (Same.refl H6) nt
      have L7 := L6.same st
      have s7 := s6.trans st
      have nts : t ≠ sa := (ne_of_none hs6 nt).symm
      refine ⟨_, rfl, sa, z2, 4, rfl, by decide, st _ _ hs6, fun z3 k3 k30 k34 => ?_⟩
      obtain ⟨x, ex⟩ := tup_at (a := 1) (b := k1) (c := k2) (d := 60000) k30 k34
      refine ⟨t, _, k3, .int x, rfl, rfl, SqT.of (by rw [upd_ne nts]; exact upd_same), ex, _, _, rfl, rfl, ?_⟩
      obtain ⟨L8, s8⟩ := dig z3 L7 s7
      have hs8 : (upd (upd H6 t (.tup [.int 1, .int k1, .int k2, .int 60000])) sa (.lst [.int z3])) sa = some (.lst [.int z3]) := upd_same
      generalize upd (upd H6 t (.tup [.int 1, .int k1, .int k2, .int 60000])) sa (.lst [.int z3]) = H8 at L8 s8 hs8 ⊢
      obtain ⟨now', en⟩ : ∃ y : Int, y = now + x := ⟨_, rfl⟩
      -- for _law_lane in range(4): what waits too long is overdue
      refine ⟨fun σ' H' => H' = H8 ∧ ∃ v6 v7 : Option V, σ' = [some (.ref a), some (.ref p), some (.ref wa), some (.int now'), some (.int (0 + (i : Int))), some (.ref sa), v6, v7, v8], ?_, ?_⟩
      · refine ⟨4, rfl, by decide, by decide, for_range (lo := 0) (n := 4) (fun j σ' H' => H' = H8 ∧ ∃ v6 v7 : Option V, σ' = [some (.ref a), some (.ref p), some (.ref wa), some (.int now'), some (.int (0 + (i : Int))), some (.ref sa), v6, v7, v8]) ⟨rfl, v6, v7, by rw [en]; rfl⟩ ?_ (fun _ _ h => h)⟩
        rintro j σ' H' hj ⟨rfl, u6, u7, rfl⟩
        have j0 : 0 ≤ (0 : Int) + (j : Int) := by omega
        have j4 : (0 : Int) + (j : Int) < 4 := by omega
        generalize hk : (0 : Int) + (j : Int) = k at j0 j4 ⊢
        cases e : lk ps k with
        | none =>
          refine ⟨_, rfl, _, rfl, wa, _, k, .non, rfl, rfl, SqL.of L8.W, wl_none j0 j4 e, _, rfl, iteF ?_⟩
          exact ⟨_, rfl, _, rfl, iteF (iteF ⟨rfl, _, _, rfl⟩)⟩
        | some t' =>
          refine ⟨_, rfl, _, rfl, wa, _, k, .int t', rfl, rfl, SqL.of L8.W, wl_some j0 j4 e, _, rfl, iteT ?_⟩
          refine ⟨_, rfl, _, rfl, wa, _, k, .int t', rfl, rfl, SqL.of L8.W, wl_some j0 j4 e, C, _, _, _, rfl, T.cr, cv, _, rfl, pa, _, k, _, rfl, rfl, tp _, pat_at j0 j4, _, _, rfl, rfl, _, rfl, _, _, rfl, rfl, ?_⟩
          refine ⟨_, rfl, _, rfl, ?_⟩
          obtain ⟨⟨dy, y', h1⟩, _, _⟩ := L8.S
          have eo := over_some (now := now') e
          cases el : decide (t' + pat k ≤ now') with
          | false => exact iteF (iteF ⟨rfl, _, _, rfl⟩)
          | true =>
            rw [el] at eo
            refine iteT ?_
            refine ⟨_, rfl, p, dy, _, rfl, h1, flds_no _ _ (by decide +kernel) (by decide +kernel), _, rfl, _, rfl, rfl, rfl, p, d, ps, k, now', rfl, L8.S, _, rfl, ?_⟩
            rw [eo]
            exact iteF ⟨rfl, _, _, rfl⟩
      · rintro σ' H' ⟨rfl, u6, u7, rfl⟩
        -- for _law_j in range(_law_digit(_law_state, 4)): wake
        refine ⟨fun σ' H' => ∃ (v6 v7 v8 : Option V) (qs : PL) (y : Int), σ' = [some (.ref a), some (.ref p), some (.ref wa), some (.int now'), some (.int (0 + (i : Int))), some (.ref sa), v6, v7, v8] ∧ LawSt C H' p d wa qs ∧ Same H H' ∧ H' sa = some (.lst [.int y]), ?_, ?_⟩
        · refine ⟨_, rfl, sa, z3, 4, rfl, by decide, hs8, fun z4 m m0 m4 => ?_⟩
          obtain ⟨L9, s9⟩ := dig z4 L8 s8
          refine ⟨m, rfl, by omega, by omega, for_range (lo := 0) (n := m.toNat) (fun j σ' H' => ∃ (v6 v7 v8 : Option V) (qs : PL) (y : Int), σ' = [some (.ref a), some (.ref p), some (.ref wa), some (.int now'), some (.int (0 + (i : Int))), some (.ref sa), v6, v7, v8] ∧ LawSt C H' p d wa qs ∧ Same H H' ∧ H' sa = some (.lst [.int y]))
            ⟨_, _, _, ps, z4, rfl, L9, s9, upd_same⟩ ?_ (fun _ _ h => h)⟩
          rintro j σ' H' hj ⟨w6, w7, w8, qs, y, rfl, L10, s10, hs10⟩
          refine ⟨_, rfl, sa, y, 4, rfl, by decide, hs10, fun y1 k k0 k4 => ?_⟩
          obtain ⟨L11, s11⟩ := dig y1 L10 s10
          have hs11 : (upd H' sa (.lst [.int y1])) sa = some (.lst [.int y1]) := upd_same
          generalize upd H' sa (.lst [.int y1]) = H11 at L11 s11 hs11 ⊢
          obtain ⟨⟨dy, y', h1⟩, _, _⟩ := L11.S
          refine ⟨_, rfl, p, dy, _, rfl, h1, flds_no _ _ (by decide +kernel) (by decide +kernel), _, rfl, _, rfl, rfl, rfl, p, d, qs, k, now', rfl, L11.S, k0, k4, fun H12 S12 o12 => ?_⟩
          have hw12 : H12 wa = some (.lst (wl qs)) := o12 _ _ L11.W (by simp [nwp, nwd])
          have hs12 : H12 sa = some (.lst [.int y1]) := o12 _ _ hs11 (by simp [nsp, nsd])
          have s12 : Same H H12 := same_oth s11 o12 (by simp [nx, nd0])
          cases e : lk qs k with
          | none =>
            have ew : wk qs k now' = qs ++ [(k, now')] := by
              unfold wk
              rw [e]
            rw [ew] at S12
            refine ⟨_, rfl, _, rfl, wa, _, k, .non, rfl, rfl, SqL.of hw12, wl_none k0 k4 e, _, rfl, iteT ?_⟩
            refine ⟨_, rfl, _, rfl, _, rfl, wa, _, k, _, rfl, rfl, hw12, wl_ix _ k0 k4, ?_⟩
            rw [wl_wake k0 k4 e]
            refine ⟨_, _, _, qs ++ [(k, now')], y1, rfl, ⟨S12.oth (xs := [wa]) (Oth.refl.upd (by simp)) (by simp [nwp.symm]) (by simp [nwd.symm]), upd_same⟩, same_own s12 nw0, ?_⟩
            rw [upd_ne nsw]
            exact hs12
          | some t' =>
            have ew : wk qs k now' = qs := by
              unfold wk
              rw [e]
            rw [ew] at S12
            refine ⟨_, rfl, _, rfl, wa, _, k, .int t', rfl, rfl, SqL.of hw12, wl_some k0 k4 e, _, rfl, iteF ?_⟩
            exact ⟨_, _, _, qs, y1, rfl, ⟨S12, hw12⟩, s12, hs12⟩
        · -- the passes
          rintro σ' H9 ⟨w6, w7, w8, qs, y, rfl, L9, s9, hs9⟩
          refine ⟨_, rfl, _, rfl, _, rfl, p, d, wa, now', qs, rfl, L9, fun H10 rs L10 no10 o10 => ⟨_, rfl, iteF ?_⟩⟩
          have hs10 : H10 sa = some (.lst [.int y]) := o10 _ _ hs9 (by simp [nsp, nsd, nsw])
          refine ⟨_, rfl, _, rfl, _, rfl, _, rfl, p, d, wa, sa, now', y, rs, rfl, L10, no10, hs10, nsw, fun H11 ts L11 no11 o11 => ⟨_, rfl, iteF ?_⟩⟩
          have s10 : Same H H10 := same_oth s9 o10 (by simp [nx, nd0, nw0])
          have s11 : Same H H11 := same_oth s10 o11 (by simp [nx, nd0, nw0, nsH])
          obtain ⟨⟨dy, y', h1⟩, _, _⟩ := L11.S
          -- for _law_lane in range(4): nothing is overdue, nothing is missed
          refine ⟨4, rfl, by decide, by decide, for_range (lo := 0) (n := 4) (fun j σ' H' => H' = H11 ∧ ∃ v6 : Option V, σ' = [some (.ref a), some (.ref p), some (.ref wa), some (.int now'), some (.int (0 + (i : Int))), some (.ref sa), v6, w7, w8]) ⟨rfl, _, rfl⟩ ?_ ?_⟩
          · rintro j σ' H' hj ⟨rfl, u6, rfl⟩
            have j0 : 0 ≤ (0 : Int) + (j : Int) := by omega
            have j4 : (0 : Int) + (j : Int) < 4 := by omega
            generalize hk : (0 : Int) + (j : Int) = k at j0 j4 ⊢
            refine ⟨_, rfl, p, dy, _, rfl, h1, flds_no _ _ (by decide +kernel) (by decide +kernel), _, rfl, _, rfl, rfl, rfl, p, d, ts, k, now', rfl, L11.S, _, rfl, ?_⟩
            rw [no11 k]
            refine iteF ?_
            cases e : lk ts k with
            | none =>
              refine ⟨_, rfl, _, rfl, p, dy, _, rfl, h1, p, d, ts, k, rfl, L11.S, _, rfl, ?_⟩
              rw [e]
              refine ⟨_, rfl, _, rfl, wa, _, k, .non, rfl, rfl, SqL.of L11.W, wl_none j0 j4 e, rfl, _, rfl, iteF ?_⟩
              refine ⟨_, rfl, _, rfl, wa, _, k, .non, rfl, rfl, SqL.of L11.W, wl_none j0 j4 e, _, rfl, iteF (iteF ?_)⟩
              exact ⟨rfl, _, rfl⟩
            | some t' =>
              have eo := over_some (now := now') e
              rw [no11 k] at eo
              refine ⟨_, rfl, _, rfl, p, dy, _, rfl, h1, p, d, ts, k, rfl, L11.S, _, rfl, ?_⟩
              rw [e]
              refine ⟨_, rfl, _, rfl, wa, _, k, .int t', rfl, rfl, SqL.of L11.W, wl_some j0 j4 e, rfl, _, rfl, iteF ?_⟩
              refine ⟨_, rfl, _, rfl, wa, _, k, .int t', rfl, rfl, SqL.of L11.W, wl_some j0 j4 e, _, rfl, iteT ?_⟩
              refine ⟨_, rfl, _, rfl, wa, _, k, .int t', rfl, rfl, SqL.of L11.W, wl_some j0 j4 e, C, _, _, _, rfl, T.cr, cv, _, rfl, pa, _, k, _, rfl, rfl, tp _, pat_at j0 j4, _, _, rfl, rfl, _, rfl, _, _, rfl, rfl, _, rfl, ?_⟩
              rw [← eo]
              exact iteF ⟨rfl, _, rfl⟩
          · rintro σ' H' ⟨rfl, u6, rfl⟩
            exact ⟨_, _, _, _, _, ts, now', rfl, L11, s11⟩
    · rintro σ H' ⟨v4, v5, v6, v7, v8, ps, now, rfl, L', s'⟩
      exact q H'
end
end Vl

/-! ## 7. What the top has written (each a fact that k_is finds), and the law's own head -/
namespace Vl
open PySem L2
theorem all_mk {l : PySem.W.OpenLaw} {w : World} {K : PySem.W.Frag} {h : Heap} {mg : Str → Option Value} {fa C pP pa : Addr} {fI fC fP fW fO fN fQ fE fA fS fD fU fF fH fR fL : Addr} (X : K.In h) (G : h.Ns mainGlobals mg) (hfa : mg "law" = some (.ref fa))
    {odI anI odC anC odP anP odW anW odO anO odN anN odQ anQ odE anE odA anA odS anS odD anD odU anU odF anF odH anH odR anR odL anL : Option Addr} {slI slC slP slW slO slN slQ slE slA slS slD slU slF slH slR slL : Array (Option Value)} {ocI kVI dcI pmI cdI ctI ocC kVC dcC pmC cdC ctC ocP kVP dcP pmP cdP ctP ocW kVW dcW pmW cdW ctW ocO kVO dcO pmO cdO ctO ocN kVN dcN pmN cdN ctN ocQ kVQ dcQ pmQ cdQ ctQ ocE kVE dcE pmE cdE ctE ocA kVA dcA pmA cdA ctA ocS kVS dcS pmS cdS ctS ocD kVD dcD pmD cdD ctD ocU kVU dcU pmU cdU ctU ocF kVF dcF pmF cdF ctF ocH kVH dcH pmH cdH ctH ocR kVR dcR pmR cdR ctR ocL kVL dcL pmL cdL ctL : Value} {restP : List Value} {tdp : Option Addr} {slp : Array (Option Value)} {np : Nat} {t0 t1 t2 t3 : Tok}
    (aCls : PySem.W.nsIn K mainGlobals "Schedule" = some (some (.ref C)))
    (aI : PySem.W.findIn K (.ref C) "__init__" = some (some (.ref fI)))
    (iI : PySem.W.isFn K (.ref fI) = true)
    (lI : K.lookup fI = some ⟨ocI, odI, .func (PySem.W.fnOf "__init__" "Schedule.__init__" (defArgs sInit) (defBody sInit) (defScope sInit) .none kVI dcI pmI anI cdI ctI), slI⟩)
    (cI : PySem.W.codeIn K cdI "Schedule.__init__" = true)
    (kI : PySem.W.keepIn K (.ref fI) = true)
    (aC : PySem.W.findIn K (.ref C) "__contains__" = some (some (.ref fC)))
    (iC : PySem.W.isFn K (.ref fC) = true)
    (lC : K.lookup fC = some ⟨ocC, odC, .func (PySem.W.fnOf "__contains__" "Schedule.__contains__" (defArgs sCont) (defBody sCont) (defScope sCont) .none kVC dcC pmC anC cdC ctC), slC⟩)
    (cC : PySem.W.codeIn K cdC "Schedule.__contains__" = true)
    (kC : PySem.W.keepIn K (.ref fC) = true)
    (pat : PySem.W.findIn K (.ref C) "pending" = some (some (.ref pP)))
    (pget : PySem.W.specialIn K (.ref pP) "__get__" = some (some (.builtin "property.__get__")))
    (ptk : PySem.W.takesIn K (.ref pP) = some true)
    (prec : PySem.W.recIn K pP "property" = some (.ref fP :: restP))
    (lP : K.lookup fP = some ⟨ocP, odP, .func (PySem.W.fnOf "pending" "Schedule.pending" (defArgs sPend) (defBody sPend) (defScope sPend) .none kVP dcP pmP anP cdP ctP), slP⟩)
    (cP : PySem.W.codeIn K cdP "Schedule.pending" = true)
    (kP : PySem.W.keepIn K (.ref fP) = true)
    (aW : PySem.W.findIn K (.ref C) "wake" = some (some (.ref fW)))
    (iW : PySem.W.isFn K (.ref fW) = true)
    (lW : K.lookup fW = some ⟨ocW, odW, .func (PySem.W.fnOf "wake" "Schedule.wake" (defArgs sWake) (defBody sWake) (defScope sWake) .none kVW dcW pmW anW cdW ctW), slW⟩)
    (cW : PySem.W.codeIn K cdW "Schedule.wake" = true)
    (kW : PySem.W.keepIn K (.ref fW) = true)
    (aO : PySem.W.findIn K (.ref C) "is_overdue" = some (some (.ref fO)))
    (iO : PySem.W.isFn K (.ref fO) = true)
    (lO : K.lookup fO = some ⟨ocO, odO, .func (PySem.W.fnOf "is_overdue" "Schedule.is_overdue" (defArgs sOver) (defBody sOver) (defScope sOver) .none kVO dcO pmO anO cdO ctO), slO⟩)
    (cO : PySem.W.codeIn K cdO "Schedule.is_overdue" = true)
    (kO : PySem.W.keepIn K (.ref fO) = true)
    (aN : PySem.W.findIn K (.ref C) "next_pass" = some (some (.ref fN)))
    (iN : PySem.W.isFn K (.ref fN) = true)
    (lN : K.lookup fN = some ⟨ocN, odN, .func (PySem.W.fnOf "next_pass" "Schedule.next_pass" (defArgs sNext) (defBody sNext) (defScope sNext) .none kVN dcN pmN anN cdN ctN), slN⟩)
    (cN : PySem.W.codeIn K cdN "Schedule.next_pass" = true)
    (kN : PySem.W.keepIn K (.ref fN) = true)
    (aQ : PySem.W.findIn K (.ref C) "portion" = some (some (.ref fQ)))
    (iQ : PySem.W.isFn K (.ref fQ) = true)
    (lQ : K.lookup fQ = some ⟨ocQ, odQ, .func (PySem.W.fnOf "portion" "Schedule.portion" (defArgs sPort) (defBody sPort) (defScope sPort) .none kVQ dcQ pmQ anQ cdQ ctQ), slQ⟩)
    (cQ : PySem.W.codeIn K cdQ "Schedule.portion" = true)
    (kQ : PySem.W.keepIn K (.ref fQ) = true)
    (aE : PySem.W.findIn K (.ref C) "end" = some (some (.ref fE)))
    (iE : PySem.W.isFn K (.ref fE) = true)
    (lE : K.lookup fE = some ⟨ocE, odE, .func (PySem.W.fnOf "end" "Schedule.end" (defArgs sEnd) (defBody sEnd) (defScope sEnd) .none kVE dcE pmE anE cdE ctE), slE⟩)
    (cE : PySem.W.codeIn K cdE "Schedule.end" = true)
    (kE : PySem.W.keepIn K (.ref fE) = true)
    (aA : PySem.W.nsIn K mainGlobals "_law_cell" = some (some (.ref fA)))
    (lA : K.lookup fA = some ⟨ocA, odA, .func (PySem.W.fnOf "_law_cell" "_law_cell" (defArgs sCell) (defBody sCell) (defScope sCell) .none kVA dcA pmA anA cdA ctA), slA⟩)
    (cA : PySem.W.codeIn K cdA "_law_cell" = true)
    (kA : PySem.W.keepIn K (.ref fA) = true)
    (aS : PySem.W.nsIn K mainGlobals "_law_start" = some (some (.ref fS)))
    (lS : K.lookup fS = some ⟨ocS, odS, .func (PySem.W.fnOf "_law_start" "_law_start" (defArgs sStart) (defBody sStart) (defScope sStart) .none kVS dcS pmS anS cdS ctS), slS⟩)
    (cS : PySem.W.codeIn K cdS "_law_start" = true)
    (kS : PySem.W.keepIn K (.ref fS) = true)
    (aD : PySem.W.nsIn K mainGlobals "_law_digit" = some (some (.ref fD)))
    (lD : K.lookup fD = some ⟨ocD, odD, .func (PySem.W.fnOf "_law_digit" "_law_digit" (defArgs sDig) (defBody sDig) (defScope sDig) .none kVD dcD pmD anD cdD ctD), slD⟩)
    (cD : PySem.W.codeIn K cdD "_law_digit" = true)
    (kD : PySem.W.keepIn K (.ref fD) = true)
    (aU : PySem.W.nsIn K mainGlobals "_law_upper" = some (some (.ref fU)))
    (lU : K.lookup fU = some ⟨ocU, odU, .func (PySem.W.fnOf "_law_upper" "_law_upper" (defArgs sUp) (defBody sUp) (defScope sUp) .none kVU dcU pmU anU cdU ctU), slU⟩)
    (cU : PySem.W.codeIn K cdU "_law_upper" = true)
    (kU : PySem.W.keepIn K (.ref fU) = true)
    (aF : PySem.W.nsIn K mainGlobals "_law_finish" = some (some (.ref fF)))
    (lF : K.lookup fF = some ⟨ocF, odF, .func (PySem.W.fnOf "_law_finish" "_law_finish" (defArgs sFin) (defBody sFin) (defScope sFin) .none kVF dcF pmF anF cdF ctF), slF⟩)
    (cF : PySem.W.codeIn K cdF "_law_finish" = true)
    (kF : PySem.W.keepIn K (.ref fF) = true)
    (aH : PySem.W.nsIn K mainGlobals "_law_whole_passes" = some (some (.ref fH)))
    (lH : K.lookup fH = some ⟨ocH, odH, .func (PySem.W.fnOf "_law_whole_passes" "_law_whole_passes" (defArgs sWh) (defBody sWh) (defScope sWh) .none kVH dcH pmH anH cdH ctH), slH⟩)
    (cH : PySem.W.codeIn K cdH "_law_whole_passes" = true)
    (kH : PySem.W.keepIn K (.ref fH) = true)
    (aR : PySem.W.nsIn K mainGlobals "_law_portions" = some (some (.ref fR)))
    (lR : K.lookup fR = some ⟨ocR, odR, .func (PySem.W.fnOf "_law_portions" "_law_portions" (defArgs sPrt) (defBody sPrt) (defScope sPrt) .none kVR dcR pmR anR cdR ctR), slR⟩)
    (cR : PySem.W.codeIn K cdR "_law_portions" = true)
    (kR : PySem.W.keepIn K (.ref fR) = true)
    (aL : PySem.W.nsIn K mainGlobals "law" = some (some (.ref fL)))
    (lL : K.lookup fL = some ⟨ocL, odL, .func (PySem.W.fnOf "law" "law" (defArgs sLaw) (defBody sLaw) (defScope sLaw) .none kVL dcL pmL anL cdL ctL), slL⟩)
    (cL : PySem.W.codeIn K cdL "law" = true)
    (kL : PySem.W.keepIn K (.ref fL) = true)
    (pg : PySem.W.plainGet K C Str.empty = true)
    (hd : PySem.W.hasDictIn K C = true)
    (po : PySem.W.plainOver K C = true)
    (sa : PySem.W.findIn K (.ref C) "__setattr__" = some (some (.builtin "object.__setattr__")))
    (mk : PySem.W.makesIn K C = true)
    (kC0 : PySem.W.keepIn K (.ref C) = true)
    (nS : PySem.W.findIn K (.ref C) "since" = some none)
    (nD : PySem.W.findIn K (.ref C) "done" = some none)
    (rd : PySem.W.readsIn K C (.type "type") = true)
    (ga : PySem.W.specialIn K (.ref C) "__getattribute__" = some (some (.builtin "type.__getattribute__")))
    (cv : PySem.W.findCls K (.ref C) (.type "type") "PATIENCE" = some (.val (.ref pa)))
    (lp : K.lookup pa = some ⟨.type "tuple", tdp, .seq #[.int 0 t0, .int 5000 t1, .int 10000 t2, .int 60000 t3] np, slp⟩)
    (zlen : PySem.W.nsIn K mainGlobals "len" = some none)
    (zmin : PySem.W.nsIn K mainGlobals "min" = some none)
    (zmax : PySem.W.nsIn K mainGlobals "max" = some none)
    (zrange : PySem.W.nsIn K mainGlobals "range" = some none)
    (zint : PySem.W.nsIn K mainGlobals "int" = some none) :
    ∃ fd : FuncData, (∀ (s : Shared) (v : Value), BindsTo s fd ⟨[v], []⟩ [("_law_script", v)]) ∧ ∀ base : Heap, K.In base → base.Ns mainGlobals mg → FnOk l.prog w K mg base CX0 6 fa fd ["_law_script"] (spLaw K) := by
  have e := hfa.symm.trans (PySem.W.mg_of X G aL)
  cases e
  have tp : ∀ H, SqT K H pa (pats.map V.int) := fun H => .inr ⟨_, _, _, lp, rfl, rfl, by show 4 ≤ sizeLine; decide, .cons ⟨_, rfl⟩ (.cons ⟨_, rfl⟩ (.cons ⟨_, rfl⟩ (.cons ⟨_, rfl⟩ .nil)))⟩
  have T : Txt K mg C := ⟨⟨pg, hd, po, sa⟩, nS, nD, PySem.W.mg_of X G aCls, ⟨rd, ga⟩, ⟨pa, ⟨cv, rfl⟩, tp⟩, PySem.W.mg_none_of X G zlen, PySem.W.mg_none_of X G zmin, PySem.W.mg_none_of X G zmax, PySem.W.mg_none_of X G zrange, PySem.W.mg_none_of X G zint⟩
  have FI := fun_mk (st := sInit) lI cI kI
  have FC := fun_mk (st := sCont) lC cC kC
  have FP := fun_mk (st := sPend) lP cP kP
  have FW := fun_mk (st := sWake) lW cW kW
  have FO := fun_mk (st := sOver) lO cO kO
  have FN := fun_mk (st := sNext) lN cN kN
  have FQ := fun_mk (st := sPort) lQ cQ kQ
  have FE := fun_mk (st := sEnd) lE cE kE
  have FA := fun_mk (st := sCell) lA cA kA
  have FS := fun_mk (st := sStart) lS cS kS
  have FD := fun_mk (st := sDig) lD cD kD
  have FU := fun_mk (st := sUp) lU cU kU
  have FF := fun_mk (st := sFin) lF cF kF
  have FH := fun_mk (st := sWh) lH cH kH
  have FR := fun_mk (st := sPrt) lR cR kR
  have FL := fun_mk (st := sLaw) lL cL kL
  have bI := FI.binds (ps := ["self"]) fun _ _ _ _ _ _ us hl => match us, hl with | [_], _ => rfl
  have bC := FC.binds (ps := ["self", "lane"]) fun _ _ _ _ _ _ us hl => match us, hl with | [_, _], _ => rfl
  have bP := FP.binds (ps := ["self"]) fun _ _ _ _ _ _ us hl => match us, hl with | [_], _ => rfl
  have bW := kbn_of (ps := ["self", "lane", "now"]) (ks := ["now"]) (n := 2) FW fun _ _ _ _ _ _ us ws h1 h2 => match us, ws, h1, h2 with | [_, _], [_], _, _ => rfl
  have bO := kbn_of (ps := ["self", "lane", "now"]) (ks := ["now"]) (n := 2) FO fun _ _ _ _ _ _ us ws h1 h2 => match us, ws, h1, h2 with | [_, _], [_], _, _ => rfl
  have bN := kbn_of (ps := ["self", "now"]) (ks := ["now"]) (n := 1) FN fun _ _ _ _ _ _ us ws h1 h2 => match us, ws, h1, h2 with | [_], [_], _, _ => rfl
  have bQ := FQ.binds (ps := ["self", "cost"]) fun _ _ _ _ _ _ us hl => match us, hl with | [_, _], _ => rfl
  have bE := FE.binds (ps := ["self", "lanes"]) fun _ _ _ _ _ _ us hl => match us, hl with | [_, _], _ => rfl
  have bA := FA.binds (ps := ["_law_script", "_law_k"]) fun _ _ _ _ _ _ us hl => match us, hl with | [_, _], _ => rfl
  have bS := FS.binds (ps := ["_law_cell_here", "_law_k"]) fun _ _ _ _ _ _ us hl => match us, hl with | [_, _], _ => rfl
  have bD := FD.binds (ps := ["_law_state", "_law_many"]) fun _ _ _ _ _ _ us hl => match us, hl with | [_, _], _ => rfl
  have bU := FU.binds (ps := ["_law_schedule", "_law_lanes"]) fun _ _ _ _ _ _ us hl => match us, hl with | [_, _], _ => rfl
  have bF := FF.binds (ps := ["_law_schedule", "_law_lanes", "_law_waited", "_law_now"]) fun _ _ _ _ _ _ us hl => match us, hl with | [_, _, _, _], _ => rfl
  have bH := FH.binds (ps := ["_law_schedule", "_law_waited", "_law_now"]) fun _ _ _ _ _ _ us hl => match us, hl with | [_, _, _], _ => rfl
  have bR := FR.binds (ps := ["_law_schedule", "_law_waited", "_law_now", "_law_state"]) fun _ _ _ _ _ _ us hl => match us, hl with | [_, _, _, _], _ => rfl
  have mC : Meth K C "__contains__" fC := ⟨aC, iC, kC⟩
  have mW : Meth K C "wake" fW := ⟨aW, iW, kW⟩
  have mO : Meth K C "is_overdue" fO := ⟨aO, iO, kO⟩
  have mN : Meth K C "next_pass" fN := ⟨aN, iN, kN⟩
  have mQ : Meth K C "portion" fQ := ⟨aQ, iQ, kQ⟩
  have mE : Meth K C "end" fE := ⟨aE, iE, kE⟩
  have pp : PropOf K C "pending" pP fP := ⟨pat, pget, ptk, ⟨_, prec⟩⟩
  have gA := PySem.W.mg_of X G aA
  have gS := PySem.W.mg_of X G aS
  have gD := PySem.W.mg_of X G aD
  have gU := PySem.W.mg_of X G aU
  have gF := PySem.W.mg_of X G aF
  have gH := PySem.W.mg_of X G aH
  have gR := PySem.W.mg_of X G aR
  refine ⟨PySem.W.fnOf "law" "law" (defArgs sLaw) (defBody sLaw) (defScope sLaw) .none kVL dcL pmL anL cdL ctL, fun s v => .of_eq rfl, fun base _ _ => ?_⟩
  have oI := ok_init (P := l.prog) (w := w) (base := base) FI T
  have oC := ok_cont (P := l.prog) (w := w) (base := base) FC T
  have oP := ok_pend (P := l.prog) (w := w) (base := base) FP T
  have oW := ok_wake (P := l.prog) (w := w) (base := base) FW T
  have oO := ok_over (P := l.prog) (w := w) (base := base) FO T
  have oN := ok_next FN T oO bO mO
  have oQ := ok_port (P := l.prog) (w := w) (base := base) FQ T
  have oE := ok_end (P := l.prog) (w := w) (base := base) FE T
  have oA := ok_cell (P := l.prog) (w := w) (base := base) FA T
  have oS := ok_start (P := l.prog) (w := w) (base := base) FS T
  have oD := ok_dig (P := l.prog) (w := w) (base := base) FD T
  have oU := ok_up FU T oP bP pp
  have oF := ok_fin FF T oE bE mE
  have oH := ok_wh FH T oN bN mN oU bU gU kU oF bF gF kF
  have oR := ok_prt FR T oN bN mN oU bU gU kU oF bF gF kF oD bD gD kD oH bH gH kH oQ bQ mQ
  exact ok_law FL T ⟨mk, aI, iI, kC0⟩ oI bI oC bC mC oW bW mW oO bO mO oA bA gA kA oS bS gS kS oD bD gD kD oH bH gH kH oR bR gR kR
theorem walk {l : PySem.W.OpenLaw} {q : Program} {loose : List Str} {XP : (Str → Option Value) → Heap → Prop} {YP : World → Heap → Prop} {d : DefRec} {K : Params → PySem.W.Frag} (hn : l.most = some 63) (hdf : d.params.defaults = [])
    (hY : ∀ (w : World) (h : Heap), YP w h → (K w.params).In h)
    (F : ∀ (w : World) (mg : Str → Option Value) (fa : Addr) (h : Heap), (K w.params).In h → h.Ns mainGlobals mg → mg d.name = some (.ref fa) →
      ∃ fd : FuncData, (∀ (s : Shared) (u : Value), BindsTo s fd ⟨[u], []⟩ [("_law_script", u)]) ∧ ∀ base : Heap, (K w.params).In base → base.Ns mainGlobals mg → FnOk l.prog w (K w.params) mg base CX0 6 fa fd ["_law_script"] (spLaw (K w.params))) :
    PySem.W.WalkO q loose XP YP l.row.toRowW d [] (fun f vs => PySem.call f vs) :=
  L2.walk_of (n := 63) (k := 6) (x := "_law_script") (CX := fun _ => CX0) (sp := fun w => spLaw (K w.params)) hn (by decide) hdf ⟨rfl, by decide, by decide⟩ hY F (fun _ _ a ns hl _ hS => ⟨a, ns, rfl, hS, hl, fun _ => rfl⟩) fun _ _ _ _ _ z => z
end Vl
open PySem PySem.W PyProof.Rows
set_option maxRecDepth 100000 in
set_option maxHeartbeats 0 in
theorem PySem.Challenge.cw_viewloom_k38_whole_no_lane_waits_longer_holds : PySem.Challenge.rw_viewloom_k38_whole_no_lane_waits_longer.Holds := by
  w_on; o_law; k_head; (case hw => w_witness2)
  k_fill
  refine Vl.walk (l := PySem.Challenge.rw_viewloom_k38_whole_no_lane_waits_longer) rfl rfl (fun w h Y => PySem.W.kIn_of Y) ?F
  case F =>
    intro w mg fa h KX G hmg
    refine' Vl.all_mk KX G hmg ?aCls ?aI ?iI ?lI ?cI ?kI ?aC ?iC ?lC ?cC ?kC ?pat ?pget ?ptk ?prec ?lP ?cP ?kP ?aW ?iW ?lW ?cW ?kW ?aO ?iO ?lO ?cO ?kO ?aN ?iN ?lN ?cN ?kN ?aQ ?iQ ?lQ ?cQ ?kQ ?aE ?iE ?lE ?cE ?kE ?aA ?lA ?cA ?kA ?aS ?lS ?cS ?kS ?aD ?lD ?cD ?kD ?aU ?lU ?cU ?kU ?aF ?lF ?cF ?kF ?aH ?lH ?cH ?kH ?aR ?lR ?cR ?kR ?aL ?lL ?cL ?kL ?pg ?hd ?po ?sa ?mk ?kC0 ?nS ?nD ?rd ?ga ?cv ?lp ?zlen ?zmin ?zmax ?zrange ?zint
    (case aCls => k_is); (case aI => k_is); (case iI => k_is); (case lI => k_is); (case cI => k_is); (case kI => k_is)
    (case aC => k_is); (case iC => k_is); (case lC => k_is); (case cC => k_is); (case kC => k_is); (case pat => k_is)
    (case pget => k_is); (case ptk => k_is); (case prec => k_is); (case lP => k_is); (case cP => k_is); (case kP => k_is)
    (case aW => k_is); (case iW => k_is); (case lW => k_is); (case cW => k_is); (case kW => k_is); (case aO => k_is)
    (case iO => k_is); (case lO => k_is); (case cO => k_is); (case kO => k_is); (case aN => k_is); (case iN => k_is)
    (case lN => k_is); (case cN => k_is); (case kN => k_is); (case aQ => k_is); (case iQ => k_is); (case lQ => k_is)
    (case cQ => k_is); (case kQ => k_is); (case aE => k_is); (case iE => k_is); (case lE => k_is); (case cE => k_is)
    (case kE => k_is); (case aA => k_is); (case lA => k_is); (case cA => k_is); (case kA => k_is); (case aS => k_is)
    (case lS => k_is); (case cS => k_is); (case kS => k_is); (case aD => k_is); (case lD => k_is); (case cD => k_is)
    (case kD => k_is); (case aU => k_is); (case lU => k_is); (case cU => k_is); (case kU => k_is); (case aF => k_is)
    (case lF => k_is); (case cF => k_is); (case kF => k_is); (case aH => k_is); (case lH => k_is); (case cH => k_is)
    (case kH => k_is); (case aR => k_is); (case lR => k_is); (case cR => k_is); (case kR => k_is); (case aL => k_is)
    (case lL => k_is); (case cL => k_is); (case kL => k_is); (case pg => k_is); (case hd => k_is); (case po => k_is)
    (case sa => k_is); (case mk => k_is); (case kC0 => k_is); (case nS => k_is); (case nD => k_is); (case rd => k_is)
    (case ga => k_is); (case cv => k_is); (case lp => k_is); (case zlen => k_is); (case zmin => k_is); (case zmax => k_is)
    (case zrange => k_is); (case zint => k_is)
