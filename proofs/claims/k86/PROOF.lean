import PyProof.Rows.All
import Wide.All
import OpenK.AllK
import Wide.FinOn
import HandS.ForMost
import HandS.IsInst
import HandS.Property
import HandS.Flow
import HandS.Style
import HandS.Star
import HandS.Strs
import HandS.SetKeys
import HandS.Zip
import HandS.Comp
import KE.GoesEnumKw
import HandS.Conv
import HandS.SetFor
import HandS.Deep
import PySem.Challenge.RW_beanjars_k86_whole_any_accepted_reason
set_option Elab.async false
set_option linter.all false
set_option maxRecDepth 100000
set_option maxHeartbeats 4000000
namespace K86
/-! ### tables, colours, congruences: plain lists and ints -/
abbrev Tab := List (List Int)
def tb (R : Tab) (a b : Int) : Int := (R.getD a.toNat []).getD b.toNat 0
def Col (k : Nat) (x : Int) : Prop := 0 ≤ x ∧ x < (k : Int)
structure OkTab (k : Nat) (R : Tab) : Prop where
  len : R.length = k
  rows : ∀ (i : Nat) (r : List Int), R[i]? = some r → r.length = k
  ent : ∀ a b, Col k a → Col k b → Col k (tb R a b)
  sym : ∀ a b, Col k a → Col k b → tb R a b = tb R b a
theorem OkTab.row {k : Nat} {R : Tab} (h : OkTab k R) {a : Int} (ha : Col k a) : ∃ r, R[a.toNat]? = some r ∧ r.length = k := by
  have hl : a.toNat < R.length := by rw [h.len]; have := ha.1; have := ha.2; omega
  exact ⟨R[a.toNat], List.getElem?_eq_getElem hl, h.rows _ _ (List.getElem?_eq_getElem hl)⟩
theorem OkTab.get {k : Nat} {R : Tab} (h : OkTab k R) {a b : Int} {r : List Int} (hr : R[a.toNat]? = some r) (hb : Col k b) : r[b.toNat]? = some (tb R a b) := by
  have hl : b.toNat < r.length := by rw [h.rows _ _ hr]; have := hb.1; have := hb.2; omega
  have e1 : R.getD a.toNat [] = r := by rw [List.getD_eq_getElem?_getD, hr, Option.getD_some]
  unfold tb
  rw [e1, List.getD_eq_getElem?_getD, List.getElem?_eq_getElem hl, Option.getD_some]

structure Right (k : Nat) (R : Tab) (n : Int → Int) : Prop where
  t : ∀ a b c, Col k a → Col k b → Col k c → n (tb R (tb R a b) c) = n (tb R a (tb R b c))
  p : ∀ a b c, Col k a → Col k b → Col k c → n a = n b → n (tb R a c) = n (tb R b c)
def Cong (k : Nat) (R : Tab) (x y : Int) : Prop := ∀ n : Int → Int, Right k R n → n x = n y
theorem Cong.refl {k : Nat} {R : Tab} (x : Int) : Cong k R x x := fun _ _ => rfl
theorem Cong.symm {k : Nat} {R : Tab} {x y : Int} (h : Cong k R x y) : Cong k R y x := fun n r => (h n r).symm
theorem Cong.trans {k : Nat} {R : Tab} {x y z : Int} (h : Cong k R x y) (g : Cong k R y z) : Cong k R x z := fun n r => (h n r).trans (g n r)
theorem Cong.put {k : Nat} {R : Tab} {u v c : Int} (hu : Col k u) (hv : Col k v) (hc : Col k c) (h : Cong k R u v) : Cong k R (tb R u c) (tb R v c) :=
  fun n r => r.p u v c hu hv hc (h n r)
theorem Cong.test {k : Nat} {R : Tab} {a b c : Int} (ha : Col k a) (hb : Col k b) (hc : Col k c) : Cong k R (tb R (tb R a b) c) (tb R a (tb R b c)) :=
  fun n r => r.t a b c ha hb hc

/-! ### names -/
def nm (ns : List Int) (x : Int) : Int := ns.getD x.toNat 0
def mgN (p q : Int) (ns : List Int) : List Int := ns.map fun z => if z = p ∨ z = q then (if q < p then q else p) else z
theorem mgN_len (p q : Int) (ns : List Int) : (mgN p q ns).length = ns.length := List.length_map _
theorem nm_get {k : Nat} {ns : List Int} (h : ns.length = k) {x : Int} (hx : Col k x) : ns[x.toNat]? = some (nm ns x) := by
  have hl : x.toNat < ns.length := by rw [h]; have := hx.1; have := hx.2; omega
  unfold nm
  rw [List.getD_eq_getElem?_getD, List.getElem?_eq_getElem hl, Option.getD_some]
theorem nm_mg {k : Nat} {ns : List Int} (h : ns.length = k) (p q : Int) {x : Int} (hx : Col k x) :
    nm (mgN p q ns) x = if nm ns x = p ∨ nm ns x = q then (if q < p then q else p) else nm ns x := by
  have e := nm_get h hx
  have e2 : (mgN p q ns)[x.toNat]? = some (if nm ns x = p ∨ nm ns x = q then (if q < p then q else p) else nm ns x) := by
    unfold mgN
    rw [List.getElem?_map, e]
    rfl
  have e3 := nm_get (ns := mgN p q ns) ((mgN_len p q ns).trans h) hx
  rw [e2] at e3
  exact (Option.some.inj e3).symm
theorem mg_mono {k : Nat} {ns : List Int} (h : ns.length = k) (p q : Int) {x y : Int} (hx : Col k x) (hy : Col k y) (e : nm ns x = nm ns y) : nm (mgN p q ns) x = nm (mgN p q ns) y := by
  rw [nm_mg h p q hx, nm_mg h p q hy, e]
theorem sum_mg_le : ∀ (p q : Int) (ns : List Int), (mgN p q ns).sum ≤ ns.sum
  | _, _, [] => Int.le_refl _
  | p, q, z :: r => by
    have ih := sum_mg_le p q r
    show ((if z = p ∨ z = q then (if q < p then q else p) else z) :: mgN p q r).sum ≤ (z :: r).sum
    rw [List.sum_cons, List.sum_cons]
    split
    · split <;> omega
    · omega
theorem sum_mg_lt {p q : Int} : ∀ {ns : List Int}, p ≠ q → p ∈ ns → q ∈ ns → (mgN p q ns).sum < ns.sum
  | [], _, h, _ => by cases h
  | z :: r, hpq, hp, hq => by
    have l := sum_mg_le p q r
    show ((if z = p ∨ z = q then (if q < p then q else p) else z) :: mgN p q r).sum < (z :: r).sum
    rw [List.sum_cons, List.sum_cons]
    by_cases e1 : z = (if q < p then p else q)
    · split
      · split <;> split at e1 <;> omega
      · rename_i hn
        exact (hn (by split at e1 <;> omega)).elim
    · have h2 : (mgN p q r).sum < r.sum ∨ (p ∉ r ∨ q ∉ r) := by
        by_cases hp' : p ∈ r
        · by_cases hq' : q ∈ r
          · exact .inl (sum_mg_lt hpq hp' hq')
          · exact .inr (.inr hq')
        · exact .inr (.inl hp')
      rcases h2 with h2 | h2
      · split
        · split <;> omega
        · omega
      · -- z is one of the two, the lesser; the greater stands in r
        have hz : z = p ∨ z = q := by
          rcases h2 with h2 | h2
          · rcases List.mem_cons.mp hp with e | e
            · exact .inl e.symm
            · exact (h2 e).elim
          · rcases List.mem_cons.mp hq with e | e
            · exact .inr e.symm
            · exact (h2 e).elim
        have hm : (if q < p then p else q) ∈ r := by
          split
          · rename_i hlt
            rw [if_pos hlt] at e1
            rcases List.mem_cons.mp hp with e | e
            · exact (e1 e.symm).elim
            · exact e
          · rename_i hlt
            rw [if_neg hlt] at e1
            rcases List.mem_cons.mp hq with e | e
            · exact (e1 e.symm).elim
            · exact e
        have hr : ∀ {s : List Int}, (if q < p then p else q) ∈ s → (mgN p q s).sum < s.sum := by
          intro s
          induction s with
          | nil => intro h; cases h
          | cons y t ih =>
            intro h
            have l2 := sum_mg_le p q t
            show ((if y = p ∨ y = q then (if q < p then q else p) else y) :: mgN p q t).sum < (y :: t).sum
            rw [List.sum_cons, List.sum_cons]
            rcases List.mem_cons.mp h with e | e
            · split
              · split <;> split at e <;> omega
              · rename_i hn
                exact (hn (by split at e <;> omega)).elim
            · have := ih e
              split
              · split <;> omega
              · omega
        have := hr hm
        split
        · split <;> omega
        · omega
theorem mg_nonneg {p q : Int} {ns : List Int} (h : ∀ z ∈ ns, 0 ≤ z) (hp : 0 ≤ p) (hq : 0 ≤ q) : ∀ z ∈ mgN p q ns, 0 ≤ z := by
  intro z hz
  obtain ⟨y, hy, e⟩ := List.mem_map.mp hz
  have := h y hy
  subst e
  split
  · split <;> omega
  · exact this

/-! ### the forest: what holds between two turns of its loop -/
structure FInv (k : Nat) (R : Tab) (es : List (Int × Int)) (ns : List Int) (ws : List (Int × Int)) : Prop where
  len : ns.length = k
  nn : ∀ z ∈ ns, 0 ≤ z
  ecol : ∀ e ∈ es, Col k e.1 ∧ Col k e.2
  wcol : ∀ e ∈ ws, Col k e.1 ∧ Col k e.2
  gen : ∀ f : Int → Int, (∀ e ∈ es, f e.1 = f e.2) → ∀ a b, Col k a → Col k b → nm ns a = nm ns b → f a = f b
  eqE : ∀ e ∈ es, nm ns e.1 = nm ns e.2
  tst : ∀ a b c, Col k a → Col k b → Col k c → nm ns (tb R (tb R a b) c) = nm ns (tb R a (tb R b c)) ∨ (tb R (tb R a b) c, tb R a (tb R b c)) ∈ ws
  put : ∀ e ∈ es, ∀ c, Col k c → nm ns (tb R e.1 c) = nm ns (tb R e.2 c) ∨ (tb R e.1 c, tb R e.2 c) ∈ ws
theorem FInv.skip {k : Nat} {R : Tab} {es ws : List (Int × Int)} {ns : List Int} {x y : Int} (I : FInv k R es ns ((x, y) :: ws)) (e : nm ns x = nm ns y) : FInv k R es ns ws where
  len := I.len
  nn := I.nn
  ecol := I.ecol
  wcol := fun e he => I.wcol e (List.mem_cons_of_mem _ he)
  gen := I.gen
  eqE := I.eqE
  tst := fun a b c ha hb hc => by
    rcases I.tst a b c ha hb hc with h | h
    · exact .inl h
    · rcases List.mem_cons.mp h with h | h
      · injection h with h1 h2
        exact .inl (by rw [h1, h2, e])
      · exact .inr h
  put := fun d hd c hc => by
    rcases I.put d hd c hc with h | h
    · exact .inl h
    · rcases List.mem_cons.mp h with h | h
      · injection h with h1 h2
        exact .inl (by rw [h1, h2, e])
      · exact .inr h
theorem FInv.join {k : Nat} {R : Tab} (T : OkTab k R) {es ws ps : List (Int × Int)} {ns : List Int} {x y : Int} (I : FInv k R es ns ((x, y) :: ws)) (hne : nm ns x ≠ nm ns y)
    (hpc : ∀ e ∈ ps, Col k e.1 ∧ Col k e.2) (hps : ∀ c, Col k c → tb R x c = tb R y c ∨ (tb R x c, tb R y c) ∈ ps) :
    FInv k R (es ++ [(x, y)]) (mgN (nm ns x) (nm ns y) ns) (ws ++ ps) := by
  have cx : Col k x := (I.wcol (x, y) List.mem_cons_self).1
  have cy : Col k y := (I.wcol (x, y) List.mem_cons_self).2
  have mono : ∀ {a b : Int}, Col k a → Col k b → nm ns a = nm ns b → nm (mgN (nm ns x) (nm ns y) ns) a = nm (mgN (nm ns x) (nm ns y) ns) b := fun ha hb e => mg_mono I.len _ _ ha hb e
  have exy : nm (mgN (nm ns x) (nm ns y) ns) x = nm (mgN (nm ns x) (nm ns y) ns) y := by
    rw [nm_mg I.len _ _ cx, nm_mg I.len _ _ cy, if_pos (Or.inl rfl : nm ns x = nm ns x ∨ nm ns x = nm ns y), if_pos (Or.inr rfl : nm ns y = nm ns x ∨ nm ns y = nm ns y)]
  have hin : ∀ {a : Int}, Col k a → nm ns a ∈ ns := fun ha => List.mem_of_getElem? (nm_get I.len ha)
  refine ⟨(mgN_len _ _ _).trans I.len, mg_nonneg I.nn (I.nn _ (hin cx)) (I.nn _ (hin cy)), ?_, ?_, ?_, ?_, ?_, ?_⟩
  · intro e he
    rcases List.mem_append.mp he with h | h
    · exact I.ecol e h
    · rw [List.mem_singleton.mp h]; exact ⟨cx, cy⟩
  · intro e he
    rcases List.mem_append.mp he with h | h
    · exact I.wcol e (List.mem_cons_of_mem _ h)
    · exact hpc e h
  · intro f hf a b ha hb hab
    have f1 : ∀ e ∈ es, f e.1 = f e.2 := fun e he => hf e (List.mem_append_left _ he)
    have fxy : f x = f y := hf (x, y) (List.mem_append_right _ (List.mem_singleton.mpr rfl))
    have g := I.gen f f1
    rw [nm_mg I.len _ _ ha, nm_mg I.len _ _ hb] at hab
    have key : ∀ {c : Int}, Col k c → (nm ns c = nm ns x ∨ nm ns c = nm ns y) → f c = f x := fun hc h => by
      rcases h with h | h
      · exact g _ _ hc cx h
      · exact (g _ _ hc cy h).trans fxy.symm
    by_cases h1 : nm ns a = nm ns x ∨ nm ns a = nm ns y
    · by_cases h2 : nm ns b = nm ns x ∨ nm ns b = nm ns y
      · rw [key ha h1, key hb h2]
      · rw [if_pos h1, if_neg h2] at hab
        exact (h2 (by split at hab <;> omega)).elim
    · by_cases h2 : nm ns b = nm ns x ∨ nm ns b = nm ns y
      · rw [if_neg h1, if_pos h2] at hab
        exact (h1 (by split at hab <;> omega)).elim
      · rw [if_neg h1, if_neg h2] at hab
        exact g _ _ ha hb hab
  · intro e he
    rcases List.mem_append.mp he with h | h
    · exact mono (I.ecol e h).1 (I.ecol e h).2 (I.eqE e h)
    · rw [List.mem_singleton.mp h]; exact exy
  · intro a b c ha hb hc
    have c1 : Col k (tb R (tb R a b) c) := T.ent _ _ (T.ent _ _ ha hb) hc
    have c2 : Col k (tb R a (tb R b c)) := T.ent _ _ ha (T.ent _ _ hb hc)
    rcases I.tst a b c ha hb hc with h | h
    · exact .inl (mono c1 c2 h)
    · rcases List.mem_cons.mp h with h | h
      · injection h with h1 h2
        exact .inl (by rw [h1, h2]; exact exy)
      · exact .inr (List.mem_append_left _ h)
  · intro e he c hc
    rcases List.mem_append.mp he with h | h
    · have c1 : Col k (tb R e.1 c) := T.ent _ _ (I.ecol e h).1 hc
      have c2 : Col k (tb R e.2 c) := T.ent _ _ (I.ecol e h).2 hc
      rcases I.put e h c hc with h' | h'
      · exact .inl (mono c1 c2 h')
      · rcases List.mem_cons.mp h' with h' | h'
        · injection h' with h1 h2
          exact .inl (by rw [h1, h2]; exact exy)
        · exact .inr (List.mem_append_left _ h')
    · rw [List.mem_singleton.mp h]
      rcases hps c hc with h' | h'
      · exact .inl (by show nm _ (tb R x c) = nm _ (tb R y c); rw [h'])
      · exact .inr (List.mem_append_right _ h')
theorem FInv.sum_lt {k : Nat} {R : Tab} {es ws : List (Int × Int)} {ns : List Int} {x y : Int} (I : FInv k R es ns ((x, y) :: ws)) (hne : nm ns x ≠ nm ns y) : (mgN (nm ns x) (nm ns y) ns).sum < ns.sum := by
  have c := I.wcol (x, y) List.mem_cons_self
  exact sum_mg_lt hne (List.mem_of_getElem? (nm_get I.len c.1)) (List.mem_of_getElem? (nm_get I.len c.2))
theorem sum_nonneg : ∀ {ns : List Int}, (∀ z ∈ ns, 0 ≤ z) → 0 ≤ ns.sum
  | [], _ => Int.le_refl _
  | z :: r, h => by
    rw [List.sum_cons]
    have h1 := h z List.mem_cons_self
    have h2 := sum_nonneg (ns := r) fun y hy => h y (List.mem_cons_of_mem _ hy)
    omega
/-- nothing waits: the names are a right division -/
theorem FInv.right {k : Nat} {R : Tab} (T : OkTab k R) {es : List (Int × Int)} {ns : List Int} (I : FInv k R es ns []) : Right k R (nm ns) where
  t := fun a b c ha hb hc => by
    rcases I.tst a b c ha hb hc with h | h
    · exact h
    · cases h
  p := fun a b c ha hb hc e => I.gen (fun z => nm ns (tb R z c)) (fun d hd => by
    rcases I.put d hd c hc with h | h
    · exact h
    · cases h) a b ha hb e
theorem range_nm {k : Nat} {x : Int} (hx : Col k x) : nm ((List.range k).map fun i => ((i : Nat) : Int)) x = x := by
  have h := nm_get (ns := (List.range k).map fun i => ((i : Nat) : Int)) (k := k) (by rw [List.length_map, List.length_range]) hx
  have hl : x.toNat < k := by have := hx.1; have := hx.2; omega
  rw [List.getElem?_map, List.getElem?_range hl] at h
  have e : ((x.toNat : Nat) : Int) = nm ((List.range k).map fun i => ((i : Nat) : Int)) x := Option.some.inj h
  rw [← e]
  have := hx.1
  omega
theorem FInv.start {k : Nat} {R : Tab} (T : OkTab k R) {ws : List (Int × Int)} (hw : ∀ e ∈ ws, Col k e.1 ∧ Col k e.2)
    (ht : ∀ a b c, Col k a → Col k b → Col k c → tb R (tb R a b) c = tb R a (tb R b c) ∨ (tb R (tb R a b) c, tb R a (tb R b c)) ∈ ws) :
    FInv k R [] ((List.range k).map fun i => ((i : Nat) : Int)) ws where
  len := by rw [List.length_map, List.length_range]
  nn := fun z hz => by
    obtain ⟨i, _, e⟩ := List.mem_map.mp hz
    rw [← e]
    exact Int.natCast_nonneg i
  ecol := fun e he => by cases he
  wcol := hw
  gen := fun f _ a b ha hb e => by
    rw [range_nm ha, range_nm hb] at e
    rw [e]
  eqE := fun e he => by cases he
  tst := fun a b c ha hb hc => by
    rcases ht a b c ha hb hc with h | h
    · exact .inl (by rw [h])
    · exact .inr h
  put := fun e he => by cases he
/-- the chains reach each colour of the group -/
theorem FInv.reach {k : Nat} {R : Tab} {es ws : List (Int × Int)} {ns : List Int} (I : FInv k R es ns ws) {keys : List Int} {a b : Int} (ha : Col k a) (hb : Col k b)
    (cl : ∀ c ∈ keys, ∀ e ∈ es, (e.1 = c → e.2 ∈ keys) ∧ (e.2 = c → e.1 ∈ keys)) (h0 : a ∈ keys) (e : nm ns a = nm ns b) : b ∈ keys := by
  have h := I.gen (fun z => if z ∈ keys then 1 else 0) (fun d hd => by
    show (if d.1 ∈ keys then (1 : Int) else 0) = if d.2 ∈ keys then 1 else 0
    by_cases h1 : d.1 ∈ keys
    · rw [if_pos h1, if_pos ((cl _ h1 d hd).1 rfl)]
    · by_cases h2 : d.2 ∈ keys
      · exact (h1 ((cl _ h2 d hd).2 rfl)).elim
      · rw [if_neg h1, if_neg h2]) a b ha hb e
  have h' : (if a ∈ keys then (1 : Int) else 0) = if b ∈ keys then 1 else 0 := h
  rw [if_pos h0] at h'
  by_cases hb' : b ∈ keys
  · exact hb'
  · rw [if_neg hb'] at h'
    cases h'
end K86

namespace K86
open PySem PySem.Spec PyProof.Rows L2

/-! ### an own class with __getitem__, subscripted -/
structure GetIt (K : PySem.W.Frag) (C g : Addr) : Prop where
  at_ : PySem.W.findIn K (.ref C) "__getitem__" = some (some (.ref g))
  fn : PySem.W.isFn K (.ref g) = true
  fi : PySem.W.fnIn K g = true

def tGetIt (C : Addr) (sp : Sp) (ta ti : TE) : TE := fun σ H Q =>
  ta σ H fun x H1 => ti σ H1 fun y H2 => ∃ a dx fs, x = .ref a ∧ H2 a = some (.ins C dx fs) ∧ sp [.ref a, y] H2 Q E0

theorem pe_getit {X : Cx} {k : Nat} {C g : Addr} {fd : FuncData} {ps : List Str} {sp : Sp} {a i : Expr} {ta ti : TE} {pos : Pos}
    (c : Cls X.K C) (G : GetIt X.K C g) (F : FnOk X.prog X.w X.K X.mg X.base CX0 k g fd ps sp) (hr : Room (k + 1) X.A) (hb : Binds X.K fd ps [])
    (ha : PE X a ta) (hi : PE X i ti)
    (hsl : ∀ o v, subscripted i true o v = runValue (.builtin "lifetime.subscript" ⟨[o, v], []⟩) := by with_unfolding_all (intro _ _; rfl)) :
    PE X (.Subscript a i pos) (tGetIt C sp ta ti) := by
  refine ⟨fun pins s σ H Q I h => Subscript_ (binT ha hi I h ?_)⟩
  rintro v u s2 x y H2 I2 rx ry ⟨p, dx, fs, rfl, hp, hs⟩
  have ev : v = Value.ref p := rx
  subst ev
  obtain ⟨mA, O, _⟩ := ins_get I2.hok hp
  obtain ⟨od, J, _⟩ := O.look
  obtain ⟨m, fr⟩ := I2.fr
  have rr : Vals [V.ref p, y] [Value.ref p, u] := .cons rfl (.cons ry .nil)
  have hl : ([Value.ref p, u] ++ []).length = ps.length := by
    have e := F.len _ _ _ _ hs
    rw [← e]
    rfl
  refine PySem.W.sub_K fr I2.mod.kin J G.at_ G.fi G.fn (wpAny_call (codeAny_mono
    (F.run X.A.in1 X.stack s2 H2 ⟨[.ref p, u], []⟩ [.ref p, u] [.ref p, y] Q E0 hr.in1 I2.env0.in1 (hb s2 [.ref p, u] I2.kIn hl) rr hs) ?_)) (hsl _ _)
  intro r s' hq
  match r, hq with
  | .error e, hq => exact (show False from hq).elim
  | .ok (.ret w), hq => exact I2.after hq
  | .ok .next, hq => exact (show False from hq).elim
  | .ok .brk, hq => exact (show False from hq).elim
  | .ok .cont, hq => exact (show False from hq).elim
end K86

namespace K86
open PySem PySem.Spec PyProof.Rows L2

/-! ### list comprehensions of three clauses -/
abbrev noE : Value → Shared → Prop := fun _ _ => False
abbrev testsRun (ifs : List Expr) (env : Env) : Sem Bool :=
  forIn ifs true fun c r => if r = true then do let ok ← isTrue c env (eval c env); pure (ForInStep.yield ok) else pure (ForInStep.yield r)
/-- a clause's turn, whatever stands behind its tests -/
def turnTree (p : Pos) (t : Expr) (ifs : List Expr) (it : Value) (env : Env) (rest go : Sem Fin) : Sem Fin := do
  standAt p
  match ← pyNext it with
  | none => pure (.done .next)
  | some v =>
    letOwnedTupleGo t it v
    assign t env v
    let ok ← testsRun ifs env
    if ok then rest else go
section
variable {prog : Program} {w : World} {A : Around} {R : Result → Shared → Prop} {s : Shared} {env : Env}
theorem loopAt {elt t : Expr} {gens : List Comprehension} {scope : Scope} {pos : Pos} {d : Nat} {it acc : Value} {ifs : List Expr} {p : Pos} {rest : Sem Fin}
    (ht : compTurn (.ListComp elt gens scope pos) d it acc env = turnTree p t ifs it env rest (again (.compLoop (.ListComp elt gens scope pos) d it acc env))) (I : Nat → Shared → Prop)
    (turn : ∀ n s, I n s → wpAny (model prog w) A (pyNext it) (fun r s1 => match r with
      | none => R (.ok .next) s1
      | some v => wpAny (model prog w) A (letOwnedTupleGo t it v) (fun _ s2 => wpAny (model prog w) A (assign t env v) (fun _ s3 =>
          wpAny (model prog w) A (testsRun ifs env) (fun ok s4 => if ok = true then wpAny (model prog w) A rest (fun fin s5 => fin = Fin.again (.compLoop (.ListComp elt gens scope pos) d it acc env) ∧ ∃ m, m < n ∧ I m s5) noE s4 else ∃ m, m < n ∧ I m s4) noE s3) noE s2) noE s1) noE s)
    (n : Nat) (h : I n s) : codeAny (model prog w) A (.compLoop (.ListComp elt gens scope pos) d it acc env) R s := by
  refine codeAny_loop rfl I (fun n s hI => ?_) n h
  show wpAny _ A ((compTurn (.ListComp elt gens scope pos) d it acc env).onRaise (fun x => do noteFrame x env; theTreesLotGoes x)) _ _ s
  refine wpAny_noted ?_
  rw [ht]
  unfold turnTree
  refine wpAny_bind (wpAny_standAt (wpAny_bind (wpAny_mono (turn n s hI) (fun r s1 h1 => ?_) fun _ _ z => z.elim)))
  cases r with
  | none => exact wpAny_pure h1
  | some v =>
    refine wpAny_bind (wpAny_mono h1 (fun _ s2 h2 => wpAny_bind (wpAny_mono h2 (fun _ s3 h3 => wpAny_bind (wpAny_mono h3 (fun ok s4 h4 => ?_) fun _ _ z => z.elim)) fun _ _ z => z.elim)) fun _ _ z => z.elim)
    cases ok with
    | false => exact wpAny_pure ⟨rfl, h4⟩
    | true =>
      refine wpAny_mono (show wpAny _ _ rest _ _ _ from h4) (fun fin s5 h5 => ?_) fun _ _ z => z.elim
      obtain ⟨rfl, h5⟩ := h5
      exact ⟨rfl, h5⟩
/-- how the next clause begins -/
def nextClause (e i : Expr) (d : Nat) (acc : Value) (env : Env) (go : Sem Fin) : Sem Fin := do
  let x ← eval i env
  standAt i.pos
  let x ← foldedSetIterable i env x
  let _ ← runOwn (.compStart e d (← holding [x] (pyIter x)) acc env) env
  go
theorem nextClause_ok {e i : Expr} {d : Nat} {acc : Value} {go : Sem Fin} {Q : Fin → Shared → Prop} (hs : ∀ x, foldedSetIterable i env x = pure x)
    (h : wpAny (model prog w) A (eval i env) (fun x s1 => wpAny (model prog w) A (pyIter x) (fun it s2 =>
      codeAny (model prog w) A (.compStart e d it acc env) (fun r s' => match r with | .ok _ => wpAny (model prog w) A go Q noE s' | .error _ => False) s2) noE s1) noE s) :
    wpAny (model prog w) A (nextClause e i d acc env go) Q noE s := by
  unfold nextClause
  refine wpAny_bind (wpAny_mono h (fun x s1 h1 => ?_) fun _ _ z => z)
  refine wpAny_bind (wpAny_standAt (wpAny_bind (wpAny_of_eq (hs x) (wpAny_bind (wpAny_holding (wpAny_mono h1 (fun it s2 h2 => ?_) fun _ _ z => z))))))
  refine wpAny_bind (wpAny_runOwn ?_)
  rw [Around.mark_none]
  refine codeAny_mono h2 fun r s' hr => ?_
  cases r with
  | ok f => exact hr
  | error e => exact hr.elim
/-- a later clause's start -/
theorem startAt {elt : Expr} {gens : List Comprehension} {scope : Scope} {pos : Pos} {d : Nat} {it acc : Value} {c : Comprehension} (hc : gens[d]? = some c) (ha : c.is_async = 0)
    (h0 : codeAny (model prog w) A (.compLoop (.ListComp elt gens scope pos) d it acc env) R s)
    (h : wpAny (model prog w) A (pyIter it) (fun it' s' => codeAny (model prog w) A (.compLoop (.ListComp elt gens scope pos) d it' acc env) R s') (notedBy (model prog w) A env fun x s' => R (.error x) s') s) :
    codeAny (model prog w) A (.compStart (.ListComp elt gens scope pos) d it acc env) R s := by
  refine codeAny_of_tree ?_
  show wpAny _ _ ((compStart (.ListComp elt gens scope pos) d it acc env).onRaise (fun x => do noteFrame x env; standAt theWindowsPlace)) _ _ s
  refine wpAny_notedAt ?_
  unfold compStart
  rw [show clausesOf (.ListComp elt gens scope pos) = gens from rfl, hc]
  have e1 : (some c).elim false (fun g => g.is_async != 0) = false := by show (c.is_async != 0) = false; rw [ha]; rfl
  rw [e1]
  show wpAny _ _ (ask >>= _) _ _ s
  refine wpAny_bind (wpAny_askSetting (wpAny_ite ?_))
  split
  · exact wpAny_bind (wpAny_pure (wpAny_pure ⟨rfl, h0⟩))
  · refine wpAny_bind (wpAny_rule (wpAny_bind ?_))
    exact wpAny_standAt (wpAny_bind (wpAny_mono h (fun it' s' h' => wpAny_pure ⟨rfl, h'⟩) fun _ _ x => x))
end

/-! the readings -/
abbrev TIn := L2.St → Hp → (Hp → Prop) → Prop
/-- the rest of a turn within a block, from which Nx is reached; the slots vs are forgotten behind it -/
structure PIn (Y : Cx) (rest : Sem Fin → Sem Fin) (vs : List Nat) (t : TIn) : Prop where
  run : ∀ (pins : List (Addr × Obj)) (s : Shared) (σ : L2.St) (H : Hp) (Nx : Hp → Prop) (go : Sem Fin) (R : Fin → Shared → Prop), Inv Y pins σ H s → t σ H Nx →
    (∀ s' H', Inv Y pins (wipe σ vs) H' s' → Nx H' → wpAny (model Y.prog Y.w) Y.A go R noE s') → wpAny (model Y.prog Y.w) Y.A (rest go) R noE s
def tEm (te : TE) (D : Addr) : TIn := fun σ H Nx => te σ H fun y H4 => ∃ acc, H4 D = some (.lst acc) ∧ acc.length < sizeLine ∧ Nx (upd H4 D (.lst (acc ++ [y])))
def emitTo (elt : Expr) (env : Env) (D : Addr) (go : Sem Fin) : Sem Fin := do
  (do let _ ← call (.builtin "list.append") [.ref D, ← eval elt env])
  go
theorem pin_emit {Y : Cx} {elt : Expr} {te : TE} {D : Addr} (hx : ∀ e s, Y.xe e s → False) (he : PE Y elt te) : PIn Y (emitTo elt Y.env D) [] (tEm te D) := by
  refine ⟨fun pins s σ H Nx go R I h hgo => ?_⟩
  unfold emitTo
  refine wpAny_bind (wpAny_bind (wpAny_mono (he.run pins s σ H _ I h) (fun v s1 q => ?_) fun e s z => hx e s z))
  obtain ⟨y, H4, I4, r4, acc, hD, hz, nx⟩ := q
  exact wpAny_bind (app_ok I4 hD hz r4 fun s5 I5 => wpAny_pure (hgo s5 _ I5 nx))
def tCl (wi : TI) (g : TG) (tt : TT) (tR : TIn) (vs : List Nat) : TIn := fun σ H Nx => wi σ H fun J H1 => ∃ W : Nat → Nat → Hp → Prop, (∃ m, W 0 m H1) ∧
  ∀ i m H, W i m H → (J.stop i H ∧ Nx H) ∨ (J.go i H ∧ ∃ N1 : Hp → Prop, (∀ H', N1 H' → ∃ m', m' < m ∧ W (i + 1) m' H') ∧
    ∀ x H', J.yld i H x H' → g x (wipe σ vs) H' fun σ2 H2 => wipe σ2 vs = wipe σ vs ∧ tt σ2 H2 fun b H3 => if b = true then tR σ2 H3 N1 else N1 H3)
theorem keep_wipe {σ σ2 : L2.St} {vs ws : List Nat} (e : wipe σ2 vs = wipe σ vs) (sub : ∀ i ∈ ws, i ∈ vs) : ∀ (j : Nat) v, (wipe σ vs)[j]? = some (some v) → (wipe σ2 ws)[j]? = some (some v) := fun j v h => by
  rw [← e] at h
  obtain ⟨h1, h2⟩ := wipe_some h
  rw [wipe_out fun z => h2 (sub j z)]
  exact h1
/-- the loop of a clause, its iterator made -/
theorem loopCl {Y : Cx} {elt tg : Expr} {ifs : List Expr} {gens : List Comprehension} {scope : Scope} {pos p : Pos} {d : Nat} {D it : Addr} {rest : Sem Fin → Sem Fin} {vs vsR : List Nat} {g : TG} {tt : TT} {tR : TIn}
    {pins : List (Addr × Obj)} {fp : List Addr} {tn : Nat → Heap → Prop} {J : It} {W : Nat → Nat → Hp → Prop} {σ : L2.St} {Nx : Hp → Prop} {s2 : Shared} {H2 : Hp} {m0 : Nat}
    (hx : ∀ e s, Y.xe e s → False) (hc : Y.calm = true)
    (ht : compTurn (.ListComp elt gens scope pos) d (.ref it) (.ref D) Y.env = turnTree p tg ifs (.ref it) Y.env (rest (again (.compLoop (.ListComp elt gens scope pos) d (.ref it) (.ref D) Y.env))) (again (.compLoop (.ListComp elt gens scope pos) d (.ref it) (.ref D) Y.env)))
    (sub : ∀ i ∈ vsR, i ∈ vs) (pg : PG Y tg g) (pt : PTs Y ifs tt) (pr : PIn Y rest vsR tR)
    (I2 : Inv Y pins (wipe σ vs) H2 s2) (T : Turn Y.prog Y.w Y.K tg J fp it tn) (st2 : tn 0 s2.heap) (n2 : ∀ b ∈ fp, H2 b = none)
    (stat : ∀ {H' : Hp}, (∀ b ∈ fp, H' b = none) → ∀ b ∈ fp, FpOk Y pins H' b) (w0 : W 0 m0 H2)
    (turn : ∀ i m H, W i m H → (J.stop i H ∧ Nx H) ∨ (J.go i H ∧ ∃ N1 : Hp → Prop, (∀ H', N1 H' → ∃ m', m' < m ∧ W (i + 1) m' H') ∧
      ∀ x H', J.yld i H x H' → g x (wipe σ vs) H' fun σ2 H2 => wipe σ2 vs = wipe σ vs ∧ tt σ2 H2 fun b H3 => if b = true then tR σ2 H3 N1 else N1 H3)) :
    codeAny (model Y.prog Y.w) Y.A (.compLoop (.ListComp elt gens scope pos) d (.ref it) (.ref D) Y.env)
      (fun r s' => match r with | .ok _ => r = .ok .next ∧ ∃ H', Inv Y pins (wipe σ vs) H' s' ∧ Nx H' | .error _ => False) s2 := by
  refine loopAt ht (fun n s' => ∃ j H', Inv Y pins (wipe σ vs) H' s' ∧ tn j s'.heap ∧ (∀ b ∈ fp, H' b = none) ∧ W j n H') ?_ m0
    ⟨0, H2, I2, st2, n2, w0⟩
  rintro n s3 ⟨j, H3, I3, st3, n3, w3⟩
  rcases turn j n H3 w3 with ⟨stop, nx⟩ | ⟨go, N1, hN1, step⟩
  · refine thnF (T.done Y rfl rfl rfl hc j pins s3 (wipe σ vs) H3 noE I3 (stat n3) st3 stop) fun r s4 ⟨hr, I4⟩ => ?_
    subst hr
    exact ⟨rfl, H3, I4, nx⟩
  · refine thnF (T.item Y rfl rfl rfl hc j pins s3 (wipe σ vs) H3 noE I3 (stat n3) st3 go) fun r s4 ⟨u, hr, h4⟩ => ?_
    subst hr
    refine thnF h4 fun _ s5 ⟨x, H5, I5, r5, y5, st5, n5⟩ => ?_
    have I5' := I5.pinned (stat n5) (T.obj _ _ st5)
    refine wpAny_mono (pg.run _ s5 (wipe σ vs) H5 x u _ I5' r5 (step x H5 y5)) (fun _ s6 q6 => ?_) fun e s z => hx e s z
    obtain ⟨σ6, H6, I6, hw6, q6⟩ := q6
    refine wpAny_mono (pt.run _ s6 σ6 H6 _ I6 q6) (fun b s7 q7 => ?_) fun e s z => hx e s z
    obtain ⟨H7, I7, q7⟩ := q7
    have hlen : (wipe σ vs).length = σ6.length := by rw [← hw6, wipe_length]
    have fin : ∀ {σ9 : L2.St} {s' : Shared} {H' : Hp}, Inv Y (pins ++ pinsAt fp s5.heap) σ9 H' s' → (wipe σ vs).length = σ9.length → (∀ (i : Nat) v, (wipe σ vs)[i]? = some (some v) → σ9[i]? = some (some v)) → N1 H' →
        ∃ m, m < n ∧ ∃ j H', Inv Y pins (wipe σ vs) H' s' ∧ tn j s'.heap ∧ (∀ b ∈ fp, H' b = none) ∧ W j m H' := fun {σ9 s' H'} I' hl hk nx => by
      obtain ⟨m', hm, w'⟩ := hN1 H' nx
      have pin' : ∀ b ∈ fp, ∀ o, s5.heap.get? b = some o → s'.heap.get? b = some o ∧ H' b = none := fun b hb o e =>
        have z := I'.pin (b, o) (List.mem_append_right _ (List.mem_append_right _ (mem_pinsAt hb e)))
        ⟨z.1, z.2.1⟩
      refine ⟨m', hm, j + 1, H', I'.unpinned.weak hl hk, T.keep _ _ _ st5 fun b hb o e => (pin' b hb o e).1, fun b hb => ?_, w'⟩
      obtain ⟨o, e, _⟩ := T.obj _ _ st5 b hb
      exact (pin' b hb o e).2
    cases b with
    | false =>
      have q7 : N1 H7 := by simpa using q7
      have k0 := keep_wipe (ws := []) hw6 (fun i hi => by cases hi)
      show ∃ m, m < n ∧ _
      exact fin I7 hlen k0 q7
    | true =>
      have q7 : tR σ6 H7 N1 := by simpa using q7
      show wpAny _ _ (rest _) _ _ _
      exact pr.run _ s7 σ6 H7 _ _ _ I7 q7 fun s8 H8 I8 nx => wpAny_pure ⟨rfl, fin I8 (hlen.trans (wipe_length _ _).symm) (keep_wipe hw6 sub) nx⟩
theorem pin_clause {Y : Cx} {elt tg iter : Expr} {ifs : List Expr} {gens : List Comprehension} {scope : Scope} {pos p : Pos} {d : Nat} {D : Addr} {rest : Sem Fin → Sem Fin} {vs vsR : List Nat} {wi : TI} {g : TG} {tt : TT} {tR : TIn} {c : Comprehension}
    (hx : ∀ e s, Y.xe e s → False) (hc : Y.calm = true) (hgs : gens[d]? = some c) (ha : c.is_async = 0)
    (ht : ∀ it, compTurn (.ListComp elt gens scope pos) d it (.ref D) Y.env = turnTree p tg ifs it Y.env (rest (again (.compLoop (.ListComp elt gens scope pos) d it (.ref D) Y.env))) (again (.compLoop (.ListComp elt gens scope pos) d it (.ref D) Y.env)))
    (hs : ∀ x, foldedSetIterable iter Y.env x = pure x) (sub : ∀ i ∈ vsR, i ∈ vs)
    (pi : PI Y tg iter wi) (pg : PG Y tg g) (pt : PTs Y ifs tt) (pr : PIn Y rest vsR tR) :
    PIn Y (nextClause (.ListComp elt gens scope pos) iter d (.ref D) Y.env) vs (tCl wi g tt tR vs) := by
  refine ⟨fun pins s σ H Nx go R I h hgo => ?_⟩
  refine nextClause_ok hs (wpAny_mono (pi.run pins s σ H _ I h) (fun xv s1 h1 => wpAny_mono h1 (fun itv s2 h2 => ?_) fun e s z => hx e s z) fun e s z => hx e s z)
  obtain ⟨it, fp, tn, J, H2, rfl, I2, T, st2, f2, W, ⟨m0, w0⟩, turn⟩ := h2
  have loop := loopCl hx hc (ht _) sub pg pt pr (I2.weak (wipe_length _ _) (fun j v e => (wipe_some e).1)) T st2 (fun b hb => (f2 b hb).1) (fun {H'} hn b hb => ⟨hn b hb, (f2 b hb).2⟩) w0 turn
  refine codeAny_mono (startAt hgs ha loop (T.self Y.A 0 _ _ _ st2 loop)) fun r s' hr => ?_
  cases r with
  | ok f =>
    obtain ⟨_, H', I', nx⟩ := hr
    exact hgo s' H' I' nx
  | error e => exact hr
/-- a list comprehension of any number of clauses -/
def tLcN (wi : TI) (g : TG) (tt : TT) (tR : Addr → TIn) (vs : List Nat) : TE := fun σ H Q => wi σ H fun J H1 => ∀ D, H1 D = none → ∃ W : Nat → Nat → Hp → Prop, (∃ m, W 0 m (upd H1 D (.lst []))) ∧
  ∀ i m H, W i m H → (J.stop i H ∧ Q (.ref D) H) ∨ (J.go i H ∧ ∃ N1 : Hp → Prop, (∀ H', N1 H' → ∃ m', m' < m ∧ W (i + 1) m' H') ∧
    ∀ x H', J.yld i H x H' → g x (wipe σ vs) H' fun σ2 H2 => wipe σ2 vs = wipe σ vs ∧ tt σ2 H2 fun b H3 => if b = true then tR D σ2 H3 N1 else N1 H3)
theorem pe_lcN {X : Cx} {elt tg iter : Expr} {ifs : List Expr} {more : List Comprehension} {scope : Scope} {own : List (Str × Nat)} {pos p : Pos} {vsR : List Nat} {wi : TI} {g : TG} {tt : TT} {tR : Addr → TIn} {rest : Addr → Env → Sem Fin → Sem Fin}
    (hc : X.calm = true) (hN : X.N.Nodup) (hi : PI X tg iter wi) (ok : BlkOk X.N X.env.scope scope own) (sub : ∀ i ∈ vsR, i ∈ own.map (·.2))
    (hg : ∀ (s : Shared) (H : Hp) (C : Addr) (cl : List (Str × Addr)) (fp : List Addr), PG (X.blk s H scope (compEnvC scope cl C X.env) fp) tg g)
    (htt : ∀ (s : Shared) (H : Hp) (C : Addr) (cl : List (Str × Addr)) (fp : List Addr), PTs (X.blk s H scope (compEnvC scope cl C X.env) fp) ifs tt)
    (hr : ∀ (s : Shared) (H : Hp) (C : Addr) (cl : List (Str × Addr)) (fp : List Addr) (D : Addr), PIn (X.blk s H scope (compEnvC scope cl C X.env) fp) (rest D (compEnvC scope cl C X.env)) vsR (tR D))
    (ht : ∀ (env : Env) (it : Value) (D : Addr), compTurn (.ListComp elt (⟨tg, iter, ifs, 0⟩ :: more) scope pos) 0 it (.ref D) env =
      turnTree p tg ifs it env (rest D env (again (.compLoop (.ListComp elt (⟨tg, iter, ifs, 0⟩ :: more) scope pos) 0 it (.ref D) env))) (again (.compLoop (.ListComp elt (⟨tg, iter, ifs, 0⟩ :: more) scope pos) 0 it (.ref D) env)) := by intros; rfl)
    (hs : ∀ x, foldedSetIterable iter X.env x = pure x := by intro _; rfl) :
    PE X (.ListComp elt (⟨tg, iter, ifs, 0⟩ :: more) scope pos) (tLcN wi g tt tR (own.map (·.2))) := by
  refine ⟨fun pins s σ H Q I h => ?_⟩
  rw [eval_ListComp]
  have hfr : ∀ y ∈ scope.names, y.2 = .free → ∃ c, X.env.cells.lookup y.1 = some c := fun y hy e =>
    (ok.free y hy e).elim (fun z => I.ok.has _ (.inl z)) fun z => I.ok.has _ (.inr z)
  refine wpAny_comprehension_free (use := none) rfl hs (closure_ok hfr) ok.kind (fun y hy e => by rw [ok.uniq y hy, e]) (thn (hi.run pins s σ H _ I h) fun xv s1 q1 => thn q1 fun itv s2 q2 => ?_)
  obtain ⟨it, fp, tn, J, H2, rfl, I2, T, st2, f2, q⟩ := q2
  refine wpAny_newObj_type (newEnv_comp ?_) (Nat.zero_le _)
  obtain ⟨W, ⟨m0, w0⟩, turn⟩ := q s2.heap.objs.size (I2.hok.fresh (Nat.le_refl _))
  have I3 : Inv X pins σ (upd H2 s2.heap.objs.size (.lst [])) { s2 with heap := s2.heap.push { cls := .type "list", data := .seq ([] : List Value).toArray } } :=
    I2.laid (t' := s2.toks) (fun b o e => Heap.get?_push_of_some _ e) (Nat.le_refl _) ⟨Nat.zero_le _, [], 0, .nil, Heap.get?_push_size _ rfl⟩
  generalize hD : s2.heap.objs.size = D at I3 w0 turn ⊢
  generalize hs3 : ({ s2 with heap := s2.heap.push { cls := .type "list", data := .seq ([] : List Value).toArray } } : Shared) = s3 at I3 ⊢
  have h3 : s3.heap = s2.heap.push { cls := .type "list", data := .seq ([] : List Value).toArray } := by rw [← hs3]
  have lt : ∀ b ∈ fp, b < s2.heap.objs.size := fun b hb => (T.obj _ _ st2 b hb).elim fun o z => Heap.lt_size z.1
  have f3 : ∀ b ∈ fp, FpOk X pins (upd H2 D (.lst [])) b ∧ b < s3.heap.objs.size := fun b hb =>
    ⟨⟨by rw [upd_ne (by rw [← hD]; exact Nat.ne_of_lt (lt b hb))]; exact (f2 b hb).1, (f2 b hb).2⟩, by rw [h3, Heap.size_push]; exact Nat.lt_succ_of_lt (lt b hb)⟩
  have st3 : tn 0 s3.heap := T.keep _ _ _ st2 fun b _ o e => by rw [h3]; exact Heap.get?_push_of_some _ e
  have I4 := block_start I3 ok hN f3
  generalize hcl : cellsFrom (s3.heap.objs.size + 1) scope.names (cloFrom X.env.cells scope.names []) = cl at I4
  have pg := hg s3 (upd H2 D (.lst [])) s3.heap.objs.size cl fp
  have pt := htt s3 (upd H2 D (.lst [])) s3.heap.objs.size cl fp
  have pr := hr s3 (upd H2 D (.lst [])) s3.heap.objs.size cl fp D
  have cL : (compEnvC scope cl s3.heap.objs.size X.env).locals = s3.heap.objs.size := rfl
  have okY := I4.ok
  have stat : ∀ {H' : Hp}, (∀ b ∈ fp, H' b = none) → ∀ b ∈ fp, FpOk (X.blk s3 (upd H2 D (.lst [])) scope (compEnvC scope cl s3.heap.objs.size X.env) fp) [] H' b := fun {H'} hn b hb =>
    ⟨hn b hb, (okY.exf b hb).1, okY.exfs b hb, .inl hb, (okY.exf b hb).2, fun q hq => by cases hq⟩
  have st4 : tn 0 (pushCells (s3.heap.push { cls := .type "dict", data := .dict #[] }) scope.names) := T.keep _ _ _ st3 fun b _ o e => pushCells_keeps _ _ _ _ (Heap.get?_push_of_some _ e)
  have loop := loopCl (Y := X.blk s3 (upd H2 D (.lst [])) scope (compEnvC scope cl s3.heap.objs.size X.env) fp) (Nx := Q (.ref D)) (p := p) (tg := tg) (pos := pos) (elt := elt) (gens := ⟨tg, iter, ifs, 0⟩ :: more) (scope := scope) (d := 0) (D := D) (fun _ _ z => z) hc (ht _ _ _) sub pg pt pr I4 T st4 (fun b hb => (f3 b hb).1.1) stat w0 turn
  have loop2 := codeAny_mono (R' := compPost (model X.prog X.w) X.A X.xe none (EP X pins σ Q) (.ref D) s3.heap.objs.size) loop fun r s' hq => ?fin
  case fin =>
    cases r with
    | error e => exact hq.elim
    | ok f =>
      obtain ⟨hf, H', I6, q6⟩ := hq
      cases hf
      have I7 : Inv X pins σ H' s' := I3.call' (ch := fp) I6.os I6.base I6.hok I6.bare fun b hb => ⟨(f3 b hb).1.2.2.2.1, (f3 b hb).1.2.1, (f3 b hb).1.2.2.2.2.1, (f3 b hb).1.2.2.2.2.2⟩
      have nC : H' s3.heap.objs.size = none := I6.free
      obtain ⟨m, hn, _⟩ := I6.loc
      obtain ⟨f0, f1, _, f4, f5, f6⟩ := I3.fpOk (Nat.le_refl _) nC
      exact ⟨m, hn, fun h'' sb => ⟨.ref D, H', I7.turned (t' := s'.toks) (fun b o hb e => (sb.2 b hb).trans e) f0 f1 f4 f5 f6, rfl, q6⟩⟩
  exact codeAny_compStart_list (env := compEnvC scope cl s3.heap.objs.size X.env) loop2 (T.self X.A 0 _ _ _ st4 loop2)
end K86

namespace K86
open PySem PySem.Spec PyProof.Rows L2

/-! ### zip(xs, ys, strict=False) over two lists -/
theorem zk_type (a b c : Value) : checkTypeCall "zip" ⟨[a, b], [(Str.ofString "strict", c)]⟩ = pure () := by kernel_rfl
theorem zk_new (a b c : Value) : checkBuiltinCall "zip.__new__" ⟨[.type "zip", a, b], [(Str.ofString "strict", c)]⟩ = pure () := by kernel_rfl
theorem zk_init (o a b c : Value) : argsOk "object.__init__" ⟨[o, a, b], [(Str.ofString "strict", c)]⟩ := by unfold argsOk; kernel_rfl
theorem zk_meets (l1 l2 : Addr) (xs ys : Array Value) :
    Meets (Builtin.«zip.__new__» ⟨[.type "zip", .ref l1, .ref l2], [(Str.ofString "strict", .bool false)]⟩) (fun _ R s => s.heap.IsList l1 xs ∧ s.heap.IsList l2 ys ∧
      R (.ok (.ret (.ref (zipH4 s.heap l1 l2).objs.size))) { s with heap := zipH5 s.heap l1 l2 }) :=
  .of_wp fun prog w A R s h => by
    obtain ⟨hp, g, d, tk, os⟩ := s
    obtain ⟨h1, h2, h⟩ := h
    have hsub := PySem.sub_zip
    have e1 : Heap.IsList (Shared.heap ⟨hp, g, d, tk, os⟩) l1 xs := h1
    have e2 : Heap.IsList (Shared.heap ⟨hp.push { cls := .type "list_iterator", data := .fields #[.ref l1, .int 0 0] }, g, d, tk, os⟩) l2 ys := Heap.IsList.push h2 _
    have e3 : (Str.ofString "strict" != ("strict" : Str)) = false := by decide +kernel
    wp_walk using wpAny_pyIter_list e1, wpAny_pyIter_list e2
    exact ⟨_, rfl, h⟩
section
variable {prog : Program} {w : World} {A : Around} {E : Value → Shared → Prop} {s : Shared}
theorem zk_call {l1 l2 : Addr} {xs ys : Array Value} {Q : Value → Shared → Prop} (h1 : s.heap.IsList l1 xs) (h2 : s.heap.IsList l2 ys)
    (h : ∀ h', IsZip h' (s.heap.objs.size + 4) (s.heap.objs.size + 2) (s.heap.objs.size + 3) .none → IsPair h' (s.heap.objs.size + 2) (.ref s.heap.objs.size) (.ref (s.heap.objs.size + 1)) →
      IsPair h' (s.heap.objs.size + 3) .none .none → h'.IsListIter s.heap.objs.size l1 0 → h'.IsListIter (s.heap.objs.size + 1) l2 0 →
      (∀ c o, s.heap.get? c = some o → h'.get? c = some o) → Q (.ref (s.heap.objs.size + 4)) { s with heap := h' }) :
    wpAny (model prog w) A (call (.type "zip") [.ref l1, .ref l2] [(Str.ofString "strict", .bool false)]) Q E s := by
  refine callType_newKw PySem.F.called_zip (by decide) (zk_type _ _ _) (zk_new _ _ _) (fun o => zk_init o _ _ _) PySem.F.entry_zip_new (zk_meets l1 l2 xs ys) ⟨h1, h2, ?_⟩
  obtain ⟨n, hn⟩ : ∃ n, n = s.heap.objs.size := ⟨_, rfl⟩
  have z1 : (zipH1 s.heap l1).objs.size = n + 1 := by rw [Heap.size_push, hn]
  have z2 : (zipH2 s.heap l1 l2).objs.size = n + 2 := by rw [Heap.size_push, z1]
  have z3 : (zipH3 s.heap l1 l2).objs.size = n + 3 := by rw [Heap.size_push, z2]
  have z4 : (zipH4 s.heap l1 l2).objs.size = n + 4 := by rw [Heap.size_push, z3]
  have p5 : ∀ c o, (zipH4 s.heap l1 l2).get? c = some o → (zipH5 s.heap l1 l2).get? c = some o := fun c o e => Heap.get?_push_of_some _ e
  have p4 : ∀ c o, (zipH3 s.heap l1 l2).get? c = some o → (zipH5 s.heap l1 l2).get? c = some o := fun c o e => p5 c o (Heap.get?_push_of_some _ e)
  have p3 : ∀ c o, (zipH2 s.heap l1 l2).get? c = some o → (zipH5 s.heap l1 l2).get? c = some o := fun c o e => p4 c o (Heap.get?_push_of_some _ e)
  have p2 : ∀ c o, (zipH1 s.heap l1).get? c = some o → (zipH5 s.heap l1 l2).get? c = some o := fun c o e => p3 c o (Heap.get?_push_of_some _ e)
  have g5 : (zipH5 s.heap l1 l2).get? (zipH4 s.heap l1 l2).objs.size = some _ := Heap.get?_push_size _ rfl
  have g4 := p5 _ _ (Heap.get?_push_size (zipH3 s.heap l1 l2) (o := { cls := .type "tuple", data := .seq #[.none, .none] }) rfl)
  have g3 := p4 _ _ (Heap.get?_push_size (zipH2 s.heap l1 l2) (o := { cls := .type "tuple", data := .seq #[.ref s.heap.objs.size, .ref (zipH1 s.heap l1).objs.size] }) rfl)
  have g2 := p3 _ _ (Heap.get?_push_size (zipH1 s.heap l1) (o := { cls := .type "list_iterator", data := .fields #[.ref l2, .int 0 0] }) rfl)
  have g1 := p2 _ _ (Heap.get?_push_size s.heap (o := { cls := .type "list_iterator", data := .fields #[.ref l1, .int 0 0] }) rfl)
  show _ ∧ _
  rw [z2, z3, z4] at g5
  rw [z1, z2] at g3
  rw [z3] at g4
  rw [z1] at g2
  rw [z4]
  rw [← hn] at g1 g3 h
  exact ⟨⟨_, g5, rfl⟩, h _ g5 g3 g4 ⟨_, g1, rfl, rfl⟩ ⟨_, g2, rfl, rfl⟩ fun c o x => p2 c o (Heap.get?_push_of_some _ x)⟩
theorem callWith_tyKw {M : Model} {pos : Pos} {T : String} {first : List Value} {args : List (Bool × Sem Value)} {kws : List (Option Str × Sem Value)} {Q : Value → Shared → Prop}
    (hp : args.any (·.1) = false) (hk : kws.any (·.1.isNone) = false)
    (h : wpAny M A (evalArgs (.type T) true args kws) (fun a s1 => wpAny M A (call (.type T) (first ++ a.pos) a.kw) Q E s1) E s) : wpAny M A (callWith pos (.type T) first args kws) Q E s := by
  unfold callWith
  refine wpAny_bind (wpAny_holding (wpAny_mono h (fun a s1 q1 => ?_) fun _ _ z => z))
  refine wpAny_bind (wpAny_standAt ?_)
  simp only [hp, hk, Bool.or_false]
  exact wpAny_bind (wpAny_pure (wpAny_bind (wpAny_mono q1 (fun r s2 q2 => wpAny_bind (wpAny_holding (wpAny_point (wpAny_pure q2)))) fun _ _ z => z)))
end
theorem pi_zipF {X : Cx} {e e2 : Expr} {ta : TA} {p pos tpos p1 p2 : Pos} {elts : List Expr} {kk j : Nat} (hg : Gl X "zip") (hm : X.mg "zip" = none) (ha : PA X [e, e2] ta)
    (hs : starEach [e, e2] X.env = (false, eval e X.env) :: starEach [e2] X.env := by rfl) (hpl : (backTo pos (starEach [e2] X.env)).any (·.1) = false := by rfl) :
    PI X (.Tuple elts kk tpos) (.Call (.Name "zip" p) [e, e2] [⟨some "strict", .Constant (.bool false) j p1, p2⟩] pos) (iZip X.K ta) := by
  refine ⟨fun pins s σ H R I h => wpAny_Call_Name_kw (ld_blt I hg hm PyProof.Rows.boot_zip (callWith_tyKw (by rw [hs]; exact hpl) rfl ?_))⟩
  rw [hs]
  refine evalArgs_kwB rfl ?_
  rw [← show backTo pos (starEach [e, e2] X.env) = (false, _) :: _ by rw [hs]; rfl]
  refine thn (ha.run pos pins s σ H _ I h) fun us s1 q => ?_
  obtain ⟨vs, H1, I1, r1, a, b, xs, ys, rfl, hqx, hqy, q⟩ := q
  refine kws_cons (Constant_bool (kws_nil ?_))
  obtain ⟨u1, u2, rfl, ra, rb⟩ := vals2 r1
  cases (show u1 = Value.ref a from ra)
  cases (show u2 = Value.ref b from rb)
  obtain ⟨its, rv, t1, _⟩ := I1.list hqx
  obtain ⟨its2, rv2, t2, _⟩ := I1.list hqy
  refine zk_call t1.isList t2.isList fun h' z TI TO i1 i2 hk => wpAny_pyIter_zip z ?_
  have I2 : Inv X pins σ H1 { s1 with heap := h' } := I1.kept (t' := s1.toks) hk
  refine ⟨s1.heap.objs.size + 4, [s1.heap.objs.size + 4, s1.heap.objs.size + 2, s1.heap.objs.size + 3, s1.heap.objs.size, s1.heap.objs.size + 1], _, _, H1, rfl, I2,
    turn_zip (PySem.W.ktu_apart s1.heap.objs.size a b t1.lt t2.lt), ⟨z, TI, ⟨_, _, TO⟩, i1, i2⟩, fun c hc => ?_, q⟩
  have hle : s1.heap.objs.size ≤ c := by
    rcases List.mem_cons.mp hc with e | hc
    · rw [e]; exact Nat.le_add_right _ _
    rcases List.mem_cons.mp hc with e | hc
    · rw [e]; exact Nat.le_add_right _ _
    rcases List.mem_cons.mp hc with e | hc
    · rw [e]; exact Nat.le_add_right _ _
    rcases List.mem_cons.mp hc with e | hc
    · rw [e]; exact Nat.le_refl _
    · rw [List.mem_singleton.mp hc]; exact Nat.le_add_right _ _
  exact I1.fpOk hle (I1.hok.fresh hle)
end K86

namespace K86
open PySem PySem.Spec PyProof.Rows L2
/-! ### the text by places -/
def topS (i : Nat) : Stmt := PySem.Challenge.pw_beanjars_k86_whole_any_accepted_reason.main.body.getD i (.Pass ⟨0, 0, 0, 0⟩)
abbrev sIsInt : Stmt := topS 6
abbrev nIsInt : List Str := ["value"]
theorem scIsInt : FnScope nIsInt ["value"] (defScope sIsInt) := ⟨rfl, rfl, rfl, by decide +kernel, rfl, by decide +kernel, by decide +kernel⟩
abbrev sIsCol : Stmt := topS 7
abbrev nIsCol : List Str := ["size", "value"]
theorem scIsCol : FnScope nIsCol ["size", "value"] (defScope sIsCol) := ⟨rfl, rfl, rfl, by decide +kernel, rfl, by decide +kernel, by decide +kernel⟩
abbrev sShape : Stmt := topS 8
abbrev nShape : List Str := ["rows", "row"]
theorem scShape : FnScope nShape ["rows"] (defScope sShape) := ⟨rfl, rfl, rfl, by decide +kernel, rfl, by decide +kernel, by decide +kernel⟩
abbrev sPlaces : Stmt := topS 9
abbrev nPlaces : List Str := ["size", "a", "b"]
theorem scPlaces : FnScope nPlaces ["size"] (defScope sPlaces) := ⟨rfl, rfl, rfl, by decide +kernel, rfl, by decide +kernel, by decide +kernel⟩
abbrev sWrong : Stmt := topS 10
abbrev nWrong : List Str := ["rows", "a", "b"]
theorem scWrong : FnScope nWrong ["rows"] (defScope sWrong) := ⟨rfl, rfl, rfl, by decide +kernel, rfl, by decide +kernel, by decide +kernel⟩
abbrev sTests : Stmt := topS 13
abbrev nTests : List Str := ["table", "colours", "found", "a", "b", "c", "one", "other"]
theorem scTests : FnScope nTests ["table"] (defScope sTests) := ⟨rfl, rfl, rfl, by decide +kernel, rfl, by decide +kernel, by decide +kernel⟩
abbrev sPuts : Stmt := topS 14
abbrev nPuts : List Str := ["table", "step", "one", "other", "steps", "c", "found"]
theorem scPuts : FnScope nPuts ["table", "step"] (defScope sPuts) := ⟨rfl, rfl, rfl, by decide +kernel, rfl, by decide +kernel, by decide +kernel⟩
abbrev sTurned : Stmt := topS 15
abbrev nTurned : List Str := ["step", "one", "other", "why", "inner"]
theorem scTurned : FnScope nTurned ["step"] (defScope sTurned) := ⟨rfl, rfl, rfl, by decide +kernel, rfl, by decide +kernel, by decide +kernel⟩
abbrev sGNames : Stmt := topS 17
abbrev nGNames : List Str := ["table"]
theorem scGNames : FnScope nGNames ["table"] (defScope sGNames) := ⟨rfl, rfl, rfl, by decide +kernel, rfl, by decide +kernel, by decide +kernel⟩
abbrev sGroups : Stmt := topS 18
abbrev nGroups : List Str := ["table", "names", "name", "colour"]
theorem scGroups : FnScope nGroups ["table"] (defScope sGroups) := ⟨rfl, rfl, rfl, by decide +kernel, rfl, by decide +kernel, by decide +kernel⟩
abbrev sReason : Stmt := topS 19
abbrev nReason : List Str := ["table", "start", "end", "colour", "forest", "names"]
theorem scReason : FnScope nReason ["table", "start", "end"] (defScope sReason) := ⟨rfl, rfl, rfl, by decide +kernel, rfl, by decide +kernel, by decide +kernel⟩
abbrev sIsTest : Stmt := topS 20
abbrev nIsTest : List Str := ["table", "one", "other", "why", "a", "b", "c", "pair", "colour"]
theorem scIsTest : FnScope nIsTest ["table", "one", "other", "why"] (defScope sIsTest) := ⟨rfl, rfl, rfl, by decide +kernel, rfl, by decide +kernel, by decide +kernel⟩
abbrev sIsPut : Stmt := topS 21
abbrev nIsPut : List Str := ["table", "one", "other", "why", "c", "first", "second", "colour"]
theorem scIsPut : FnScope nIsPut ["table", "one", "other", "why"] (defScope sIsPut) := ⟨rfl, rfl, rfl, by decide +kernel, rfl, by decide +kernel, by decide +kernel⟩
abbrev sIsStep : Stmt := topS 22
abbrev nIsStep : List Str := ["table", "step", "one", "other", "why"]
theorem scIsStep : FnScope nIsStep ["table", "step"] (defScope sIsStep) := ⟨rfl, rfl, rfl, by decide +kernel, rfl, by decide +kernel, by decide +kernel⟩
abbrev sAreSteps : Stmt := topS 23
abbrev nAreSteps : List Str := ["table", "start", "end", "value", "colours", "step", "colour"]
theorem scAreSteps : FnScope nAreSteps ["table", "start", "end", "value"] (defScope sAreSteps) := ⟨rfl, rfl, rfl, by decide +kernel, rfl, by decide +kernel, by decide +kernel⟩
abbrev sIsReason : Stmt := topS 24
abbrev nIsReason : List Str := ["table", "start", "end", "value", "colour"]
theorem scIsReason : FnScope nIsReason ["table", "start", "end", "value"] (defScope sIsReason) := ⟨rfl, rfl, rfl, by decide +kernel, rfl, by decide +kernel, by decide +kernel⟩
abbrev sPool : Stmt := topS 26
abbrev nPool : List Str := ["_law_script", "_law_k", "_law_cell", "_law_seed"]
theorem scPool : FnScope nPool ["_law_script", "_law_k"] (defScope sPool) := ⟨rfl, rfl, rfl, by decide +kernel, rfl, by decide +kernel, by decide +kernel⟩
abbrev sDraw : Stmt := topS 27
abbrev nDraw : List Str := ["_law_pool_here", "_law_many", "_law_digit"]
theorem scDraw : FnScope nDraw ["_law_pool_here", "_law_many"] (defScope sDraw) := ⟨rfl, rfl, rfl, by decide +kernel, rfl, by decide +kernel, by decide +kernel⟩
abbrev sChoose : Stmt := topS 28
abbrev nChoose : List Str := ["_law_pool_here", "_law_items"]
theorem scChoose : FnScope nChoose ["_law_pool_here", "_law_items"] (defScope sChoose) := ⟨rfl, rfl, rfl, by decide +kernel, rfl, by decide +kernel, by decide +kernel⟩
abbrev sLRows : Stmt := topS 29
abbrev nLRows : List Str := ["_law_pool_here", "_law_size", "_law_rows_here", "_law_a", "_law_b", "_law_colour"]
theorem scLRows : FnScope nLRows ["_law_pool_here", "_law_size"] (defScope sLRows) := ⟨rfl, rfl, rfl, by decide +kernel, rfl, by decide +kernel, by decide +kernel⟩
abbrev sKind : Stmt := topS 30
abbrev nKind : List Str := ["_law_pool_here", "_law_size", "_law_way", "_law_a", "_law_b"]
theorem scKind : FnScope nKind ["_law_pool_here", "_law_size"] (defScope sKind) := ⟨rfl, rfl, rfl, by decide +kernel, rfl, by decide +kernel, by decide +kernel⟩
abbrev sDivs : Stmt := topS 31
abbrev nDivs : List Str := ["_law_size", "_law_found", "_law_colour", "_law_longer", "_law_names", "_law_name"]
theorem scDivs : FnScope nDivs ["_law_size"] (defScope sDivs) := ⟨rfl, rfl, rfl, by decide +kernel, rfl, by decide +kernel, by decide +kernel⟩
abbrev sIsRight : Stmt := topS 32
abbrev nIsRight : List Str := ["_law_rows_here", "_law_names", "_law_size", "_law_a", "_law_b", "_law_c", "_law_one", "_law_other"]
theorem scIsRight : FnScope nIsRight ["_law_rows_here", "_law_names"] (defScope sIsRight) := ⟨rfl, rfl, rfl, by decide +kernel, rfl, by decide +kernel, by decide +kernel⟩
abbrev sLStep : Stmt := topS 33
abbrev nLStep : List Str := ["_law_pool_here", "_law_rows_here", "_law_size", "_law_a", "_law_b", "_law_c", "_law_inner", "_law_steps"]
theorem scLStep : FnScope nLStep ["_law_pool_here", "_law_rows_here"] (defScope sLStep) := ⟨rfl, rfl, rfl, by decide +kernel, rfl, by decide +kernel, by decide +kernel⟩
abbrev sLaw : Stmt := topS 34
abbrev nLaw : List Str := ["_law_script", "_law_k", "_law_pool_here", "_law_size", "_law_rows_here", "_law_table", "_law_parts", "_law_right", "_law_turn", "_law_value", "_law_start", "_law_end", "_law_names", "_law_place", "_law_part"]
theorem scLaw : FnScope nLaw ["_law_script"] (defScope sLaw) := ⟨rfl, rfl, rfl, by decide +kernel, rfl, by decide +kernel, by decide +kernel⟩
abbrev sTInit : Stmt := inClass (topS 11) 0
abbrev nTInit : List Str := ["self", "rows", "place", "row"]
theorem scTInit : FnScope nTInit ["self", "rows"] (defScope sTInit) := ⟨rfl, rfl, rfl, by decide +kernel, rfl, by decide +kernel, by decide +kernel⟩
abbrev sTSize : Stmt := inClass (topS 11) 1
abbrev nTSize : List Str := ["self"]
theorem scTSize : FnScope nTSize ["self"] (defScope sTSize) := ⟨rfl, rfl, rfl, by decide +kernel, rfl, by decide +kernel, by decide +kernel⟩
abbrev sTVal : Stmt := inClass (topS 11) 3
abbrev nTVal : List Str := ["self", "value"]
theorem scTVal : FnScope nTVal ["self", "value"] (defScope sTVal) := ⟨rfl, rfl, rfl, by decide +kernel, rfl, by decide +kernel, by decide +kernel⟩
abbrev sTGet : Stmt := inClass (topS 11) 4
abbrev nTGet : List Str := ["self", "pair", "value"]
theorem scTGet : FnScope nTGet ["self", "pair"] (defScope sTGet) := ⟨rfl, rfl, rfl, by decide +kernel, rfl, by decide +kernel, by decide +kernel⟩
abbrev sFInit : Stmt := inClass (topS 16) 0
abbrev nFInit : List Str := ["self", "table", "waiting", "step"]
theorem scFInit : FnScope nFInit ["self", "table"] (defScope sFInit) := ⟨rfl, rfl, rfl, by decide +kernel, rfl, by decide +kernel, by decide +kernel⟩
abbrev sFJoin : Stmt := inClass (topS 16) 1
abbrev nFJoin : List Str := ["self", "step", "one", "other", "name"]
theorem scFJoin : FnScope nFJoin ["self", "step"] (defScope sFJoin) := ⟨rfl, rfl, rfl, by decide +kernel, rfl, by decide +kernel, by decide +kernel⟩
abbrev sFNames : Stmt := inClass (topS 16) 2
abbrev nFNames : List Str := ["self"]
theorem scFNames : FnScope nFNames ["self"] (defScope sFNames) := ⟨rfl, rfl, rfl, by decide +kernel, rfl, by decide +kernel, by decide +kernel⟩
abbrev sFChain : Stmt := inClass (topS 16) 3
abbrev nFChain : List Str := ["self", "start", "end", "chains", "waiting", "colour", "step"]
theorem scFChain : FnScope nFChain ["self", "start", "end"] (defScope sFChain) := ⟨rfl, rfl, rfl, by decide +kernel, rfl, by decide +kernel, by decide +kernel⟩
/-! ### what the top has left -/
structure GDef (K : PySem.W.Frag) (mg : Str → Option Value) (x : Str) (st : Stmt) (ps : List Str) where
  f : Addr
  fd : FuncData
  F : Fun K x x st f fd
  b : Binds K fd ps []
  g : mg x = some (.ref f)
structure MDef (K : PySem.W.Frag) (x qual : Str) (st : Stmt) (ps : List Str) where
  f : Addr
  fd : FuncData
  F : Fun K x qual st f fd
  b : Binds K fd ps []
structure Txt (K : PySem.W.Frag) (mg : Str → Option Value) where
  IsInt : GDef K mg "is_integer" sIsInt ["value"]
  IsCol : GDef K mg "is_colour" sIsCol ["size", "value"]
  Shape : GDef K mg "has_shape" sShape ["rows"]
  Places : GDef K mg "places" sPlaces ["size"]
  Wrong : GDef K mg "first_wrong_place" sWrong ["rows"]
  Tests : GDef K mg "test_steps" sTests ["table"]
  Puts : GDef K mg "put_steps" sPuts ["table", "step"]
  Turned : GDef K mg "turned" sTurned ["step"]
  GNames : GDef K mg "group_names" sGNames ["table"]
  Groups : GDef K mg "groups" sGroups ["table"]
  Reason : GDef K mg "reason" sReason ["table", "start", "end"]
  IsTest : GDef K mg "is_test" sIsTest ["table", "one", "other", "why"]
  IsPut : GDef K mg "is_put" sIsPut ["table", "one", "other", "why"]
  IsStep : GDef K mg "is_step" sIsStep ["table", "step"]
  AreSteps : GDef K mg "are_steps" sAreSteps ["table", "start", "end", "value"]
  IsReason : GDef K mg "is_reason" sIsReason ["table", "start", "end", "value"]
  Pool : GDef K mg "_law_pool" sPool ["_law_script", "_law_k"]
  Draw : GDef K mg "_law_draw" sDraw ["_law_pool_here", "_law_many"]
  Choose : GDef K mg "_law_choose" sChoose ["_law_pool_here", "_law_items"]
  LRows : GDef K mg "_law_rows" sLRows ["_law_pool_here", "_law_size"]
  Kind : GDef K mg "_law_kind" sKind ["_law_pool_here", "_law_size"]
  Divs : GDef K mg "_law_divisions" sDivs ["_law_size"]
  IsRight : GDef K mg "_law_is_right" sIsRight ["_law_rows_here", "_law_names"]
  LStep : GDef K mg "_law_step" sLStep ["_law_pool_here", "_law_rows_here"]
  TInit : MDef K "__init__" "Table.__init__" sTInit ["self", "rows"]
  TSize : MDef K "size" "Table.size" sTSize ["self"]
  TVal : MDef K "validate_colour" "Table.validate_colour" sTVal ["self", "value"]
  TGet : MDef K "__getitem__" "Table.__getitem__" sTGet ["self", "pair"]
  FInit : MDef K "__init__" "Forest.__init__" sFInit ["self", "table"]
  FJoin : MDef K "join" "Forest.join" sFJoin ["self", "step"]
  FNames : MDef K "names" "Forest.names" sFNames ["self"]
  FChain : MDef K "chain" "Forest.chain" sFChain ["self", "start", "end"]
  C : Addr
  D : Addr
  clC : Cls K C
  clD : Cls K D
  gC : mg "Table" = some (.ref C)
  gD : mg "Forest" = some (.ref D)
  mkC : Mk K C TInit.f
  mkD : Mk K D FInit.f
  pz : Addr
  prSize : PropOf K C "size" pz TSize.f
  mVal : Meth K C "validate_colour" TVal.f
  getC : GetIt K C TGet.f
  mJoin : Meth K D "join" FJoin.f
  mNames : Meth K D "names" FNames.f
  mChain : Meth K D "chain" FChain.f
  nRows : NoAttr K C "own_rows"
  nTab : NoAttr K D "own_table"
  nSteps : NoAttr K D "own_steps"
  nNames : NoAttr K D "own_names"
  tm : Tok
  gMax : mg "MAX_COLOURS" = some (.int 8 tm)
  z_isinstance : mg "isinstance" = none
  z_int : mg "int" = none
  z_bool : mg "bool" = none
  z_str : mg "str" = none
  z_list : mg "list" = none
  z_tuple : mg "tuple" = none
  z_len : mg "len" = none
  z_all : mg "all" = none
  z_range : mg "range" = none
  z_min : mg "min" = none
  z_max : mg "max" = none
  z_zip : mg "zip" = none
  z_sorted : mg "sorted" = none
  z_set : mg "set" = none
end K86

namespace K86
open PySem PySem.Spec PyProof.Rows L2
/-! ### built-in names -/
theorem b_isinstance : bootBuiltins "isinstance" = some (.builtin "isinstance") := by decide +kernel
theorem b_len : bootBuiltins "len" = some (.builtin "len") := by decide +kernel
theorem b_all : bootBuiltins "all" = some (.builtin "all") := by decide +kernel
theorem b_min : bootBuiltins "min" = some (.builtin "min") := by decide +kernel
theorem b_max : bootBuiltins "max" = some (.builtin "max") := by decide +kernel
theorem b_sorted : bootBuiltins "sorted" = some (.builtin "sorted") := by decide +kernel
theorem b_int : bootBuiltins "int" = some (.type "int") := by decide +kernel
theorem b_bool : bootBuiltins "bool" = some (.type "bool") := by decide +kernel
theorem b_str : bootBuiltins "str" = some (.type "str") := by decide +kernel
theorem b_list : bootBuiltins "list" = some (.type "list") := by decide +kernel
theorem b_tuple : bootBuiltins "tuple" = some (.type "tuple") := by decide +kernel
theorem b_set : bootBuiltins "set" = some (.type "set") := by decide +kernel
theorem b_range : bootBuiltins "range" = some (.type "range") := by decide +kernel
/-! ### heaps -/
theorem same_up {H : Hp} {p : Addr} {o : HO} (h : H p = none) : Same H (upd H p o) := fun b x e => by
  rw [upd_ne (ne_of_none e h)]
  exact e
/-- all but p stands -/
def SameBut (p : Addr) (H H' : Hp) : Prop := ∀ b o, H b = some o → b ≠ p → H' b = some o
theorem SameBut.same {p : Addr} {H H' : Hp} (h : Same H H') : SameBut p H H' := fun b o e _ => h b o e
theorem SameBut.trans {p : Addr} {H H1 H2 : Hp} (a : SameBut p H H1) (b : SameBut p H1 H2) : SameBut p H H2 := fun c o e n => b c o (a c o e n) n
theorem SameBut.up {p : Addr} {H : Hp} {o : HO} : SameBut p H (upd H p o) := fun b x e n => by rw [upd_ne n]; exact e
theorem SameBut.new {p : Addr} {H H' : Hp} (h : SameBut p H H') (n : H p = none) : Same H H' := fun b o e => h b o e (ne_of_none e n)
theorem small8 {n : Nat} (h : n ≤ 1000) : n ≤ sizeLine := Nat.le_of_lt (small1000 h)
abbrev Ints (H : Hp) (a : Addr) (ns : List Int) : Prop := H a = some (.lst (ns.map V.int))
def RowsAt (H : Hp) (a : Addr) (R : Tab) : Prop := ∃ as : List Addr, H a = some (.lst (as.map V.ref)) ∧ as.length = R.length ∧
  ∀ (i : Nat) (r : Addr) (row : List Int), as[i]? = some r → R[i]? = some row → Ints H r row
theorem RowsAt.mono {H H' : Hp} {a : Addr} {R : Tab} (s : Same H H') (h : RowsAt H a R) : RowsAt H' a R := by
  obtain ⟨as, h1, h2, h3⟩ := h
  exact ⟨as, s _ _ h1, h2, fun i r row e1 e2 => s _ _ (h3 i r row e1 e2)⟩
def tfs (l : Addr) : List (Str × V) := putF "own_rows" (.ref l) []
theorem tfs_rows (l : Addr) : (tfs l).lookup ("own_rows" : Str) = some (.ref l) := by
  unfold tfs
  rw [lookup_putF, if_pos rfl]
theorem tfs_no (l : Addr) {m : Str} (h : ¬ m = "own_rows") : (tfs l).lookup m = none := by
  unfold tfs
  rw [lookup_putF, if_neg h]
  rfl
def TabAt (C : Addr) (H : Hp) (t : Addr) (R : Tab) : Prop := ∃ dx l, H t = some (.ins C dx (tfs l)) ∧ RowsAt H l R
theorem TabAt.mono {C : Addr} {H H' : Hp} {t : Addr} {R : Tab} (s : Same H H') (h : TabAt C H t R) : TabAt C H' t R := by
  obtain ⟨dx, l, h1, h2⟩ := h
  exact ⟨dx, l, s _ _ h1, h2.mono s⟩
theorem getI {ns : List Int} {i : Nat} {z : Int} (h : ns[i]? = some z) : (ns.map V.int)[i]? = some (.int z) := by rw [List.getElem?_map, h]; rfl
theorem getR {as : List Addr} {i : Nat} {z : Addr} (h : as[i]? = some z) : (as.map V.ref)[i]? = some (.ref z) := by rw [List.getElem?_map, h]; rfl
theorem of_getI {ns : List Int} {i : Nat} {v : V} (h : (ns.map V.int)[i]? = some v) : ∃ z, ns[i]? = some z ∧ v = .int z := by
  rw [List.getElem?_map] at h
  cases e : ns[i]? with
  | none => rw [e] at h; cases h
  | some z => rw [e] at h; exact ⟨z, rfl, (Option.some.inj h).symm⟩
theorem of_getR {as : List Addr} {i : Nat} {v : V} (h : (as.map V.ref)[i]? = some v) : ∃ z, as[i]? = some z ∧ v = .ref z := by
  rw [List.getElem?_map] at h
  cases e : as[i]? with
  | none => rw [e] at h; cases h
  | some z => rw [e] at h; exact ⟨z, rfl, (Option.some.inj h).symm⟩
/-- the row of a colour -/
theorem RowsAt.row {H : Hp} {R : Tab} {k : Nat} (T : OkTab k R) {x : Int} (hx : Col k x) {as : List Addr} (h2 : as.length = R.length)
    (h3 : ∀ (i : Nat) (r : Addr) (row : List Int), as[i]? = some r → R[i]? = some row → Ints H r row) :
    ∃ r row, atI (as.map V.ref) x = some (.ref r) ∧ Ints H r row ∧ row.length = k ∧ ∀ y, Col k y → atI (row.map V.int) y = some (.int (tb R x y)) := by
  obtain ⟨row, hr, hl⟩ := T.row hx
  have hi : x.toNat < as.length := by rw [h2]; exact (List.getElem?_eq_some_iff.mp hr).1
  have e := List.getElem?_eq_getElem hi
  have ex : x = (x.toNat : Int) := by have := hx.1; omega
  refine ⟨as[x.toNat], row, at_of ex (getR e), h3 _ _ _ e hr, hl, fun y hy => ?_⟩
  have ey : y = (y.toNat : Int) := by have := hy.1; omega
  exact at_of ey (getI (T.get hr hy))
/-! ### the answers of two built-in tests -/
theorem k_int_int {K : PySem.W.Frag} : PySem.W.kitOne K (.type "int") (.type "int") = some true := kit_ty (by decide +kernel)
theorem k_int_bool {K : PySem.W.Frag} : PySem.W.kitOne K (.type "int") (.type "bool") = some false := kit_ty (by decide +kernel)
theorem k_tup_tup {K : PySem.W.Frag} : PySem.W.kitOne K (.type "tuple") (.type "tuple") = some true := kit_ty (by decide +kernel)
theorem k_list_list {K : PySem.W.Frag} : PySem.W.kitOne K (.type "list") (.type "list") = some true := kit_ty (by decide +kernel)
theorem k_str_str {K : PySem.W.Frag} : PySem.W.kitOne K (.type "str") (.type "str") = some true := kit_ty (by decide +kernel)
theorem k_list_lt {K : PySem.W.Frag} : PySem.W.kitAny K (.type "list") [.type "list", .type "tuple"] = some true := kitAny_cons k_list_list (fun z => nomatch z) (fun _ => rfl)
end K86

namespace K86
open PySem PySem.Spec PyProof.Rows L2
/-! ### clauses and comprehensions by what holds between two turns -/
theorem cl_it {J : It} {n : Nat} {g : TG} {tt : TT} {tR : TIn} {vs : List Nat} {σ : L2.St} {H1 : Hp} {Nx : Hp → Prop} (Pv : Nat → Hp → Prop) (h0 : Pv 0 H1)
    (go : ∀ i H, i < n → Pv i H → J.go i H) (st : ∀ H, Pv n H → J.stop n H)
    (hs : ∀ i x H H', i < n → Pv i H → J.yld i H x H' → g x (wipe σ vs) H' fun σ2 H2 => wipe σ2 vs = wipe σ vs ∧ tt σ2 H2 fun b H3 => if b = true then tR σ2 H3 (Pv (i + 1)) else Pv (i + 1) H3)
    (hd : ∀ H, Pv n H → Nx H) :
    ∃ W : Nat → Nat → Hp → Prop, (∃ m, W 0 m H1) ∧ ∀ i m H, W i m H → (J.stop i H ∧ Nx H) ∨ (J.go i H ∧ ∃ N1 : Hp → Prop, (∀ H', N1 H' → ∃ m', m' < m ∧ W (i + 1) m' H') ∧
      ∀ x H', J.yld i H x H' → g x (wipe σ vs) H' fun σ2 H2 => wipe σ2 vs = wipe σ vs ∧ tt σ2 H2 fun b H3 => if b = true then tR σ2 H3 N1 else N1 H3) := by
  refine ⟨fun i m H => m + i = n ∧ Pv i H, ⟨n, rfl, h0⟩, ?_⟩
  rintro i m H ⟨e, p⟩
  by_cases hi : i < n
  · exact .inr ⟨go i H hi p, Pv (i + 1), fun H' p' => ⟨m - 1, by omega, by omega, p'⟩, fun x H' y => hs i x H H' hi p y⟩
  · obtain rfl : i = n := by omega
    exact .inl ⟨st H p, hd H p⟩
/-- what a list walked gives -/
theorem itl_go {K : PySem.W.Frag} {a : Addr} {xs : List V} {i : Nat} {H : Hp} (h : SqL K H a xs) (hi : i < xs.length) : (Itl K a).go i H := ⟨xs, xs[i], h, List.getElem?_eq_getElem hi⟩
theorem itl_st {K : PySem.W.Frag} {a : Addr} {xs : List V} {H : Hp} (h : SqL K H a xs) : (Itl K a).stop xs.length H := ⟨xs, h, Nat.le_refl _⟩
theorem itl_yl {K : PySem.W.Frag} {a : Addr} {xs : List V} {i : Nat} {x : V} {H H' : Hp} (h : SqL K H a xs) (y : (Itl K a).yld i H x H') : H' = H ∧ xs[i]? = some x := ⟨y.1, y.2 _ h⟩
/-- [e for ..] without a test: P of each item, whatever happens to the new list at D -/
theorem lc_map {J : It} {n : Nat} {g : TG} {te : TE} {vs : List Nat} {σ : L2.St} {H1 : Hp} {D : Addr} {Qd : Hp → Prop} (hD : H1 D = none) (hn : n < sizeLine)
    (I : Nat → V → Hp → Prop) (P : Nat → V → Hp → Prop) (mono : ∀ i v H H', SameBut D H H' → P i v H → P i v H')
    (go : ∀ i H, i < n → Same H1 H → J.go i H) (yl : ∀ i H x H', i < n → Same H1 H → J.yld i H x H' → Same H H' ∧ I i x H') (st : ∀ H, Same H1 H → J.stop n H)
    (hs : ∀ i x H, i < n → I i x H → Same H1 H → H D ≠ none → ∀ Qe : VK, (∀ y H', Same H H' → P i y H' → Qe y H') → g x (wipe σ vs) H fun σ2 H2 => wipe σ2 vs = wipe σ vs ∧ te σ2 H2 Qe)
    (hd : ∀ ys H, Same H1 H → H D = some (.lst ys) → ys.length = n → (∀ i y, ys[i]? = some y → P i y H) → Qd H) :
    ∃ W : Nat → Nat → Hp → Prop, (∃ m, W 0 m (upd H1 D (.lst []))) ∧ ∀ i m H, W i m H → (J.stop i H ∧ Qd H) ∨ (J.go i H ∧ ∃ Nx : Hp → Prop, (∀ H', Nx H' → ∃ m', m' < m ∧ W (i + 1) m' H') ∧
      ∀ x H', J.yld i H x H' → g x (wipe σ vs) H' fun σ2 H2 => wipe σ2 vs = wipe σ vs ∧ tYes σ2 H2 fun b H3 =>
        if b = true then te σ2 H3 fun y H4 => ∃ acc, H4 D = some (.lst acc) ∧ acc.length < sizeLine ∧ Nx (upd H4 D (.lst (acc ++ [y]))) else Nx H3) := by
  refine cl_it (J := J) (n := n) (tt := tYes) (tR := tEm te D) (fun i H => Same H1 H ∧ ∃ ys, H D = some (.lst ys) ∧ ys.length = i ∧ ∀ j y, ys[j]? = some y → P j y H) ?_ (fun i H hi p => go i H hi p.1) (fun H p => st H p.1) ?_ ?_
  · exact ⟨same_up hD, [], upd_same, rfl, fun j y e => by simp at e⟩
  · rintro i x H H' hi ⟨s1, ys, e1, e2, e3⟩ y
    obtain ⟨s2, hI⟩ := yl i H x H' hi s1 y
    have e1' := s2 _ _ e1
    refine hs i x H' hi hI (s1.trans s2) (by rw [e1']; exact fun z => nomatch z) _ fun z H4 s3 p => ?_
    have e4 := s3 _ _ e1'
    refine ⟨ys, e4, by omega, fun b o e => ?_, ys ++ [z], upd_same, by rw [List.length_append, e2]; rfl, fun j v hj => ?_⟩
    · rw [upd_ne (ne_of_none e hD)]
      exact s3 _ _ (s2 _ _ (s1 _ _ e))
    · have hj0 := (List.getElem?_eq_some_iff.mp hj).1
      rw [List.length_append, e2] at hj0
      have hj0 : j < i + 1 := hj0
      by_cases hji : j < i
      · rw [List.getElem?_append_left (by omega)] at hj
        have sb : SameBut D H (upd H4 D (.lst (ys ++ [z]))) := fun b o e ne => by rw [upd_ne ne]; exact s3 _ _ (s2 _ _ e)
        exact mono _ _ _ _ sb (e3 j v hj)
      · obtain rfl : j = i := by omega
        rw [List.getElem?_append_right (by omega), e2, Nat.sub_self] at hj
        cases hj
        exact mono _ _ _ _ SameBut.up p
  · rintro H ⟨s1, ys, e1, e2, e3⟩
    exact hd ys H s1 e1 e2 e3
/-- .. with a test: P i none H where the item is left out -/
theorem lc_filt {J : It} {n : Nat} {g : TG} {tt : TT} {te : TE} {vs : List Nat} {σ : L2.St} {H1 : Hp} {D : Addr} {Qd : Hp → Prop} (hD : H1 D = none) (hn : n < sizeLine)
    (I : Nat → V → Hp → Prop) (P : Nat → Option V → Hp → Prop) (mono : ∀ i v H H', SameBut D H H' → P i v H → P i v H')
    (go : ∀ i H, i < n → Same H1 H → J.go i H) (yl : ∀ i H x H', i < n → Same H1 H → J.yld i H x H' → Same H H' ∧ I i x H') (st : ∀ H, Same H1 H → J.stop n H)
    (hs : ∀ i x H, i < n → I i x H → Same H1 H → H D ≠ none → ∀ (Qe : VK) (Qn : Hp → Prop), (∀ y H', Same H H' → P i (some y) H' → Qe y H') → (∀ H', Same H H' → P i none H' → Qn H') →
      g x (wipe σ vs) H fun σ2 H2 => wipe σ2 vs = wipe σ vs ∧ tt σ2 H2 fun b H3 => if b = true then te σ2 H3 Qe else Qn H3)
    (hd : ∀ (os : List (Option V)) H, Same H1 H → H D = some (.lst (os.filterMap id)) → os.length = n → (∀ i o, os[i]? = some o → P i o H) → Qd H) :
    ∃ W : Nat → Nat → Hp → Prop, (∃ m, W 0 m (upd H1 D (.lst []))) ∧ ∀ i m H, W i m H → (J.stop i H ∧ Qd H) ∨ (J.go i H ∧ ∃ Nx : Hp → Prop, (∀ H', Nx H' → ∃ m', m' < m ∧ W (i + 1) m' H') ∧
      ∀ x H', J.yld i H x H' → g x (wipe σ vs) H' fun σ2 H2 => wipe σ2 vs = wipe σ vs ∧ tt σ2 H2 fun b H3 =>
        if b = true then te σ2 H3 fun y H4 => ∃ acc, H4 D = some (.lst acc) ∧ acc.length < sizeLine ∧ Nx (upd H4 D (.lst (acc ++ [y]))) else Nx H3) := by
  have fl : ∀ os : List (Option V), (os.filterMap id).length ≤ os.length := fun os => List.length_filterMap_le _ _
  have next : ∀ {i : Nat} {os : List (Option V)} {H H' : Hp} {o : Option V}, os.length = i → SameBut D H H' → (∀ j o, os[j]? = some o → P j o H) → P i o H' → ∀ (j : Nat) (v : Option V), (os ++ [o])[j]? = some v → P j v H' := by
    intro i os H H' o e2 sb e3 p j v hj
    have hj0 := (List.getElem?_eq_some_iff.mp hj).1
    rw [List.length_append, e2] at hj0
    have hj0 : j < i + 1 := hj0
    by_cases hji : j < i
    · rw [List.getElem?_append_left (by omega)] at hj
      exact mono _ _ _ _ sb (e3 j v hj)
    · obtain rfl : j = i := by omega
      rw [List.getElem?_append_right (by omega), e2, Nat.sub_self] at hj
      cases hj
      exact p
  refine cl_it (J := J) (n := n) (tt := tt) (tR := tEm te D) (fun i H => Same H1 H ∧ ∃ os : List (Option V), H D = some (.lst (os.filterMap id)) ∧ os.length = i ∧ ∀ j o, os[j]? = some o → P j o H) ?_ (fun i H hi p => go i H hi p.1) (fun H p => st H p.1) ?_ ?_
  · exact ⟨same_up hD, [], upd_same, rfl, fun j y e => by simp at e⟩
  · rintro i x H H' hi ⟨s1, os, e1, e2, e3⟩ y
    obtain ⟨s2, hI⟩ := yl i H x H' hi s1 y
    have e1' := s2 _ _ e1
    refine hs i x H' hi hI (s1.trans s2) (by rw [e1']; exact fun z => nomatch z) _ _ (fun z H4 s3 p => ?_) fun H4 s3 p => ?_
    · have e4 := s3 _ _ e1'
      have hz := fl os
      refine ⟨_, e4, by omega, fun b o e => ?_, os ++ [some z], by rw [upd_same, List.filterMap_append]; rfl, by rw [List.length_append, e2]; rfl, ?_⟩
      · rw [upd_ne (ne_of_none e hD)]
        exact s3 _ _ (s2 _ _ (s1 _ _ e))
      · exact next e2 (fun b o e ne => by rw [upd_ne ne]; exact s3 _ _ (s2 _ _ e)) e3 (mono _ _ _ _ SameBut.up p)
    · refine ⟨(s1.trans s2).trans s3, os ++ [none], ?_, by rw [List.length_append, e2]; rfl, ?_⟩
      · rw [s3 _ _ e1', List.filterMap_append]
        simp
      · exact next e2 (fun b o e ne => s3 _ _ (s2 _ _ e)) e3 p
  · rintro H ⟨s1, os, e1, e2, e3⟩
    exact hd os H s1 e1 e2 e3
theorem all_refs : ∀ {ys : List V}, (∀ (i : Nat) y, ys[i]? = some y → ∃ p, y = .ref p) → ∃ as : List Addr, ys = as.map V.ref
  | [], _ => ⟨[], rfl⟩
  | y :: r, h => by
    obtain ⟨p, e⟩ := h 0 y rfl
    obtain ⟨as, e2⟩ := all_refs (ys := r) fun i z hz => h (i + 1) z hz
    exact ⟨p :: as, by rw [e, e2]; rfl⟩
theorem all_ints : ∀ {ys : List V}, (∀ (i : Nat) y, ys[i]? = some y → ∃ z, y = .int z) → ∃ ns : List Int, ys = ns.map V.int
  | [], _ => ⟨[], rfl⟩
  | y :: r, h => by
    obtain ⟨p, e⟩ := h 0 y rfl
    obtain ⟨as, e2⟩ := all_ints (ys := r) fun i z hz => h (i + 1) z hz
    exact ⟨p :: as, by rw [e, e2]; rfl⟩
theorem all_bls : ∀ {ys : List V}, (∀ (i : Nat) y, ys[i]? = some y → ∃ z, y = .bl z) → ∃ ns : List Bool, ys = ns.map V.bl
  | [], _ => ⟨[], rfl⟩
  | y :: r, h => by
    obtain ⟨p, e⟩ := h 0 y rfl
    obtain ⟨as, e2⟩ := all_bls (ys := r) fun i z hz => h (i + 1) z hz
    exact ⟨p :: as, by rw [e, e2]; rfl⟩
end K86

namespace K86
open PySem PySem.Spec PyProof.Rows L2
/-! ### the rules that read the written part, with the written part said (for blocks) -/
section
variable {X : Cx} (K : PySem.W.Frag) (hK : X.K = K)
def rLenS (K : PySem.W.Frag) : List V → Hp → VK → Prop := fun xs H Q => ∃ p ys, xs = [.ref p] ∧ (SqL K H p ys ∨ SqT K H p ys) ∧ Q (.int ys.length) H
def rListOf (K : PySem.W.Frag) : List V → Hp → VK → Prop := fun xs H Q => ∃ p ys, xs = [.ref p] ∧ (SqL K H p ys ∨ SqT K H p ys) ∧ ∀ l, H l = none → Q (.ref l) (upd H l (.lst ys))
include hK
theorem cLen : CallR X (.builtin "len") (rLenS K) := by subst hK; exact call_len_seq
theorem cList : CallR X (.type "list") (rListOf K) := by subst hK; exact call_list_of
theorem cIsi : CallR X (.builtin "isinstance") (rIsi K) := by subst hK; exact call_isi
theorem cIsiT : CallR X (.builtin "isinstance") (rIsiT K) := by subst hK; exact call_isiT
theorem ixL : IxR X (rIxL K) := by subst hK; exact ix_list
theorem ixT : IxR X (rIxT K) := by subst hK; exact ix_tup
theorem oIn : OpR X (compareOp .In) (rIn K false) := by subst hK; exact op_in_seq
theorem oNotIn : OpR X (compareOp .NotIn) (rIn K true) := by subst hK; exact op_notIn_seq
theorem piList {tg l : Expr} {tl : TE} (hl : PE X l tl) : PI X tg l (iList K tl) := by subst hK; exact pi_list hl
end
end K86

namespace K86
open PySem PySem.Spec PyProof.Rows L2
/-! ### comprehensions of several clauses, by the text alone -/
def restOf (e : Expr) (d : Nat) (D : Addr) (env : Env) (go : Sem Fin) : Sem Fin := match e with
  | .ListComp elt gens _ _ => (match gens[d]? with
    | some g => nextClause e g.iter d (.ref D) env go
    | none => emitTo elt env D go)
  | _ => go
theorem pin_em {Y : Cx} {elt : Expr} {gens : List Comprehension} {scope : Scope} {pos : Pos} {d : Nat} {te : TE} {D : Addr} (hx : ∀ e s, Y.xe e s → False) (he : PE Y elt te) (hg : gens[d]? = none := by rfl) :
    PIn Y (restOf (.ListComp elt gens scope pos) d D Y.env) [] (tEm te D) := by
  have e : restOf (.ListComp elt gens scope pos) d D Y.env = emitTo elt Y.env D := by
    funext go
    show (match gens[d]? with | some g => nextClause (.ListComp elt gens scope pos) g.iter d (.ref D) Y.env go | none => emitTo elt Y.env D go) = _
    rw [hg]
  rw [e]
  exact pin_emit hx he
theorem pin_cl {Y : Cx} {elt tg iter : Expr} {ifs : List Expr} {gens : List Comprehension} {scope : Scope} {pos : Pos} {d : Nat} {D : Addr} {vs vsR : List Nat} {wi : TI} {g : TG} {tt : TT} {tR : TIn}
    (hx : ∀ e s, Y.xe e s → False) (hc : Y.calm = true) (sub : ∀ i ∈ vsR, i ∈ vs) (pi : PI Y tg iter wi) (pg : PG Y tg g) (pt : PTs Y ifs tt) (pr : PIn Y (restOf (.ListComp elt gens scope pos) (d + 1) D Y.env) vsR tR)
    (hgs : gens[d]? = some ⟨tg, iter, ifs, 0⟩ := by rfl)
    (ht : ∀ it, compTurn (.ListComp elt gens scope pos) d it (.ref D) Y.env = turnTree iter.pos tg ifs it Y.env (restOf (.ListComp elt gens scope pos) (d + 1) D Y.env (again (.compLoop (.ListComp elt gens scope pos) d it (.ref D) Y.env))) (again (.compLoop (.ListComp elt gens scope pos) d it (.ref D) Y.env)) := by intros; rfl)
    (hs : ∀ x, foldedSetIterable iter Y.env x = pure x := by intro _; rfl) :
    PIn Y (restOf (.ListComp elt gens scope pos) d D Y.env) vs (tCl wi g tt tR vs) := by
  have e : restOf (.ListComp elt gens scope pos) d D Y.env = nextClause (.ListComp elt gens scope pos) iter d (.ref D) Y.env := by
    funext go
    show (match gens[d]? with | some g => nextClause (.ListComp elt gens scope pos) g.iter d (.ref D) Y.env go | none => emitTo elt Y.env D go) = _
    rw [hgs]
  rw [e]
  exact pin_clause hx hc hgs rfl ht hs sub pi pg pt pr
theorem pe_lcT {X : Cx} {elt tg iter : Expr} {ifs : List Expr} {more : List Comprehension} {scope : Scope} {own : List (Str × Nat)} {pos : Pos} {vsR : List Nat} {wi : TI} {g : TG} {tt : TT} {tR : Addr → TIn}
    (hc : X.calm = true) (hN : X.N.Nodup) (hi : PI X tg iter wi) (ok : BlkOk X.N X.env.scope scope own) (sub : ∀ i ∈ vsR, i ∈ own.map (·.2))
    (hg : ∀ (s : Shared) (H : Hp) (C : Addr) (cl : List (Str × Addr)) (fp : List Addr), PG (X.blk s H scope (compEnvC scope cl C X.env) fp) tg g)
    (htt : ∀ (s : Shared) (H : Hp) (C : Addr) (cl : List (Str × Addr)) (fp : List Addr), PTs (X.blk s H scope (compEnvC scope cl C X.env) fp) ifs tt)
    (hr : ∀ (s : Shared) (H : Hp) (C : Addr) (cl : List (Str × Addr)) (fp : List Addr) (D : Addr),
      PIn (X.blk s H scope (compEnvC scope cl C X.env) fp) (restOf (.ListComp elt (⟨tg, iter, ifs, 0⟩ :: more) scope pos) 1 D (compEnvC scope cl C X.env)) vsR (tR D))
    (ht : ∀ (env : Env) (it : Value) (D : Addr), compTurn (.ListComp elt (⟨tg, iter, ifs, 0⟩ :: more) scope pos) 0 it (.ref D) env =
      turnTree iter.pos tg ifs it env (restOf (.ListComp elt (⟨tg, iter, ifs, 0⟩ :: more) scope pos) 1 D env (again (.compLoop (.ListComp elt (⟨tg, iter, ifs, 0⟩ :: more) scope pos) 0 it (.ref D) env))) (again (.compLoop (.ListComp elt (⟨tg, iter, ifs, 0⟩ :: more) scope pos) 0 it (.ref D) env)) := by intros; rfl)
    (hs : ∀ x, foldedSetIterable iter X.env x = pure x := by intro _; rfl) :
    PE X (.ListComp elt (⟨tg, iter, ifs, 0⟩ :: more) scope pos) (tLcN wi g tt tR (own.map (·.2))) :=
  pe_lcN (rest := fun D env => restOf (.ListComp elt (⟨tg, iter, ifs, 0⟩ :: more) scope pos) 1 D env) hc hN hi ok sub hg htt hr ht hs
end K86

namespace K86
open PySem PySem.Spec PyProof.Rows L2
section
variable {P : Program} {w : World} {K : PySem.W.Frag} {mg : Str → Option Value} {base : Heap}
/-! ### is_integer, is_colour: of ints -/
def spIsInt : Sp := fun vs H Q _ => ∃ n : Int, vs = [.int n] ∧ Q (.bl true) H
theorem ok_IsInt (T : Txt K mg) : FnOk P w K mg base CX0 1 T.IsInt.f T.IsInt.fd ["value"] spIsInt := by
  refine T.IsInt.F.ok scIsInt (fun vs H Q E h => ?_) (fun cdv A outer s H vs Q E hr h => ?_)
  · obtain ⟨n, rfl, _⟩ := h
    rfl
  obtain ⟨n, rfl, q⟩ := h
  refine ⟨_, pss_one (ps_ret (pe_and (pe_callB call_isi rfl T.z_isinstance b_isinstance (pa_cons (pv 0) (pa_cons (pe_bltn (v := .ty "int") rfl T.z_int b_int rfl) pa_nil)))
    (pe_one (pe_not (pe_callB call_isi rfl T.z_isinstance b_isinstance (pa_cons (pv 0) (pa_cons (pe_bltn (v := .ty "bool") rfl T.z_bool b_bool rfl) pa_nil))))))), ?_⟩
  refine ⟨_, rfl, .int n, .ty "int", .type "int", .type "int", true, rfl, .ty _, .base (.int n), k_int_int, true, rfl, iteT ?_⟩
  exact ⟨_, rfl, .int n, .ty "bool", .type "int", .type "bool", false, rfl, .ty _, .base (.int n), k_int_bool, false, rfl, q⟩
def spIsCol : Sp := fun vs H Q _ => ∃ (k : Nat) (n : Int), vs = [.int k, .int n] ∧ ∀ b : Bool, (b = true ↔ Col k n) → Q (.bl b) H
theorem ok_IsCol (T : Txt K mg) : FnOk P w K mg base CX0 2 T.IsCol.f T.IsCol.fd ["size", "value"] spIsCol := by
  have G : FnOk P w K mg base CX0 1 T.IsInt.f T.IsInt.fd ["value"] spIsInt := ok_IsInt T
  refine T.IsCol.F.ok scIsCol (fun vs H Q E h => ?_) (fun cdv A outer s H vs Q E hr h => ?_)
  · obtain ⟨k, n, rfl, _⟩ := h
    rfl
  obtain ⟨k, n, rfl, q⟩ := h
  refine ⟨_, pss_one (ps_ret (pe_and (pe_call G hr rfl T.IsInt.g T.IsInt.F.kp T.IsInt.b .nil pass0 (pa_cons (pv 1) pa_nil)) (pe_one (pe_chain op_le op_lt pe_int (pv 1) (pv 0))))), ?_⟩
  refine ⟨_, rfl, n, rfl, true, rfl, iteT ⟨_, rfl, 0, n, rfl, rfl, decide (0 ≤ n), rfl, ite2 (fun c => ?_) (fun c => ?_)⟩⟩
  · refine ⟨_, rfl, n, k, rfl, rfl, q _ ?_⟩
    have c' := of_decide_eq_true c
    exact ⟨fun z => ⟨c', of_decide_eq_true z⟩, fun z => decide_eq_true z.2⟩
  · exact q _ ⟨fun z => (nomatch z), fun z => (c (decide_eq_true z.1)).elim⟩
end
end K86

namespace K86
open PySem PySem.Spec PyProof.Rows L2
section
variable {P : Program} {w : World} {K : PySem.W.Frag} {mg : Str → Option Value} {base : Heap}
theorem le2 : 2 ≤ sizeLine := small8 (by decide)
/-! ### has_shape -/
def spShape : Sp := fun vs H Q _ => ∃ (a : Addr) (R : Tab) (k : Nat), vs = [.ref a] ∧ RowsAt H a R ∧ OkTab k R ∧ 1 ≤ k ∧ k ≤ 8 ∧ ∀ H', Same H H' → Q (.bl true) H'
theorem ok_Shape (T : Txt K mg) : FnOk P w K mg base CX0 1 T.Shape.f T.Shape.fd ["rows"] spShape := by
  refine T.Shape.F.ok scShape (fun vs H Q E h => ?_) (fun cdv A outer s H vs Q E hr h => ?_)
  · obtain ⟨a, R, k, rfl, _⟩ := h
    rfl
  obtain ⟨a, R, k, rfl, ⟨as, ha, hl, hrow⟩, hk, h1, h8, q⟩ := h
  have hlen : (as.map V.ref).length = k := by rw [List.length_map, hl, hk.len]
  refine ⟨_, pss_cons (ps_if (PW.pt (pw_or (pt_not (pt_val (pe_callB call_isiT rfl T.z_isinstance b_isinstance (pa_cons (pv 0) (pa_cons
        (pe_tup (pa_cons (pe_bltn (v := .ty "list") rfl T.z_list b_list rfl) (pa_cons (pe_bltn (v := .ty "tuple") rfl T.z_tuple b_tuple rfl) pa_nil))) pa_nil)))))
      (pw_or1 (pt_not (pt_chain op_le op_le pe_int (pe_callB call_len_seq rfl T.z_len b_len (pa_cons (pv 0) pa_nil)) (pe_glob (v := .int 8) rfl T.gMax ⟨_, rfl⟩)))))) (pss_one (ps_ret pe_bl)) pss_nil)
    (pss_one (ps_ret (pe_callB (cr_all rfl) rfl T.z_all b_all (pa_cons (pe_lc (own := [("row", 1)]) (g := gName 1) (tt := tYes) rfl scShape.nd (pi_list (pv 0))
      (blkOk_by (N := nShape) (sc := defScope sShape) (by decide +kernel)) (fun _ _ _ _ _ => pg_name (i := 1) scShape.nd rfl (Or.inl rfl)) (fun _ _ _ _ _ => pts_nil)
      (fun _ _ _ _ _ => pe_and (pe_callB (cIsiT K rfl) rfl T.z_isinstance b_isinstance (pa_cons (pv 1) (pa_cons
          (pe_tup (pa_cons (pe_bltn (v := .ty "list") rfl T.z_list b_list rfl) (pa_cons (pe_bltn (v := .ty "tuple") rfl T.z_tuple b_tuple rfl) pa_nil))) pa_nil)))
        (pe_one (pe_cmpR op_eq (pe_callB (cLen K rfl) rfl T.z_len b_len (pa_cons (pv 1) pa_nil)) (pe_callB (cLen K rfl) rfl T.z_len b_len (pa_cons (pv 0) pa_nil)) (nomark _))))) pa_nil)))), ?_⟩
  refine ⟨_, rfl, le2, fun tp htp => ⟨.ref a, tp, _, .type "list", _, true, rfl, upd_same, .cons (.ty _) (.cons (.ty _) .nil), .base (.lst ((same_up htp) _ _ ha)), k_list_lt, true, rfl, iteF ?_⟩⟩
  have s1 := same_up (o := HO.tup [V.ty "list", V.ty "tuple"]) htp
  refine ⟨_, rfl, a, _, rfl, .inl (SqL.of (s1 _ _ ha)), 1, _, rfl, rfl, _, rfl, ite2 (fun c => ?_) (fun c => (c (decide_eq_true (by rw [hlen]; omega))).elim)⟩
  refine ⟨_, _, rfl, rfl, _, rfl, ?_⟩
  rw [decide_eq_true (show ((as.map V.ref).length : Int) ≤ 8 by rw [hlen]; omega)]
  refine iteF ?_
  -- return all([..])
  refine ⟨.ref a, rfl, a, rfl, ⟨_, SqL.of (s1 _ _ ha)⟩, fun D hD => lc_map (n := k) hD (Nat.lt_of_le_of_lt h8 (small1000 (by decide))) (fun i x _ => ∃ r row, as[i]? = some r ∧ R[i]? = some row ∧ x = .ref r) (fun _ v _ => v = .bl true)
    (fun _ _ _ _ _ p => p) (fun i H' hi s => itl_go (SqL.of (s _ _ (s1 _ _ ha))) (by rw [hlen]; exact hi)) (fun i H' x H2 hi s y => ?_) (fun H' s => by have z := itl_st (K := K) (SqL.of (s _ _ (s1 _ _ ha))); rw [hlen] at z; exact z) ?_ ?_⟩
  · obtain ⟨rfl, e⟩ := itl_yl (SqL.of (s _ _ (s1 _ _ ha))) y
    obtain ⟨r, er, rfl⟩ := of_getR e
    have hR : i < R.length := by rw [hk.len]; exact hi
    exact ⟨Same.refl _, r, R[i], er, List.getElem?_eq_getElem hR, rfl⟩
  · rintro i x H2 hi ⟨r, row, e1, e2, rfl⟩ s2 nD Qe hQ
    have hrw : Ints H2 r row := s2 _ _ (s1 _ _ (hrow i r row e1 e2))
    refine ⟨rfl, _, rfl, le2, fun tp2 htp2 => ⟨.ref r, tp2, _, .type "list", _, true, rfl, upd_same, .cons (.ty _) (.cons (.ty _) .nil), .base (.lst ((same_up htp2) _ _ hrw)), k_list_lt, true, rfl, iteT ?_⟩⟩
    have s3 := same_up (o := HO.tup [V.ty "list", V.ty "tuple"]) htp2
    refine ⟨_, rfl, r, _, rfl, .inl (SqL.of (s3 _ _ hrw)), .ref a, rfl, a, _, rfl, .inl (SqL.of (s3 _ _ (s2 _ _ (s1 _ _ ha)))), rfl, ?_⟩
    refine hQ _ _ s3 ?_
    rw [hlen, List.length_map, hk.rows i row e2, decide_eq_true rfl]
  · intro ys H2 s2 eD hn hy
    have ey : ys = (List.replicate k true).map V.bl := by
      refine List.ext_getElem? fun i => ?_
      by_cases hi : i < k
      · obtain ⟨y, ey⟩ : ∃ y, ys[i]? = some y := ⟨ys[i], List.getElem?_eq_getElem (by omega)⟩
        rw [ey, hy i y ey, List.getElem?_map, List.getElem?_replicate, if_pos hi]
        rfl
      · rw [List.getElem?_eq_none (by omega), List.getElem?_eq_none (by rw [List.length_map, List.length_replicate]; omega)]
    refine ⟨D, List.replicate k true, rfl, SqL.of (by rw [eD, ey]), ?_⟩
    have e3 : (List.replicate k true).all id = true := by simp
    rw [e3]
    exact q _ (s1.trans s2)
end
end K86

namespace K86
open PySem PySem.Spec PyProof.Rows L2
section
variable {P : Program} {w : World} {K : PySem.W.Frag} {mg : Str → Option Value} {base : Heap}
/-! ### places, first_wrong_place -/
/-- a pair of colours at an address that is not D -/
def PairOn (D : Addr) (k : Nat) (H : Hp) (v : V) : Prop := ∃ p a b, v = .ref p ∧ p ≠ D ∧ H p = some (.tup [.int a, .int b]) ∧ Col k a ∧ Col k b
theorem PairOn.but {D : Addr} {k : Nat} {H H' : Hp} {v : V} (s : SameBut D H H') (h : PairOn D k H v) : PairOn D k H' v := by
  obtain ⟨p, a, b, e1, e2, e3, e4⟩ := h
  exact ⟨p, a, b, e1, e2, s _ _ e3 e2, e4⟩
def spPlaces : Sp := fun vs H Q _ => ∃ k : Nat, vs = [.int k] ∧ k ≤ 8 ∧ ∀ (D : Addr) (ys : List V) (H' : Hp), Same H H' → H' D = some (.lst ys) → (∀ y ∈ ys, PairOn D k H' y) → Q (.ref D) H'
theorem ok_Places (T : Txt K mg) : FnOk P w K mg base CX0 1 T.Places.f T.Places.fd ["size"] spPlaces := by
  refine T.Places.F.ok scPlaces (fun vs H Q E h => ?_) (fun cdv A outer s H vs Q E hr h => ?_)
  · obtain ⟨k, rfl, _⟩ := h
    rfl
  obtain ⟨k, rfl, h8, q⟩ := h
  refine ⟨_, pss_one (ps_ret (pe_lcT (own := [("a", 1), ("b", 2)]) (g := gName 1) (tt := tYes) (vsR := [2]) rfl scPlaces.nd (pi_range1 rfl T.z_range (pa_cons (pv 0) pa_nil))
    (blkOk_by (N := nPlaces) (sc := defScope sPlaces) (by decide +kernel)) (by decide) (fun _ _ _ _ _ => pg_name (i := 1) scPlaces.nd rfl (Or.inl rfl)) (fun _ _ _ _ _ => pts_nil)
    (fun _ _ _ _ _ D => pin_cl (vs := [2]) (vsR := []) (fun _ _ z => z) rfl (by decide) (pi_range1 rfl T.z_range (pa_cons (pv 0) pa_nil)) (pg_name (i := 2) scPlaces.nd rfl (Or.inl rfl)) pts_nil
      (pin_em (fun _ _ z => z) (pe_tup (pa_cons (pv 1) (pa_cons (pv 2) pa_nil))))))), ?_⟩
  have hb : ∀ z : Nat, z ≤ 8 → -(2 ^ 62) ≤ (z : Int) ∧ (z : Int) < 2 ^ 62 := fun z hz => ⟨by omega, by omega⟩
  refine ⟨_, rfl, k, rfl, (hb k h8).1, (hb k h8).2, fun D hD => ?_⟩
  rw [Int.toNat_natCast]
  have next : ∀ {ys : List V} {m : Nat} {H0 : Hp} {p : Addr} {x y : Int}, H0 D = some (.lst ys) → Same H H0 → ys.length ≤ m → (∀ v ∈ ys, PairOn D k H0 v) → Col k x → Col k y → H0 p = none →
      Same H (upd (upd H0 p (.tup [.int x, .int y])) D (.lst (ys ++ [.ref p]))) ∧ (∀ v ∈ ys ++ [V.ref p], PairOn D k (upd (upd H0 p (.tup [.int x, .int y])) D (.lst (ys ++ [.ref p]))) v) := by
    intro ys m H0 p x y e s hm hys cx cy np
    have pD : p ≠ D := fun z => by rw [z, e] at np; cases np
    have s2 := same_up (o := HO.tup [V.int x, V.int y]) np
    refine ⟨fun b o eb => by rw [upd_ne (ne_of_none eb hD)]; exact s2 _ _ (s _ _ eb), fun v hv => ?_⟩
    rcases List.mem_append.mp hv with hv | hv
    · exact (hys v hv).but (fun b o eb nb => by rw [upd_ne nb]; exact s2 _ _ eb)
    · rw [List.mem_singleton.mp hv]
      exact ⟨p, x, y, rfl, pD, by rw [upd_ne pD, upd_same], cx, cy⟩
  refine cl_it (n := k) (fun i H' => Same H H' ∧ ∃ ys, H' D = some (.lst ys) ∧ ys.length ≤ i * 8 ∧ ∀ y ∈ ys, PairOn D k H' y) ⟨same_up hD, [], upd_same, by decide, fun y hy => by cases hy⟩ (fun i H' hi _ => hi) (fun H' _ => Nat.le_refl _) ?_ ?_
  · rintro i x H1 H2 hi ⟨s1, ys, e1, l1, p1⟩ ⟨rfl, rfl⟩
    refine ⟨rfl, _, rfl, k, rfl, (hb k h8).1, (hb k h8).2, ?_⟩
    rw [Int.toNat_natCast]
    refine cl_it (n := k) (fun j H' => Same H H' ∧ ∃ ys, H' D = some (.lst ys) ∧ ys.length ≤ i * 8 + j ∧ ∀ y ∈ ys, PairOn D k H' y) ⟨s1, ys, e1, l1, p1⟩ (fun j H' hj _ => hj) (fun H' _ => Nat.le_refl _) ?_ ?_
    · rintro j y H3 H4 hj ⟨s3, zs, e3, l3, p3⟩ ⟨rfl, rfl⟩
      refine ⟨rfl, _, rfl, _, rfl, le2, fun p hp => ?_⟩
      have pD : D ≠ p := fun z => by rw [← z, e3] at hp; cases hp
      obtain ⟨n1, n2⟩ := next e3 s3 l3 p3 (x := 0 + (i : Int)) (y := 0 + (j : Int)) ⟨by omega, by omega⟩ ⟨by omega, by omega⟩ hp
      exact ⟨zs, by rw [upd_ne pD]; exact e3, small1000 (by omega), n1, _, upd_same, by rw [List.length_append]; show zs.length + 1 ≤ _; omega, n2⟩
    · rintro H3 ⟨s3, zs, e3, l3, p3⟩
      exact ⟨s3, zs, e3, by omega, p3⟩
  · rintro H1 ⟨s1, ys, e1, _, p1⟩
    exact q D ys H1 s1 e1 p1
/-! first_wrong_place -/
def spWrong : Sp := fun vs H Q _ => ∃ (a : Addr) (R : Tab) (k : Nat), vs = [.ref a] ∧ RowsAt H a R ∧ OkTab k R ∧ k ≤ 8 ∧ ∀ H', Same H H' → Q .non H'
theorem ok_Wrong (T : Txt K mg) : FnOk P w K mg base CX0 3 T.Wrong.f T.Wrong.fd ["rows"] spWrong := by
  have GP : FnOk P w K mg base CX0 1 T.Places.f T.Places.fd ["size"] spPlaces := ok_Places T
  have GC : FnOk P w K mg base CX0 2 T.IsCol.f T.IsCol.fd ["size", "value"] spIsCol := ok_IsCol T
  refine T.Wrong.F.ok scWrong (fun vs H Q E h => ?_) (fun cdv A outer s H vs Q E hr h => ?_)
  · obtain ⟨a, R, k, rfl, _⟩ := h
    rfl
  obtain ⟨a, R, k, rfl, hR, hk, h8, q⟩ := h
  refine ⟨_, pss_cons (ps_for PassesOwn.never rfl (pi_list (pe_call GP (hr.mono (by decide)) rfl T.Places.g T.Places.F.kp T.Places.b .nil pass0 (pa_cons (pe_callB call_len_seq rfl T.z_len b_len (pa_cons (pv 0) pa_nil)) pa_nil)))
      (pg_tup rfl (pgs_cons (pg_name (i := 1) scWrong.nd rfl (.inl rfl)) (pgs_cons (pg_name (i := 2) scWrong.nd rfl (.inl rfl)) pgs_nil)))
      (pss_one (ps_if (PW.pt (pw_or (pt_not (pt_val (pe_call GC hr rfl T.IsCol.g T.IsCol.F.kp T.IsCol.b .nil pass0 (pa_cons (pe_callB call_len_seq rfl T.z_len b_len (pa_cons (pv 0) pa_nil))
            (pa_cons (pe_ix ix_list (pe_ix ix_list (pv 0) (pv 1) (fun _ _ => rfl)) (pv 2) (fun _ _ => rfl)) pa_nil)))))
          (pw_or1 (PW.pt (pw_and (pt_cmpR op_lt (pv 2) (pv 1) (nomark _)) (pw_and1 (pt_cmpR op_ne (pe_ix ix_list (pe_ix ix_list (pv 0) (pv 2) (fun _ _ => rfl)) (pv 1) (fun _ _ => rfl))
            (pe_ix ix_list (pe_ix ix_list (pv 0) (pv 1) (fun _ _ => rfl)) (pv 2) (fun _ _ => rfl)) (nomark _))))))))
        (pss_one (ps_ret (pe_tup (pa_cons (pv 1) (pa_cons (pv 2) pa_nil))))) pss_nil)))
    (pss_one (ps_ret pe_non)), ?_⟩
  obtain ⟨as, ha, hl, hrow⟩ := id hR
  have hlen : ((as.map V.ref).length : Int) = k := by rw [List.length_map, hl, hk.len]
  refine ⟨_, rfl, a, _, rfl, .inl (SqL.of ha), k, by rw [hlen]; rfl, h8, fun D ys H' s1 eD hys => ?_⟩
  have ha' := s1 _ _ ha
  refine ⟨D, rfl, ⟨_, SqL.of eD⟩, for_list (K := K) (a := D) (xs := ys) (fun i σ H2 => ∃ v1 v2, σ = [some (V.ref a), v1, v2] ∧ H2 = H') ⟨none, none, rfl, rfl⟩
    (fun i σ H2 _ ⟨_, _, _, e⟩ => by rw [e]; exact SqL.of eD) ?_ ?_⟩
  · rintro i x σ H2 hx ⟨v1, v2, rfl, rfl⟩
    obtain ⟨p, x1, x2, rfl, _, hp, c1, c2⟩ := hys x (List.mem_of_getElem? hx)
    refine ⟨p, _, rfl, SqT.of hp, rfl, _, _, rfl, _, _, rfl, rfl, ?_⟩
    have rowAt : ∀ {u v : Int}, Col k u → Col k v → ∃ r row, atI (as.map V.ref) u = some (.ref r) ∧ Ints H2 r row ∧ atI (row.map V.int) v = some (.int (tb R u v)) := fun cu cv => by
      obtain ⟨r, row, e1, e2, _, e3⟩ := RowsAt.row (H := H2) hk cu hl (fun j r row g1 g2 => s1 _ _ (hrow j r row g1 g2))
      exact ⟨r, row, e1, e2, e3 _ cv⟩
    obtain ⟨r12, w12, a1, a2, a3⟩ := rowAt c1 c2
    obtain ⟨r21, w21, b1, b2, b3⟩ := rowAt c2 c1
    refine ⟨_, rfl, a, _, rfl, .inl (SqL.of ha'), .ref a, rfl, .int x1, rfl, a, _, _, _, rfl, rfl, SqL.of ha', a1, .int x2, rfl, r12, _, _, _, rfl, rfl, SqL.of a2, a3,
      k, tb R x1 x2, by rw [hlen]; rfl, fun b hb => ?_⟩
    obtain rfl : b = true := hb.mpr (hk.ent _ _ c1 c2)
    refine ⟨true, rfl, iteF ⟨_, rfl, _, rfl, _, _, rfl, rfl, _, rfl, ite2 (fun c => ?_) (fun c => ?_)⟩⟩
    · refine ⟨_, rfl, _, rfl, a, _, _, _, rfl, rfl, SqL.of ha', b1, _, rfl, r21, _, _, _, rfl, rfl, SqL.of b2, b3, _, rfl, _, rfl, a, _, _, _, rfl, rfl, SqL.of ha', a1, _, rfl, r12, _, _, _, rfl, rfl, SqL.of a2, a3, rfl, _, rfl, ?_⟩
      rw [hk.sym _ _ c2 c1, decide_eq_true rfl]
      exact iteF ⟨_, _, rfl, rfl⟩
    · exact iteF ⟨_, _, rfl, rfl⟩
  · rintro σ H2 ⟨v1, v2, rfl, rfl⟩
    exact q _ s1
end
end K86

namespace K86
open PySem PySem.Spec PyProof.Rows L2
/-! ### a part of the heap -/
open Classical in
noncomputable def rst (A : Addr → Prop) (H : Hp) : Hp := fun b => if A b then H b else none
theorem rst_at {A : Addr → Prop} {H : Hp} {p : Addr} (h : A p) : rst A H p = H p := by
  unfold rst
  rw [if_pos h]
theorem rst_mk {A : Addr → Prop} {H : Hp} {p : Addr} {o : HO} (h : A p) (e : H p = some o) : rst A H p = some o := by rw [rst_at h]; exact e
theorem of_rst {A : Addr → Prop} {H : Hp} {p : Addr} {o : HO} (h : rst A H p = some o) : A p ∧ H p = some o := by
  unfold rst at h
  by_cases q : A p
  · rw [if_pos q] at h; exact ⟨q, h⟩
  · rw [if_neg q] at h; cases h
theorem rst_le {A : Addr → Prop} {H : Hp} : Same (rst A H) H := fun b o e => (of_rst e).2
theorem rst_up {A A' : Addr → Prop} {H H' : Hp} (s : ∀ b o, A b → H b = some o → A' b ∧ H' b = some o) : Same (rst A H) (rst A' H') := fun b o e => by
  obtain ⟨h1, h2⟩ := of_rst e
  obtain ⟨h3, h4⟩ := s b o h1 h2
  exact rst_mk h3 h4
theorem rst_to {A : Addr → Prop} {H H' : Hp} (s : ∀ b o, H b = some o → A b ∧ H' b = some o) : Same H (rst A H') := fun b o e => by
  obtain ⟨h3, h4⟩ := s b o e
  exact rst_mk h3 h4
abbrev New (H : Hp) : Addr → Prop := fun b => H b = none
abbrev Not (p : Addr) : Addr → Prop := fun b => b ≠ p
theorem new_not {H H' : Hp} {p : Addr} (hp : H p ≠ none) : Same (rst (New H) H') (rst (Not p) H') := rst_up fun b o h e => ⟨fun z => hp (by rw [← z]; exact h), e⟩
theorem not_but {H H' : Hp} {p : Addr} (s : SameBut p H H') : Same (rst (Not p) H) (rst (Not p) H') := rst_up fun b o h e => ⟨h, s b o e h⟩
theorem same_not {H H' : Hp} {p : Addr} (hp : H p = none) (s : Same H H') : Same H (rst (Not p) H') := rst_to fun b o e => ⟨ne_of_none e hp, s b o e⟩
/-- a new instance made: what was new there is new here -/
theorem new_made {H H' : Hp} {x dx C : Addr} (nx : H x = none) (nd : H dx = none) : Same (rst (fun b => New (upd (upd H dx (.own x)) x (.ins C dx [])) b ∨ b = x) H') (rst (New H) H') := rst_up fun b o h e => ⟨by
  rcases h with h | h
  · by_cases h1 : b = x
    · rw [h1]; exact nx
    · rw [show New (upd (upd H dx (.own x)) x (.ins C dx [])) b = (upd (upd H dx (.own x)) x (.ins C dx []) b = none) from rfl, upd_ne h1] at h
      by_cases h2 : b = dx
      · rw [h2]; exact nd
      · rw [upd_ne h2] at h; exact h
  · rw [h]; exact nx, e⟩
theorem same_made {H H' : Hp} {x dx C : Addr} (nx : H x = none) (nd : H dx = none) (s : SameBut x (upd (upd H dx (.own x)) x (.ins C dx [])) H') : Same H H' := fun b o e =>
  s b o (by rw [upd_ne (ne_of_none e nx), upd_ne (ne_of_none e nd)]; exact e) (ne_of_none e nx)
/-- a list of values, each with a partner -/
theorem choose_list {α : Type} (R : List α) (Pr : Addr → α → Prop) : ∀ (ys : List V) (hl : ys.length = R.length) (h : ∀ (i : Nat) y, ys[i]? = some y → ∃ p r, y = .ref p ∧ R[i]? = some r ∧ Pr p r),
    ∃ as : List Addr, ys = as.map V.ref ∧ as.length = R.length ∧ ∀ (i : Nat) p r, as[i]? = some p → R[i]? = some r → Pr p r := by
  intro ys hl h
  obtain ⟨as, rfl⟩ := all_refs fun i y e => (h i y e).elim fun p z => ⟨p, z.elim fun _ z => z.1⟩
  rw [List.length_map] at hl
  refine ⟨as, rfl, hl, fun i p r e1 e2 => ?_⟩
  obtain ⟨p', r', e3, e4, e5⟩ := h i (.ref p) (getR e1)
  cases e3
  rw [e2] at e4
  cases e4
  exact e5
end K86

namespace K86
open PySem PySem.Spec PyProof.Rows L2
section
variable {P : Program} {w : World} {K : PySem.W.Frag} {mg : Str → Option Value} {base : Heap}
/-! ### Table: __init__, size, validate_colour, __getitem__ -/
def spTInit (C : Addr) : Sp := fun vs H Q _ => ∃ (t a dx : Addr) (R : Tab) (k : Nat), vs = [.ref t, .ref a] ∧ H t = some (.ins C dx []) ∧ RowsAt H a R ∧ OkTab k R ∧ 1 ≤ k ∧ k ≤ 8 ∧
  ∀ H', SameBut t H H' → TabAt C (rst (fun b => H b = none ∨ b = t) H') t R → Q .non H'
theorem ok_TInit (T : Txt K mg) : FnOk P w K mg base CX0 4 T.TInit.f T.TInit.fd ["self", "rows"] (spTInit T.C) := by
  have GS : FnOk P w K mg base CX0 1 T.Shape.f T.Shape.fd ["rows"] spShape := ok_Shape T
  have GW : FnOk P w K mg base CX0 3 T.Wrong.f T.Wrong.fd ["rows"] spWrong := ok_Wrong T
  refine T.TInit.F.ok scTInit (fun vs H Q E h => ?_) (fun cdv A outer s H vs Q E hr h => ?_)
  · obtain ⟨t, a, dx, R, k, rfl, _⟩ := h
    rfl
  obtain ⟨t, a, dx, R, k, rfl, ht, hR, hk, h1, h8, q⟩ := h
  refine ⟨_, pss_cons (ps_if (pt_not (pt_val (pe_call GS (hr.mono (by decide)) rfl T.Shape.g T.Shape.F.kp T.Shape.b .nil pass0 (pa_cons (pv 1) pa_nil)))) (pss_one ps_never) pss_nil)
    (pss_cons (ps_set (i := 2) scTInit.nd rfl (.inl rfl) (pe_call GW hr rfl T.Wrong.g T.Wrong.F.kp T.Wrong.b .nil pass0 (pa_cons (pv 1) pa_nil)))
    (pss_cons (ps_if (pt_cmpR op_notN (pv 2) pe_non (nomark _)) (pss_one ps_never) pss_nil)
    (pss_one (ps_fld (pv 0) (pe_lc (own := [("row", 3)]) (g := gName 3) (tt := tYes) rfl scTInit.nd (pi_list (pv 1)) (blkOk_by (N := nTInit) (sc := defScope sTInit) (by decide +kernel))
      (fun _ _ _ _ _ => pg_name (i := 3) scTInit.nd rfl (Or.inl rfl)) (fun _ _ _ _ _ => pts_nil) (fun _ _ _ _ _ => pe_callTy (cList K rfl) rfl T.z_list b_list (pa_cons (pv 3) pa_nil))) rfl)))), ?_⟩
  refine ⟨.ref a, rfl, a, R, k, rfl, hR, hk, h1, h8, fun H1 s1 => ⟨true, rfl, iteF ?_⟩⟩
  refine ⟨.ref a, rfl, a, R, k, rfl, hR.mono s1, hk, h8, fun H2 s2 => ?_⟩
  refine ⟨_, rfl, rfl, _, rfl, iteF ?_⟩
  have s12 := s1.trans s2
  obtain ⟨as, ha, hl, hrow⟩ := hR.mono s12
  have hlen : (as.map V.ref).length = k := by rw [List.length_map, hl, hk.len]
  refine ⟨.ref a, rfl, a, rfl, ⟨_, SqL.of ha⟩, fun D hD => lc_map (n := k) hD (Nat.lt_of_le_of_lt h8 (small1000 (by decide))) (fun i x _ => ∃ r row, as[i]? = some r ∧ R[i]? = some row ∧ x = .ref r)
    (fun i v H' => ∃ p row, v = .ref p ∧ R[i]? = some row ∧ p ≠ D ∧ H2 p = none ∧ Ints H' p row)
    (fun i v H3 H4 sb ⟨p, row, e1, e2, e3, e4, e5⟩ => ⟨p, row, e1, e2, e3, e4, sb _ _ e5 e3⟩) (fun i H' hi s => itl_go (SqL.of (s _ _ ha)) (by rw [hlen]; exact hi)) (fun i H' x H3 hi s y => ?_)
    (fun H' s => by have z := itl_st (K := K) (SqL.of (s _ _ ha)); rw [hlen] at z; exact z) ?_ ?_⟩
  · obtain ⟨rfl, e⟩ := itl_yl (SqL.of (s _ _ ha)) y
    obtain ⟨r, er, rfl⟩ := of_getR e
    have hR : i < R.length := by rw [hk.len]; exact hi
    exact ⟨Same.refl _, r, R[i], er, List.getElem?_eq_getElem hR, rfl⟩
  · rintro i x H3 hi ⟨r, row, e1, e2, rfl⟩ s3 nD Qe hQ
    have hrw : Ints H3 r row := s3 _ _ (hrow i r row e1 e2)
    refine ⟨rfl, _, rfl, r, _, rfl, .inl (SqL.of hrw), fun l hl => hQ _ _ (same_up hl) ?_⟩
    exact ⟨l, row, rfl, e2, fun z => nD (by rw [← z]; exact hl), s3.free hl, upd_same⟩
  · intro ys H3 s3 eD hn hy
    obtain ⟨ps, rfl, hp, hpr⟩ := choose_list R (fun p row => p ≠ D ∧ H2 p = none ∧ Ints H3 p row) ys (by rw [hn, hk.len]) fun i y e => by
      obtain ⟨p, row, e1, e2, e3⟩ := hy i y e
      exact ⟨p, row, e1, e2, e3⟩
    have ht3 := s3 _ _ (s12 _ _ ht)
    refine ⟨_, rfl, t, T.C, dx, [], rfl, ht3, T.clC, T.nRows, by decide, ?_⟩
    have tD : t ≠ D := ne_of_none (s12 _ _ ht) hD
    have nD : H D = none := s12.free hD
    refine q _ (fun b o e ne => by rw [upd_ne ne]; exact s3 _ _ (s12 _ _ e)) ⟨dx, D, rst_mk (.inr rfl) upd_same, ps, rst_mk (.inl nD) (by rw [upd_ne tD.symm]; exact eD), hp, fun i r row e1 e2 => ?_⟩
    obtain ⟨f1, f2, f3⟩ := hpr i r row e1 e2
    exact rst_mk (.inl (s12.free f2)) (by rw [upd_ne (ne_of_none (s12 _ _ ht) f2).symm]; exact f3)
def spTSize (C : Addr) : Sp := fun vs H Q _ => ∃ (t : Addr) (R : Tab) (k : Nat), vs = [.ref t] ∧ TabAt C H t R ∧ OkTab k R ∧ Q (.int k) H
theorem ok_TSize (T : Txt K mg) : FnOk P w K mg base CX0 1 T.TSize.f T.TSize.fd ["self"] (spTSize T.C) := by
  refine T.TSize.F.ok scTSize (fun vs H Q E h => ?_) (fun cdv A outer s H vs Q E hr h => ?_)
  · obtain ⟨t, R, k, rfl, _⟩ := h
    rfl
  obtain ⟨t, R, k, rfl, ⟨dx, l, ht, as, ha, hl, hrow⟩, hk, q⟩ := h
  refine ⟨_, pss_one (ps_ret (pe_callB call_len_seq rfl T.z_len b_len (pa_cons (pe_fld (pv 0) rfl) pa_nil))), ?_⟩
  refine ⟨_, rfl, t, T.C, dx, _, _, rfl, ht, T.clC, T.nRows, tfs_rows _, l, _, rfl, .inl (SqL.of ha), ?_⟩
  rw [List.length_map, hl, hk.len]
  exact q
def spTVal (C : Addr) : Sp := fun vs H Q _ => ∃ (t : Addr) (R : Tab) (k : Nat) (n : Int), vs = [.ref t, .int n] ∧ TabAt C H t R ∧ OkTab k R ∧ Col k n ∧ Q .non H
theorem ok_TVal (T : Txt K mg) : FnOk P w K mg base CX0 3 T.TVal.f T.TVal.fd ["self", "value"] (spTVal T.C) := by
  have GC : FnOk P w K mg base CX0 2 T.IsCol.f T.IsCol.fd ["size", "value"] spIsCol := ok_IsCol T
  have GZ : FnOk P w K mg base CX0 1 T.TSize.f T.TSize.fd ["self"] (spTSize T.C) := ok_TSize T
  refine T.TVal.F.ok scTVal (fun vs H Q E h => ?_) (fun cdv A outer s H vs Q E hr h => ?_)
  · obtain ⟨t, R, k, n, rfl, _⟩ := h
    rfl
  obtain ⟨t, R, k, n, rfl, hT, hk, hn, q⟩ := h
  refine ⟨_, pss_one (ps_if (pt_not (pt_val (pe_call GC hr rfl T.IsCol.g T.IsCol.F.kp T.IsCol.b .nil pass0 (pa_cons (pe_prop (pv 0) T.clC T.prSize GZ (hr.mono (by decide)) T.TSize.b .nil pass0 rfl) (pa_cons (pv 1) pa_nil))))) (pss_one ps_never) pss_nil), ?_⟩
  obtain ⟨dx, l, ht, hRow⟩ := id hT
  refine ⟨_, rfl, t, dx, _, rfl, ht, t, R, k, rfl, hT, hk, _, rfl, k, n, rfl, fun b hb => ?_⟩
  obtain rfl : b = true := hb.mpr hn
  exact ⟨true, rfl, iteF q⟩
def spTGet (C : Addr) : Sp := fun vs H Q _ => ∃ (t p : Addr) (R : Tab) (k : Nat) (x y : Int), vs = [.ref t, .ref p] ∧ TabAt C H t R ∧ OkTab k R ∧ H p = some (.tup [.int x, .int y]) ∧ Col k x ∧ Col k y ∧
  ∀ H', Same H H' → Q (.int (tb R x y)) H'
theorem ok_TGet (T : Txt K mg) : FnOk P w K mg base CX0 4 T.TGet.f T.TGet.fd ["self", "pair"] (spTGet T.C) := by
  have GV : FnOk P w K mg base CX0 3 T.TVal.f T.TVal.fd ["self", "value"] (spTVal T.C) := ok_TVal T
  refine T.TGet.F.ok scTGet (fun vs H Q E h => ?_) (fun cdv A outer s H vs Q E hr h => ?_)
  · obtain ⟨t, p, R, k, x, y, rfl, _⟩ := h
    rfl
  obtain ⟨t, p, R, k, x, y, rfl, hT, hk, hp, cx, cy, q⟩ := h
  refine ⟨_, pss_cons (ps_if (PW.pt (pw_or (pt_not (pt_val (pe_callB call_isi rfl T.z_isinstance b_isinstance (pa_cons (pv 1) (pa_cons (pe_bltn (v := .ty "tuple") rfl T.z_tuple b_tuple rfl) pa_nil)))))
      (pw_or1 (pt_cmpR op_ne (pe_callB call_len_seq rfl T.z_len b_len (pa_cons (pv 1) pa_nil)) pe_int (nomark _))))) (pss_one ps_never) pss_nil)
    (pss_cons (ps_for PassesOwn.never rfl (pi_tup (pv 1)) (pg_name (i := 2) scTGet.nd rfl (.inl rfl)) (pss_one (ps_expr (pe_meth (pv 0) T.clC T.mVal GV hr T.TVal.b .nil pass0 (pa_cons (pv 2) pa_nil)))))
    (pss_one (ps_ret (pe_ix ix_list (pe_ix ix_list (pe_fld (pv 0) rfl) (pe_ix ix_tup (pv 1) pe_int (fun _ _ => rfl)) (fun _ _ => rfl)) (pe_ix ix_tup (pv 1) pe_int (fun _ _ => rfl)) (fun _ _ => rfl))))), ?_⟩
  refine ⟨_, rfl, .ref p, .ty "tuple", .type "tuple", .type "tuple", true, rfl, .ty _, .base (.tup hp), k_tup_tup, true, rfl, iteF ⟨_, rfl, p, _, rfl, .inr (SqT.of hp), rfl, _, rfl, iteF ?_⟩⟩
  obtain ⟨dx, l, ht, as, ha, hl, hrow⟩ := id hT
  refine ⟨_, rfl, p, rfl, ⟨_, SqT.of hp⟩, for_tup (K := K) (a := p) (xs := [.int x, .int y]) (fun i σ H2 => ∃ v, σ = [some (V.ref t), some (V.ref p), v] ∧ H2 = H) ⟨none, rfl, rfl⟩ (fun i σ H2 _ ⟨_, _, e⟩ => by rw [e]; exact SqT.of hp) ?_ ?_⟩
  · rintro i z σ H2 hz ⟨v, rfl, rfl⟩
    have hz' : ∃ n, z = .int n ∧ Col k n := by
      match i, hz with
      | 0, hz => cases hz; exact ⟨x, rfl, cx⟩
      | 1, hz => cases hz; exact ⟨y, rfl, cy⟩
      | i + 2, hz => simp at hz
    obtain ⟨n, rfl, cn⟩ := hz'
    exact ⟨_, rfl, t, dx, _, rfl, ht, tfs_no _ (by decide +kernel), _, rfl, t, R, k, n, rfl, hT, hk, cn, _, rfl, rfl⟩
  · rintro σ H2 ⟨v, rfl, rfl⟩
    obtain ⟨r, row, e1, e2, _, e3⟩ := RowsAt.row hk cx hl hrow
    refine ⟨_, rfl, t, T.C, dx, _, _, rfl, ht, T.clC, T.nRows, tfs_rows _, _, rfl, p, _, _, _, rfl, rfl, SqT.of hp, atI_nat (j := 0) rfl, l, _, _, _, rfl, rfl, SqL.of ha, e1,
      _, rfl, p, _, _, _, rfl, rfl, SqT.of hp, atI_nat (j := 1) rfl, r, _, _, _, rfl, rfl, SqL.of e2, e3 _ cy, q _ (Same.refl _)⟩
end
end K86

namespace K86
open PySem PySem.Spec PyProof.Rows L2
/-! ### table[x, y], its end -/
theorem tab_end {C t : Addr} {R : Tab} {k : Nat} {x y : Int} {H : Hp} {Q : VK} (hT : TabAt C H t R) (hk : OkTab k R) (cx : Col k x) (cy : Col k y) (q : ∀ H', Same H H' → Q (.int (tb R x y)) H') :
    [V.int x, V.int y].length ≤ sizeLine ∧ ∀ p, H p = none → ∃ a dx fs, V.ref t = .ref a ∧ (upd H p (.tup [.int x, .int y])) a = some (.ins C dx fs) ∧ spTGet C [.ref a, .ref p] (upd H p (.tup [.int x, .int y])) Q E0 := by
  refine ⟨le2, fun p hp => ?_⟩
  have s := same_up (o := HO.tup [V.int x, V.int y]) hp
  obtain ⟨dx, l, ht, _⟩ := id (hT.mono s)
  exact ⟨t, dx, _, rfl, ht, t, p, R, k, x, y, rfl, hT.mono s, hk, upd_same, cx, cy, fun H' s' => q H' (s.trans s')⟩
/-! ### a step of a reason, told by the heap: d bounds its depth, x and y are its ends -/
def StepAt (k : Nat) : Nat → Hp → V → Int → Int → Prop
  | 0, _, _, _, _ => False
  | d + 1, H, v, x, y => ∃ p q, v = .ref p ∧ H p = some (.tup [.int x, .int y, .ref q]) ∧ Col k x ∧ Col k y ∧
      ((∃ a b c, H q = some (.tup [.str "test", .int a, .int b, .int c]) ∧ Col k a ∧ Col k b ∧ Col k c) ∨
       (∃ c u z l vs, H q = some (.tup [.str "put", .int c, .int u, .int z, .ref l]) ∧ Col k c ∧ Col k u ∧ Col k z ∧ H l = some (.lst vs) ∧ vs.length ≤ 8 ∧ ∀ w ∈ vs, ∃ x' y', StepAt k d H w x' y'))
theorem StepAt.mono {k : Nat} {H H' : Hp} (s : Same H H') : ∀ {d : Nat} {v : V} {x y : Int}, StepAt k d H v x y → StepAt k d H' v x y
  | 0, _, _, _, h => h
  | d + 1, v, x, y, h => by
    obtain ⟨p, q, e1, e2, c1, c2, h⟩ := h
    refine ⟨p, q, e1, s _ _ e2, c1, c2, ?_⟩
    rcases h with ⟨a, b, c, e3, e4⟩ | ⟨c, u, z, l, vs, e3, c3, c4, c5, e4, e5, e6⟩
    · exact .inl ⟨a, b, c, s _ _ e3, e4⟩
    · refine .inr ⟨c, u, z, l, vs, s _ _ e3, c3, c4, c5, s _ _ e4, e5, fun w hw => ?_⟩
      obtain ⟨x', y', hs⟩ := e6 w hw
      exact ⟨x', y', StepAt.mono s hs⟩
theorem StepAt.succ {k : Nat} {H : Hp} : ∀ {d : Nat} {v : V} {x y : Int}, StepAt k d H v x y → StepAt k (d + 1) H v x y
  | 0, _, _, _, h => h.elim
  | d + 1, v, x, y, h => by
    obtain ⟨p, q, e1, e2, c1, c2, h⟩ := h
    refine ⟨p, q, e1, e2, c1, c2, ?_⟩
    rcases h with h | ⟨c, u, z, l, vs, e3, c3, c4, c5, e4, e5, e6⟩
    · exact .inl h
    · refine .inr ⟨c, u, z, l, vs, e3, c3, c4, c5, e4, e5, fun w hw => ?_⟩
      obtain ⟨x', y', hs⟩ := e6 w hw
      exact ⟨x', y', StepAt.succ hs⟩
theorem StepAt.le {k : Nat} {H : Hp} {d d' : Nat} {v : V} {x y : Int} (h : d ≤ d') (hs : StepAt k d H v x y) : StepAt k d' H v x y := by
  induction h with
  | refl => exact hs
  | step _ ih => exact ih.succ
theorem StepAt.cols {k : Nat} {H : Hp} : ∀ {d : Nat} {v : V} {x y : Int}, StepAt k d H v x y → Col k x ∧ Col k y
  | 0, _, _, _, h => h.elim
  | _ + 1, _, _, _, ⟨_, _, _, _, c1, c2, _⟩ => ⟨c1, c2⟩
/-- a step's tuple -/
theorem StepAt.tup {k : Nat} {H : Hp} : ∀ {d : Nat} {v : V} {x y : Int}, StepAt k d H v x y → ∃ p q, v = .ref p ∧ H p = some (.tup [.int x, .int y, .ref q])
  | 0, _, _, _, h => h.elim
  | _ + 1, _, _, _, ⟨p, q, e1, e2, _⟩ => ⟨p, q, e1, e2⟩
/-- a list of steps with their ends -/
abbrev StepsAt (k d : Nat) (H : Hp) : List V → List (Int × Int) → Prop := Paired fun v e => StepAt k d H v e.1 e.2
section
variable {α β : Type} {F G : α → β → Prop}
theorem pd_map : ∀ {l : List α} {m : List β}, Paired F l m → (∀ a b, F a b → G a b) → Paired G l m
  | _, _, .nil, _ => .nil
  | _, _, .cons r t, f => .cons (f _ _ r) (pd_map t f)
theorem pd_app : ∀ {l l' : List α} {m m' : List β}, Paired F l m → Paired F l' m' → Paired F (l ++ l') (m ++ m')
  | _, _, _, _, .nil, s => s
  | _, _, _, _, .cons r t, s => .cons r (pd_app t s)
theorem pd_get : ∀ {l : List α} {m : List β} {i : Nat} {a : α}, Paired F l m → l[i]? = some a → ∃ b, m[i]? = some b ∧ F a b
  | _, _, _, _, .nil, h => by simp at h
  | _, _, 0, _, .cons r _, h => by cases h; exact ⟨_, rfl, r⟩
  | _, _, i + 1, _, .cons _ t, h => pd_get (i := i) t h
theorem pd_mem : ∀ {l : List α} {m : List β} {a : α}, Paired F l m → a ∈ l → ∃ b, b ∈ m ∧ F a b
  | _, _, _, .nil, h => by cases h
  | _, _, _, .cons r t, h => by
    rcases List.mem_cons.mp h with e | h
    · subst e; exact ⟨_, List.mem_cons_self, r⟩
    · obtain ⟨b, hb, f⟩ := pd_mem t h
      exact ⟨b, List.mem_cons_of_mem _ hb, f⟩
theorem pd_mem' : ∀ {l : List α} {m : List β} {b : β}, Paired F l m → b ∈ m → ∃ a, a ∈ l ∧ F a b
  | _, _, _, .nil, h => by cases h
  | _, _, _, .cons r t, h => by
    rcases List.mem_cons.mp h with e | h
    · subst e; exact ⟨_, List.mem_cons_self, r⟩
    · obtain ⟨b, hb, f⟩ := pd_mem' t h
      exact ⟨b, List.mem_cons_of_mem _ hb, f⟩
theorem pd_len : ∀ {l : List α} {m : List β}, Paired F l m → l.length = m.length
  | _, _, .nil => rfl
  | _, _, .cons _ t => congrArg (· + 1) (pd_len t)
end
theorem StepsAt.mono {k d : Nat} {H H' : Hp} {vs : List V} {es : List (Int × Int)} (s : Same H H') (h : StepsAt k d H vs es) : StepsAt k d H' vs es := pd_map h fun _ _ z => z.mono s
theorem StepsAt.le {k d d' : Nat} {H : Hp} {vs : List V} {es : List (Int × Int)} (hd : d ≤ d') (h : StepsAt k d H vs es) : StepsAt k d' H vs es := pd_map h fun _ _ z => z.le hd
end K86

namespace K86
open PySem PySem.Spec PyProof.Rows L2
section
variable {P : Program} {w : World} {K : PySem.W.Frag} {mg : Str → Option Value} {base : Heap}
theorem rg_len (k : Nat) : (rgV 0 k).length = k := by rw [rgV_length]; omega
theorem rg_get {k i : Nat} (h : i < k) : (rgV 0 k)[i]? = some (V.int i) := by
  unfold rgV
  rw [List.getElem?_map, List.getElem?_range (by omega)]
  show some (V.int (0 + (i : Int))) = _
  rw [Int.zero_add]
theorem rg_ints (k : Nat) : rgV 0 k = ((List.range k).map fun i => ((i : Nat) : Int)).map V.int := by
  refine List.ext_getElem? fun i => ?_
  by_cases h : i < k
  · rw [rg_get h, List.getElem?_map, List.getElem?_map, List.getElem?_range h]
    rfl
  · rw [List.getElem?_eq_none (by rw [rg_len]; omega), List.getElem?_eq_none (by rw [List.length_map, List.length_map, List.length_range]; omega)]
theorem rg_ok {k : Nat} (h : k ≤ 8) : RgOk 0 k := RgOk.of_le (by omega) (by omega) (by omega) (by omega)
/-! ### test_steps -/
def TrOn (D : Addr) (H : Hp) (v : V) (a b c : Nat) : Prop := ∃ p, v = .ref p ∧ p ≠ D ∧ H p = some (.tup [.int a, .int b, .int c])
theorem TrOn.but {D : Addr} {H H' : Hp} {v : V} {a b c : Nat} (s : SameBut D H H') (h : TrOn D H v a b c) : TrOn D H' v a b c := by
  obtain ⟨p, e1, e2, e3⟩ := h
  exact ⟨p, e1, e2, s _ _ e3 e2⟩
/-- the triples laid so far: all of S, and no more than m -/
def Trs (k : Nat) (D : Addr) (S : Nat → Nat → Nat → Prop) (m : Nat) (H : Hp) : Prop := ∃ ys, H D = some (.lst ys) ∧ ys.length ≤ m ∧ (∀ y ∈ ys, ∃ a b c, a < k ∧ b < k ∧ c < k ∧ TrOn D H y a b c) ∧
  ∀ a b c, a < k → b < k → c < k → S a b c → ∃ y ∈ ys, TrOn D H y a b c
theorem Trs.imp {k : Nat} {D : Addr} {S S' : Nat → Nat → Nat → Prop} {m m' : Nat} {H : Hp} (h : Trs k D S m H) (hm : m ≤ m') (hS : ∀ a b c, a < k → b < k → c < k → S' a b c → S a b c) : Trs k D S' m' H := by
  obtain ⟨ys, e1, e2, e3, e4⟩ := h
  exact ⟨ys, e1, Nat.le_trans e2 hm, e3, fun a b c ha hb hc hs => e4 a b c ha hb hc (hS a b c ha hb hc hs)⟩
def spTests (C : Addr) : Sp := fun vs H Q _ => ∃ (t : Addr) (R : Tab) (k : Nat), vs = [.ref t] ∧ TabAt C H t R ∧ OkTab k R ∧ k ≤ 8 ∧
  ∀ (F : Addr) (ws : List V) (es : List (Int × Int)) (H' : Hp), Same H H' → H F = none → H' F = some (.lst ws) → ws.length ≤ 512 → StepsAt k 1 (rst (fun b => H b = none ∧ b ≠ F) H') ws es →
    (∀ a b c, Col k a → Col k b → Col k c → tb R (tb R a b) c = tb R a (tb R b c) ∨ (tb R (tb R a b) c, tb R a (tb R b c)) ∈ es) → Q (.ref F) H'
theorem ok_Tests (T : Txt K mg) : FnOk P w K mg base CX0 6 T.Tests.f T.Tests.fd ["table"] (spTests T.C) := by
  have GG : FnOk P w K mg base CX0 4 T.TGet.f T.TGet.fd ["self", "pair"] (spTGet T.C) := ok_TGet T
  have GZ : FnOk P w K mg base CX0 1 T.TSize.f T.TSize.fd ["self"] (spTSize T.C) := ok_TSize T
  refine T.Tests.F.ok scTests (fun vs H Q E h => ?_) (fun cdv A outer s H vs Q E hr h => ?_)
  · obtain ⟨t, R, k, rfl, _⟩ := h
    rfl
  obtain ⟨t, R, k, rfl, hT, hk, h8, q⟩ := h
  refine ⟨_, pss_cons (ps_asg (pe_tup (pa_cons (pe_listRg rfl rfl T.z_list (prg_1 rfl T.z_range (pe_prop (pv 0) T.clC T.prSize GZ (hr.mono (by decide)) T.TSize.b .nil pass0 rfl))) (pa_cons (pe_lst pa_nil) pa_nil)))
      (pg_tup rfl (pgs_cons (pg_name (i := 1) scTests.nd rfl (.inr rfl)) (pgs_cons (pg_name (i := 2) scTests.nd rfl (.inl rfl)) pgs_nil))))
    (pss_cons (ps_for PassesOwn.never rfl (pi_list (pe_lcT (own := [("a", 3), ("b", 4), ("c", 5)]) (g := gName 3) (tt := tYes) (vsR := [4, 5]) rfl scTests.nd (pi_list (pv 1))
        (blkOk_by (N := nTests) (sc := defScope sTests) (by decide +kernel)) (by decide) (fun _ _ _ _ _ => pg_name (i := 3) scTests.nd rfl (Or.inl rfl)) (fun _ _ _ _ _ => pts_nil)
        (fun _ _ _ _ _ D => pin_cl (vs := [4, 5]) (vsR := [5]) (fun _ _ z => z) rfl (by decide) (piList K rfl (pv 1)) (pg_name (i := 4) scTests.nd rfl (Or.inl rfl)) pts_nil
          (pin_cl (vs := [5]) (vsR := []) (fun _ _ z => z) rfl (by decide) (piList K rfl (pv 1)) (pg_name (i := 5) scTests.nd rfl (Or.inl rfl)) pts_nil
            (pin_em (fun _ _ z => z) (pe_tup (pa_cons (pv 3) (pa_cons (pv 4) (pa_cons (pv 5) pa_nil)))))))))
      (pg_tup rfl (pgs_cons (pg_name (i := 3) scTests.nd rfl (.inl rfl)) (pgs_cons (pg_name (i := 4) scTests.nd rfl (.inl rfl)) (pgs_cons (pg_name (i := 5) scTests.nd rfl (.inl rfl)) pgs_nil))))
      (pss_cons (ps_par (i := 6) (j := 7) rfl scTests.nd rfl rfl (by decide) rfl rfl
          (pa_cons (pe_getit T.clC T.getC GG hr T.TGet.b (pv 0) (pe_tup (pa_cons (pe_getit T.clC T.getC GG hr T.TGet.b (pv 0) (pe_tup (pa_cons (pv 3) (pa_cons (pv 4) pa_nil)))) (pa_cons (pv 5) pa_nil))))
          (pa_cons (pe_getit T.clC T.getC GG hr T.TGet.b (pv 0) (pe_tup (pa_cons (pv 3) (pa_cons (pe_getit T.clC T.getC GG hr T.TGet.b (pv 0) (pe_tup (pa_cons (pv 4) (pa_cons (pv 5) pa_nil)))) pa_nil)))) pa_nil)) (by rfl))
      (pss_one (ps_if (pt_cmpR op_ne (pv 6) (pv 7) (nomark _))
        (pss_one (ps_expr (pe_bm PySem.F.plainAttrs_list PySem.F.slot_list_append PySem.F.type_list_append mt_append (pv 2) (pa_cons
          (pe_tup (pa_cons (pv 6) (pa_cons (pv 7) (pa_cons (pe_tup (pa_cons pe_str (pa_cons (pv 3) (pa_cons (pv 4) (pa_cons (pv 5) pa_nil))))) pa_nil)))) pa_nil)))) pss_nil))))
    (pss_one (ps_ret (pv 2)))), ?_⟩
  obtain ⟨dx, l0, ht, _⟩ := id hT
  refine ⟨_, rfl, t, dx, _, rfl, ht, t, R, k, rfl, hT, hk, k, rfl, rg_ok h8, fun cA hcA => ⟨Nat.zero_le _, fun F hF => ⟨le2, fun tp htp => ?_⟩⟩⟩
  refine ⟨tp, _, rfl, SqT.of upd_same, rfl, _, _, rfl, _, _, rfl, rfl, ?_⟩
  have nF : H F = none := (same_up hcA).free hF
  have s2 : Same H (upd (upd H cA (.lst (rgV 0 k))) F (.lst [])) := (same_up hcA).trans (same_up hF)
  have s3 := same_up (o := HO.tup [V.ref cA, V.ref F]) htp
  have eA : (upd (upd (upd H cA (.lst (rgV 0 k))) F (.lst [])) tp (.tup [.ref cA, .ref F])) cA = some (.lst (rgV 0 k)) := s3 _ _ (same_up hF _ _ upd_same)
  have eF : (upd (upd (upd H cA (.lst (rgV 0 k))) F (.lst [])) tp (.tup [.ref cA, .ref F])) F = some (.lst []) := s3 _ _ upd_same
  have s4 := s2.trans s3
  generalize upd (upd (upd H cA (.lst (rgV 0 k))) F (.lst [])) tp (.tup [.ref cA, .ref F]) = H1 at eA eF s4 ⊢
  have seq : ∀ {H2 : Hp}, Same H1 H2 → SqL K H2 cA (rgV 0 k) := fun s => SqL.of (s _ _ eA)
  have go : ∀ {i : Nat} {H2 : Hp}, i < k → Same H1 H2 → (Itl K cA).go i H2 := fun hi s => itl_go (seq s) (by rw [rg_len]; exact hi)
  have st : ∀ {H2 : Hp}, Same H1 H2 → (Itl K cA).stop k H2 := fun s => by
    have z := itl_st (seq s)
    rw [rg_len] at z
    exact z
  have yl : ∀ {i : Nat} {x : V} {H2 H3 : Hp}, i < k → Same H1 H2 → (Itl K cA).yld i H2 x H3 → H3 = H2 ∧ x = .int i := fun hi s y => by
    obtain ⟨e1, e2⟩ := itl_yl (seq s) y
    rw [rg_get hi] at e2
    exact ⟨e1, (Option.some.inj e2).symm⟩
  -- the triples
  refine ⟨_, rfl, cA, rfl, ⟨_, seq (Same.refl _)⟩, fun D hD => ?_⟩
  have ad : ∀ {i j l m : Nat} {S : Nat → Nat → Nat → Prop} {H2 : Hp} {p : Addr}, i < k → j < k → l < k → Same H1 H2 → Trs k D S m H2 → H2 p = none →
      ∀ acc, H2 D = some (.lst acc) → Same H1 (upd (upd H2 p (.tup [.int i, .int j, .int l])) D (.lst (acc ++ [.ref p]))) ∧
        Trs k D (fun a b c => S a b c ∨ (a = i ∧ b = j ∧ c = l)) (m + 1) (upd (upd H2 p (.tup [.int i, .int j, .int l])) D (.lst (acc ++ [.ref p]))) := by
    rintro i j l m S H2 p hi hj hl s ⟨ys, e1, e2, e3, e4⟩ hp acc eacc
    rw [e1] at eacc
    cases eacc
    have pD : p ≠ D := fun z => by rw [z, e1] at hp; cases hp
    have sp := same_up (o := HO.tup [V.int i, V.int j, V.int l]) hp
    have sb : SameBut D H2 (upd (upd H2 p (.tup [.int i, .int j, .int l])) D (.lst (ys ++ [.ref p]))) := fun b o e ne => by rw [upd_ne ne]; exact sp _ _ e
    have new : TrOn D (upd (upd H2 p (.tup [.int i, .int j, .int l])) D (.lst (ys ++ [.ref p]))) (.ref p) i j l := ⟨p, rfl, pD, by rw [upd_ne pD, upd_same]⟩
    refine ⟨fun b o e => by rw [upd_ne (ne_of_none e hD)]; exact sp _ _ (s _ _ e), ys ++ [.ref p], upd_same, by rw [List.length_append]; show ys.length + 1 ≤ m + 1; omega, fun y hy => ?_, fun a b c ha hb hc hs => ?_⟩
    · rcases List.mem_append.mp hy with hy | hy
      · obtain ⟨a, b, c, ha, hb, hc, ht⟩ := e3 y hy
        exact ⟨a, b, c, ha, hb, hc, ht.but sb⟩
      · rw [List.mem_singleton.mp hy]
        exact ⟨i, j, l, hi, hj, hl, new⟩
    · rcases hs with hs | ⟨rfl, rfl, rfl⟩
      · obtain ⟨y, hy, ht⟩ := e4 a b c ha hb hc hs
        exact ⟨y, List.mem_append_left _ hy, ht.but sb⟩
      · exact ⟨_, List.mem_append_right _ (List.mem_singleton.mpr rfl), new⟩
  refine cl_it (n := k) (fun i H2 => Same H1 H2 ∧ Trs k D (fun a b c => a < i) (i * 64) H2) ⟨same_up hD, [], upd_same, Nat.zero_le _, fun y hy => (nomatch hy), fun a b c _ _ _ h => absurd h (Nat.not_lt_zero _)⟩
    (fun i H2 hi p => go hi p.1) (fun H2 p => st p.1) ?_ ?_
  · rintro i x H2 H3 hi ⟨s5, tr⟩ y
    obtain ⟨rfl, rfl⟩ := yl hi s5 y
    refine ⟨rfl, _, rfl, cA, rfl, ⟨_, seq s5⟩, ?_⟩
    refine cl_it (n := k) (fun j H2 => Same H1 H2 ∧ Trs k D (fun a b c => a < i ∨ (a = i ∧ b < j)) (i * 64 + j * 8) H2) ⟨s5, tr.imp (by omega) (fun a b c _ _ _ h => by omega)⟩ (fun j H2 hj p => go hj p.1) (fun H2 p => st p.1) ?_ ?_
    · rintro j x H2 H4 hj ⟨s6, tr6⟩ y6
      obtain ⟨rfl, rfl⟩ := yl hj s6 y6
      refine ⟨rfl, _, rfl, cA, rfl, ⟨_, seq s6⟩, ?_⟩
      refine cl_it (n := k) (fun l H2 => Same H1 H2 ∧ Trs k D (fun a b c => a < i ∨ (a = i ∧ (b < j ∨ (b = j ∧ c < l)))) (i * 64 + j * 8 + l) H2) ⟨s6, tr6.imp (by omega) (fun a b c _ _ _ h => by omega)⟩ (fun l H2 hl p => go hl p.1) (fun H2 p => st p.1) ?_ ?_
      · rintro l x H2 H5 hl ⟨s7, tr7⟩ y7
        obtain ⟨rfl, rfl⟩ := yl hl s7 y7
        refine ⟨rfl, _, rfl, _, rfl, _, rfl, (by show 3 ≤ sizeLine; exact small8 (by decide)), fun p hp => ?_⟩
        obtain ⟨ys, e1, e2, e3, e4⟩ := id tr7
        obtain ⟨n1, n2⟩ := ad hi hj hl s7 tr7 hp ys e1
        have pD : D ≠ p := fun z => by rw [← z, e1] at hp; cases hp
        exact ⟨ys, by rw [upd_ne pD]; exact e1, small1000 (by omega), n1, n2.imp (by omega) (fun a b c _ _ _ h => by omega)⟩
      · rintro H2 ⟨s7, tr7⟩
        exact ⟨s7, tr7.imp (by omega) (fun a b c _ _ _ h => by omega)⟩
    · rintro H2 ⟨s6, tr6⟩
      exact ⟨s6, tr6.imp (by omega) (fun a b c _ _ _ h => by omega)⟩
  rintro H2 ⟨s5, ys, eD, lD, hys, cov⟩
  have eF2 := s5 _ _ eF
  have FD : F ≠ D := ne_of_none eF hD
  refine ⟨D, rfl, ⟨_, SqL.of eD⟩, for_list (K := K) (a := D) (xs := ys) (fun i σ H3 => ∃ v3 v4 v5 v6 v7, σ = [some (V.ref t), some (V.ref cA), some (V.ref F), v3, v4, v5, v6, v7] ∧ SameBut F H2 H3 ∧
      ∃ ws es, H3 F = some (.lst ws) ∧ ws.length ≤ i ∧ StepsAt k 1 (rst (fun b => H b = none ∧ b ≠ F) H3) ws es ∧
        ∀ j a b c, j < i → TrOn D H2 (ys.getD j .non) a b c → a < k → b < k → c < k → tb R (tb R a b) c = tb R a (tb R b c) ∨ (tb R (tb R a b) c, tb R a (tb R b c)) ∈ es)
    ⟨none, none, none, none, none, rfl, SameBut.same (Same.refl _), [], [], eF2, Nat.le_refl _, .nil, fun j _ _ _ h => absurd h (Nat.not_lt_zero _)⟩
    (fun i σ H3 _ ⟨_, _, _, _, _, _, sb, _⟩ => SqL.of (sb _ _ eD FD.symm)) ?_ ?_⟩
  · rintro i y σ H3 hy ⟨v3, v4, v5, v6, v7, rfl, sb, ws, es, e3, l3, st3, cv3⟩
    obtain ⟨a, b, c, ha, hb, hc, p, rfl, pD, ep⟩ := hys y (List.mem_of_getElem? hy)
    have pF : p ≠ F := ne_of ep eF2 (fun z => by cases z)
    have hi := (List.getElem?_eq_some_iff.mp hy).1
    have ca : Col k a := ⟨by omega, by omega⟩
    have cb : Col k b := ⟨by omega, by omega⟩
    have cc : Col k c := ⟨by omega, by omega⟩
    have sF : Same H H3 := (SameBut.trans (SameBut.same (s4.trans s5)) sb).new nF
    have hT3 : TabAt T.C H3 t R := hT.mono sF
    refine ⟨p, _, rfl, SqT.of (sb _ _ ep pF), rfl, _, _, rfl, _, _, rfl, _, _, rfl, rfl, ?_⟩
    refine ⟨_, rfl, _, rfl, _, rfl, _, rfl, tab_end hT3 hk ca cb fun H4 t4 => ⟨_, rfl, tab_end (hT3.mono t4) hk (hk.ent _ _ ca cb) cc fun H5 t5 => ?_⟩⟩
    have hT5 := hT3.mono (t4.trans t5)
    refine ⟨_, rfl, _, rfl, _, rfl, _, rfl, _, rfl, tab_end hT5 hk cb cc fun H6 t6 => tab_end (hT5.mono t6) hk ca (hk.ent _ _ cb cc) fun H7 t7 => ⟨_, _, rfl, ?_⟩⟩
    have s37 : Same H3 H7 := ((t4.trans t5).trans t6).trans t7
    have keep : ∀ {H8 : Hp}, Same H3 H8 → StepsAt k 1 (rst (fun b => H b = none ∧ b ≠ F) H8) ws es := fun s8 => StepsAt.mono (rst_up fun b o h e => ⟨h, s8 _ _ e⟩) st3
    have cv : ∀ (es' : List (Int × Int)), (∀ e ∈ es, e ∈ es') → (tb R (tb R a b) c = tb R a (tb R b c) ∨ (tb R (tb R a b) c, tb R a (tb R b c)) ∈ es') → ∀ j a b c, j < i + 1 → TrOn D H2 (ys.getD j .non) a b c → a < k → b < k → c < k →
        tb R (tb R a b) c = tb R a (tb R b c) ∨ (tb R (tb R a b) c, tb R a (tb R b c)) ∈ es' := by
      intro es' hsub hh j a' b' c' hj htr ha' hb' hc'
      by_cases hji : j < i
      · rcases cv3 j a' b' c' hji htr ha' hb' hc' with h | h
        · exact .inl h
        · exact .inr (hsub _ h)
      · obtain rfl : j = i := by omega
        rw [List.getD_eq_getElem?_getD, hy] at htr
        obtain ⟨p', e1, _, e2⟩ := htr
        cases e1
        rw [ep] at e2
        injection e2 with e2
        injection e2 with e2
        injection e2 with e5 e2
        injection e2 with e6 e2
        injection e2 with e7 e2
        have q5 : (a : Int) = a' := V.int.inj e5
        have q6 : (b : Int) = b' := V.int.inj e6
        have q7 : (c : Int) = c' := V.int.inj e7
        rw [← q5, ← q6, ← q7]
        exact hh
    refine ⟨_, rfl, _, rfl, rfl, _, rfl, ite2 (fun hne => ?_) (fun heq => ?_)⟩
    · -- found.append((one, other, ('test', a, b, c)))
      have e7 := s37 _ _ e3
      refine ⟨_, rfl, .inl ⟨rfl, _, SqL.of e7⟩, _, rfl, _, rfl, _, rfl, _, rfl, _, rfl, (by show 4 ≤ sizeLine; exact small8 (by decide)), fun q1 hq1 => ⟨(by show 3 ≤ sizeLine; exact small8 (by decide)), fun q2 hq2 => ?_⟩⟩
      have u1 := same_up (o := HO.tup [V.str "test", V.int a, V.int b, V.int c]) hq1
      have u2 := same_up (o := HO.tup [V.int (tb R (tb R a b) c), V.int (tb R a (tb R b c)), V.ref q1]) hq2
      have e9 := u2 _ _ (u1 _ _ e7)
      have n1 : H q1 = none := (sF.trans s37).free hq1
      have n2 : H q2 = none := ((sF.trans s37).trans u1).free hq2
      have q1F : q1 ≠ F := fun z => by rw [z, e7] at hq1; cases hq1
      have q2F : q2 ≠ F := fun z => by rw [z, u1 _ _ e7] at hq2; cases hq2
      have q12 : q1 ≠ q2 := fun z => by rw [← z, upd_same] at hq2; cases hq2
      refine ⟨F, _, _, rfl, rfl, e9, small1000 (by omega), ?_⟩
      refine ⟨_, _, _, _, _, rfl, fun b' o e ne => ?_, ws ++ [.ref q2], es ++ [(tb R (tb R a b) c, tb R a (tb R b c))], upd_same, by rw [List.length_append]; show ws.length + 1 ≤ i + 1; omega, pd_app ?_ (.cons ?_ .nil),
        cv _ (fun e he => List.mem_append_left _ he) (.inr (List.mem_append_right _ (List.mem_singleton.mpr rfl)))⟩
      · rw [upd_ne ne]
        exact u2 _ _ (u1 _ _ (s37 _ _ (sb _ _ e ne)))
      · refine StepsAt.mono (rst_up fun b' o h e => ⟨h, ?_⟩) st3
        rw [upd_ne h.2]
        exact u2 _ _ (u1 _ _ (s37 _ _ e))
      · exact ⟨q2, q1, rfl, rst_mk ⟨n2, q2F⟩ (by rw [upd_ne q2F, upd_same]), hk.ent _ _ (hk.ent _ _ ca cb) cc, hk.ent _ _ ca (hk.ent _ _ cb cc), .inl ⟨a, b, c, rst_mk ⟨n1, q1F⟩ (by rw [upd_ne q1F, upd_ne q12, upd_same]), ca, cb, cc⟩⟩
    · have heq' : tb R (tb R a b) c = tb R a (tb R b c) := by
        by_cases z : tb R (tb R a b) c = tb R a (tb R b c)
        · exact z
        · exact (heq (by rw [decide_eq_false (fun y => z (V.int.inj y))]; rfl)).elim
      exact ⟨_, _, _, _, _, rfl, fun b' o e ne => s37 _ _ (sb _ _ e ne), ws, es, s37 _ _ e3, by omega, keep s37, cv es (fun _ he => he) (.inl heq')⟩
  · rintro σ H3 ⟨v3, v4, v5, v6, v7, rfl, sb, ws, es, e3, l3, st3, cv3⟩
    refine ⟨.ref F, rfl, q F ws es H3 ((SameBut.trans (SameBut.same (s4.trans s5)) sb).new nF) nF e3 (by omega) st3 fun a b c ha hb hc => ?_⟩
    obtain ⟨a', rfl⟩ : ∃ n : Nat, a = n := ⟨a.toNat, by have := ha.1; omega⟩
    obtain ⟨b', rfl⟩ : ∃ n : Nat, b = n := ⟨b.toNat, by have := hb.1; omega⟩
    obtain ⟨c', rfl⟩ : ∃ n : Nat, c = n := ⟨c.toNat, by have := hc.1; omega⟩
    have l1 : a' < k := by have := ha.2; omega
    have l2 : b' < k := by have := hb.2; omega
    have l3 : c' < k := by have := hc.2; omega
    obtain ⟨y, hy, tr⟩ := cov a' b' c' l1 l2 l3 l1
    obtain ⟨j, hj, ej⟩ := List.getElem_of_mem hy
    exact cv3 j a' b' c' hj (by rw [List.getD_eq_getElem?_getD, List.getElem?_eq_getElem hj, Option.getD_some, ej]; exact tr) l1 l2 l3
end
end K86

namespace K86
open PySem PySem.Spec PyProof.Rows L2
/-! ### set(xs) of a list of ints: as the layer's rule for a tuple of ints, with the list's iterator -/
abbrev bare (w : World) : Obj := { cls := .type "set", dict := none, data := .set #[] 0 (.fresh 0 0 (!w.params.followText "set-order")) }
section
variable {P : Program} {w : World} {A : Around} {E : Value → Shared → Prop} {s : Shared}
theorem set_init_list {l : Addr} {its : Array Value} (ns : List Int) {R : Result → Shared → Prop} (hh : A.handled = none) (hl : s.heap.IsList l its) (hi : IntsAre its.toList ns) (hb : ns.length + 1 < scanBound)
    (h : ∀ (h' : Heap) (tk c : Nat), SetR w h' s.heap.objs.size (fun j => decide (j ∈ ns)) c → c ≤ ns.length → (∀ b o, s.heap.get? b = some o → h'.get? b = some o) → R (.ok (.ret .none)) { s with heap := h', toks := tk }) :
    wpAny (model P w) A.in1 (Builtin.«set.__init__» ⟨[.ref s.heap.objs.size, .ref l], []⟩) (fun fin s' => match fin with | .done f => R (.ok f) s' | .again c' => c'.quiet = true ∧ codeAny (model P w) A c' R s') (fun e s' => R (.error e) s') { s with heap := s.heap.push (bare w) } := by
  have hz : its.size = ns.length := (Array.length_toList (xs := its)).symm.trans (IntsAre.length hi)
  have lS : l < s.heap.objs.size := hl.elim fun _ z => Heap.lt_size z.1
  have eS : (s.heap.push (bare w)).get? s.heap.objs.size = some (bare w) := Heap.get?_push_size _ rfl
  have l1 : (s.heap.push (bare w)).IsList l its := Heap.IsList.push hl _
  obtain ⟨ol, hol, hcl, nl, hdl⟩ := id l1
  obtain ⟨oc, od, odt, osl⟩ := ol
  simp only at hcl hdl
  subst hcl
  subst hdl
  have n1 := PySem.F.sub_list_set
  have n2 := PySem.F.sub_list_frozenset
  have n3 : (Value.type "list" == Value.type "dict") = false := by decide
  unfold Builtin.«set.__init__» noKeywords Builtin.Frozenset.updateFrom
  generalize hPI : pyIter = PI
  wp_walk
  subst hPI
  refine wpAny_pyIter_list l1 (wpAny_bind (wpAny_runValue ?_))
  have h3 : A.in1.in1.handled = none := by simp [hh]
  have sz1 : (s.heap.push (bare w)).objs.size = s.heap.objs.size + 1 := Heap.size_push ..
  have lI : l ≠ (s.heap.push (bare w)).objs.size := by rw [sz1]; exact Nat.ne_of_lt (Nat.lt_succ_of_lt lS)
  have Sf : s.heap.objs.size ∉ [(s.heap.push (bare w)).objs.size, l] := by
    rw [sz1]
    intro z
    rcases List.mem_cons.mp z with z | z
    · exact absurd z (Nat.ne_of_lt (Nat.lt_succ_self _))
    · exact absurd (List.mem_singleton.mp z) (Nat.ne_of_gt lS)
  have vals : ∀ (i : Nat) (v : Value), its[i]? = some v → ∃ k t, ns[i]? = some k ∧ v = .int k t := fun i v hv => by
    have lt : i < ns.length := by rw [← hz]; exact (Array.getElem?_eq_some_iff.mp hv).1
    obtain ⟨t, e⟩ := PyProof.Rows.IntsAre.int_at hi i v (by rw [Array.getElem?_toList]; exact hv)
    refine ⟨ns[i], t, List.getElem?_eq_getElem lt, ?_⟩
    rw [e, List.getD_eq_getElem?_getD, List.getElem?_eq_getElem lt, Option.getD_some]
  refine set_update_ints ((Walks.list h3 _ l lI its).toS) s.heap.objs.size Sf ns hz hb vals its.size 0 _ (Nat.sub_zero _) (Nat.zero_le _) ?_ ?_ ?_
  · exact ⟨⟨_, Heap.get?_push_size _ rfl, rfl, rfl⟩, Heap.IsList.push l1 _⟩
  · exact ⟨0, Nat.le_refl 0, setR_new_at (Heap.get?_push_of_some _ eS)⟩
  rintro ⟨h', g, d, tk, os⟩ c hm hc hS
  obtain rfl : g = s.gens := hm.gens
  obtain rfl : d = s.drawn := hm.drawn
  obtain rfl : os = s.os := hm.os
  rw [hz] at hc
  refine wpAny_pure (show wpAny _ _ (ret Value.none) _ _ _ from wpAny_pure (h h' tk c hS hc fun b o e => ?_))
  have b0 : b < s.heap.objs.size := Heap.lt_size e
  refine hm.heap b o (fun z => ?_) (Heap.get?_push_of_some _ (Heap.get?_push_of_some _ e))
  rcases List.mem_cons.mp z with z | z
  · exact absurd z (Nat.ne_of_lt b0)
  · have z' := List.mem_singleton.mp z
    rw [sz1] at z'
    exact absurd z' (Nat.ne_of_lt (Nat.lt_succ_of_lt b0))
theorem call_set_list {l : Addr} {its : Array Value} (ns : List Int) {Q : Value → Shared → Prop} (hh : A.handled = none) (hl : s.heap.IsList l its) (hi : IntsAre its.toList ns) (hb : ns.length + 1 < scanBound)
    (h : ∀ (h' : Heap) (tk c : Nat), SetR w h' s.heap.objs.size (fun j => decide (j ∈ ns)) c → c ≤ ns.length → (∀ b o, s.heap.get? b = some o → h'.get? b = some o) → Q (.ref s.heap.objs.size) { s with heap := h', toks := tk }) :
    wpAny (model P w) A (call (.type "set") [.ref l]) Q E s := by
  obtain ⟨c0, tl0, m0⟩ := F.called_set.mro
  have made := F.called_set.made
  have sub := F.called_set.sub
  have nt := F.called_set.notType
  have cc := F.called_set.canCreate
  have ct := F.typeCall_set_1 (.ref l)
  refine wpAny_call (codeAny_of_tree ?_)
  show wpAny _ _ (callAny (.type "set") _) _ _ _
  refine wpAny_pure ⟨Code.quiet_builtin _ (by decide +kernel), codeAny_builtin F.entry_type_call ?_⟩
  rw [Around.under_plain (weight_type_call_type "set" [.ref l] []) rfl]
  repeat (any_goals (first | assumption | wp_step))
  refine codeAny_mono (code_set_led1 (.ref l) (E := E) (Q₁ := fun o s1 => o = .ref s.heap.objs.size ∧ s1 = { s with heap := s.heap.push (bare w) }) ⟨rfl, rfl⟩) fun r s1 hr => ?_
  match r, hr with
  | .error e, hr => exact hr
  | .ok .next, hr => exact hr.elim
  | .ok .brk, hr => exact hr.elim
  | .ok .cont, hr => exact hr.elim
  | .ok (.ret obj), hr =>
    obtain ⟨rfl, rfl⟩ := hr
    have ty : Shared.TypeIs { s with heap := s.heap.push (bare w) } (.ref s.heap.objs.size) "set" := ⟨_, Heap.get?_push_size _ rfl, rfl⟩
    have li := F.called_set.init.lookup
    have bi := F.called_set.init.bind (.ref s.heap.objs.size)
    repeat (any_goals (first | assumption | wp_step))
    refine codeAny_mono (codeAny_call_builtin (R := wants (fun r s2 => r = .none ∧ ∃ h' tk c, s2 = { s with heap := h', toks := tk } ∧ SetR w h' s.heap.objs.size (fun j => decide (j ∈ ns)) c ∧ c ≤ ns.length ∧
        ∀ b o, s.heap.get? b = some o → h'.get? b = some o) E) F.called_set.init.plain F.entry_set_init (check_set_init_1 ty
          (set_init_list ns (by simp [hh]) hl hi hb fun h' tk c a1 a2 a3 => ⟨rfl, h', tk, c, rfl, a1, a2, a3⟩))) fun r2 s2 hr2 => ?_
    match r2, hr2 with
    | .error e, hr2 => exact hr2
    | .ok .next, hr2 => exact hr2.elim
    | .ok .brk, hr2 => exact hr2.elim
    | .ok .cont, hr2 => exact hr2.elim
    | .ok (.ret r), hr2 =>
      obtain ⟨rfl, h', tk, c, rfl, a1, a2, a3⟩ := hr2
      repeat (any_goals (first | assumption | wp_step))
      exact h _ _ _ a1 a2 a3
end
def rSetOf (w : World) : List V → Hp → VK → Prop := fun xs H Q => ∃ (l : Addr) (ns : List Int), xs = [.ref l] ∧ H l = some (.lst (ns.map V.int)) ∧ ns.length ≤ 1000 ∧
  ∀ (p : Addr) (c : Nat), H p = none → c ≤ ns.length → Q (.ref p) (upd H p (SetO w p (fun j => decide (j ∈ ns)) c))
theorem cr_setOf {X : Cx} (hc : X.calm = true) : CallR X (.type "set") (rSetOf X.w) := by
  intro pins s σ H xs us Q I r h
  obtain ⟨l, ns, rfl, hl, hn, q⟩ := h
  rw [Vals.ref1 r]
  obtain ⟨its, rv, pl, _⟩ := I.list (SqL.of hl)
  have hp := I.hok.fresh (Nat.le_refl _)
  refine call_set_list ns (I.ok.hd hc) pl.isList (intsAre_of rv) (by show _ < 4096; omega) fun h' tk c R hc kp => ⟨.ref s.heap.objs.size, _, I.laid (t' := tk) kp (Nat.le_refl _) (setO_new R), rfl, q _ c hp hc⟩
end K86

namespace K86
open PySem PySem.Spec PyProof.Rows L2
section
variable {P : Program} {w : World} {K : PySem.W.Frag} {mg : Str → Option Value} {base : Heap}
theorem le1 : 1 ≤ sizeLine := small8 (by decide)
theorem le3 : 3 ≤ sizeLine := small8 (by decide)
theorem le4 : 4 ≤ sizeLine := small8 (by decide)
theorem le5 : 5 ≤ sizeLine := small8 (by decide)
/-! ### put_steps -/
theorem filt_pair {G : V → (Int × Int) → Prop} : ∀ (os : List (Option V)) (f : Nat → Int × Int), (∀ (i : Nat) v, os[i]? = some (some v) → G v (f i)) → ∃ es, Paired G (os.filterMap id) es ∧ ∀ (i : Nat) v, os[i]? = some (some v) → f i ∈ es
  | [], f, _ => ⟨[], .nil, fun i v h => by simp at h⟩
  | none :: r, f, h => by
    obtain ⟨es, h1, h2⟩ := filt_pair r (fun i => f (i + 1)) fun i v e => h (i + 1) v e
    refine ⟨es, h1, fun i v e => ?_⟩
    cases i with
    | zero => cases e
    | succ i => exact h2 i v e
  | some v :: r, f, h => by
    obtain ⟨es, h1, h2⟩ := filt_pair r (fun i => f (i + 1)) fun i v e => h (i + 1) v e
    refine ⟨f 0 :: es, .cons (h 0 v rfl) h1, fun i u e => ?_⟩
    cases i with
    | zero => exact List.mem_cons_self
    | succ i => exact List.mem_cons_of_mem _ (h2 i u e)
theorem range_ok {k : Nat} (h : k ≤ 8) : -(2 ^ 62) ≤ (k : Int) ∧ (k : Int) < 2 ^ 62 := ⟨by omega, by omega⟩
def spPuts (C : Addr) : Sp := fun vs H Q _ => ∃ (t : Addr) (v : V) (R : Tab) (k d : Nat) (x y : Int), vs = [.ref t, v] ∧ TabAt C H t R ∧ OkTab k R ∧ k ≤ 8 ∧ StepAt k d H v x y ∧
  ∀ (D : Addr) (ws : List V) (es : List (Int × Int)) (H' : Hp), Same H H' → H D = none → H' D = some (.lst ws) → ws.length ≤ k →
    (∀ A, StepAt k d (rst A H) v x y → StepsAt k (d + 1) (rst (fun b => (A b ∨ H b = none) ∧ b ≠ D) H') ws es) →
    (∀ c, Col k c → tb R x c = tb R y c ∨ (tb R x c, tb R y c) ∈ es) → Q (.ref D) H'
theorem ok_Puts (T : Txt K mg) : FnOk P w K mg base CX0 6 T.Puts.f T.Puts.fd ["table", "step"] (spPuts T.C) := by
  have GG : FnOk P w K mg base CX0 4 T.TGet.f T.TGet.fd ["self", "pair"] (spTGet T.C) := ok_TGet T
  have GZ : FnOk P w K mg base CX0 1 T.TSize.f T.TSize.fd ["self"] (spTSize T.C) := ok_TSize T
  refine T.Puts.F.ok scPuts (fun vs H Q E h => ?_) (fun cdv A outer s H vs Q E hr h => ?_)
  · obtain ⟨t, v, R, k, d, x, y, rfl, _⟩ := h
    rfl
  obtain ⟨t, v, R, k, d, x, y, rfl, hT, hk, h8, hs, q⟩ := h
  refine ⟨_, pss_cons (ps_asg (pe_slice sl_tup (pv 1) po_none (po_some pe_int)) (pg_tup rfl (pgs_cons (pg_name (i := 2) scPuts.nd rfl (.inr rfl)) (pgs_cons (pg_name (i := 3) scPuts.nd rfl (.inr rfl)) pgs_nil))))
    (pss_cons (ps_setLc (i := 4) (own := [("c", 5)]) (g := gName 5) (tt := tYes) rfl scPuts.nd rfl rfl (sw_true rfl rfl rfl (by decide +kernel))
        (pi_range1 rfl T.z_range (pa_cons (pe_prop (pv 0) T.clC T.prSize GZ (hr.mono (by decide)) T.TSize.b .nil pass0 rfl) pa_nil))
        (blkOk_by (N := nPuts) (sc := defScope sPuts) (by decide +kernel)) (fun _ _ _ _ _ => pg_name (i := 5) scPuts.nd rfl (Or.inl rfl)) (fun _ _ _ _ _ => pts_nil)
        (fun _ _ _ _ _ => pe_tup (pa_cons (pe_getit T.clC T.getC GG hr T.TGet.b (pv 0) (pe_tup (pa_cons (pv 2) (pa_cons (pv 5) pa_nil))))
          (pa_cons (pe_getit T.clC T.getC GG hr T.TGet.b (pv 0) (pe_tup (pa_cons (pv 3) (pa_cons (pv 5) pa_nil))))
          (pa_cons (pe_tup (pa_cons pe_str (pa_cons (pv 5) (pa_cons (pv 2) (pa_cons (pv 3) (pa_cons (pe_lst (pa_cons (pv 1) pa_nil)) pa_nil)))))) pa_nil)))))
    (pss_one (ps_ret (pe_lc (own := [("found", 6)]) (g := gName 6) rfl scPuts.nd (pi_list (pv 4)) (blkOk_by (N := nPuts) (sc := defScope sPuts) (by decide +kernel))
      (fun _ _ _ _ _ => pg_name (i := 6) scPuts.nd rfl (Or.inl rfl))
      (fun _ _ _ _ _ => pts_one (pt_cmpR op_ne (pe_ix (ixT K rfl) (pv 6) pe_int (fun _ _ => rfl)) (pe_ix (ixT K rfl) (pv 6) pe_int (fun _ _ => rfl)) (nomark _))) (fun _ _ _ _ _ => pv 6))))), ?_⟩
  obtain ⟨p0, q0, rfl, e0⟩ := hs.tup
  obtain ⟨cx, cy⟩ := hs.cols
  -- one, other = step[:2]
  refine ⟨_, rfl, 2, rfl, p0, _, rfl, SqT.of e0, (show ¬ (HT.sIx 3 0 none = 0 ∧ HT.sIx 3 3 (some 2) = 3) by decide), fun p1 hp1 => ?_⟩
  have s1 := same_up (o := HO.tup (cutV [V.int x, V.int y, V.ref q0] none (some 2))) hp1
  refine ⟨p1, _, rfl, SqT.of upd_same, rfl, .int x, [.int y], rfl, .int y, [], rfl, rfl, ?_⟩
  generalize upd H p1 (HO.tup (cutV [V.int x, V.int y, V.ref q0] none (some 2))) = H1 at s1
  have hT1 := hT.mono s1
  obtain ⟨dx, l0, ht, _⟩ := id hT1
  -- the steps, one a colour
  refine ⟨_, rfl, t, dx, _, rfl, ht, t, R, k, rfl, hT1, hk, k, rfl, (range_ok h8).1, (range_ok h8).2, fun D1 hD1 => ?_⟩
  rw [Int.toNat_natCast]
  refine lc_map (n := k) hD1 (Nat.lt_of_le_of_lt h8 (small1000 (by decide))) (fun i z _ => z = .int i)
    (fun i z H' => ∃ a b l, z = .ref a ∧ a ≠ D1 ∧ b ≠ D1 ∧ l ≠ D1 ∧ H1 a = none ∧ H1 b = none ∧ H1 l = none ∧ H' a = some (.tup [.int (tb R x i), .int (tb R y i), .ref b]) ∧
      H' b = some (.tup [.str "put", .int i, .int x, .int y, .ref l]) ∧ H' l = some (.lst [.ref p0]))
    (fun i z H' H'' sb ⟨a, b, l, e1, n1, n2, n3, m1, m2, m3, f1, f2, f3⟩ => ⟨a, b, l, e1, n1, n2, n3, m1, m2, m3, sb _ _ f1 n1, sb _ _ f2 n2, sb _ _ f3 n3⟩)
    (fun i H' hi _ => hi) (fun i H' z H'' hi s ⟨e1, e2⟩ => ⟨by rw [e1]; exact Same.refl _, by rw [e2, Int.zero_add]⟩) (fun H' _ => Nat.le_refl _) ?_ ?_
  · rintro i z H2 hi rfl s2 nD Qe hQ
    have ci : Col k i := ⟨by omega, by omega⟩
    have hT2 := hT1.mono s2
    refine ⟨rfl, _, rfl, _, rfl, _, rfl, tab_end hT2 hk cx ci fun H3 s3 => ⟨_, rfl, _, rfl, _, rfl, tab_end (hT2.mono s3) hk cy ci fun H4 s4 => ?_⟩⟩
    refine ⟨_, rfl, _, rfl, _, rfl, _, rfl, le1, fun l hl => ⟨le5, fun b hb => ⟨le3, fun a ha => ?_⟩⟩⟩
    have s24 := s3.trans s4
    have t1 := same_up (o := HO.lst [V.ref p0]) hl
    have t2 := same_up (o := HO.tup [V.str "put", V.int i, V.int x, V.int y, V.ref l]) hb
    have t3 := same_up (o := HO.tup [V.int (tb R x i), V.int (tb R y i), V.ref b]) ha
    have g3 := s24.trans t1
    have g4 := g3.trans t2
    refine hQ _ _ (g4.trans t3) ⟨a, b, l, rfl, fun z => nD (g4.free (by rw [← z]; exact ha)), fun z => nD (g3.free (by rw [← z]; exact hb)), fun z => nD (s24.free (by rw [← z]; exact hl)),
      (s2.trans g4).free ha, (s2.trans g3).free hb, (s2.trans s24).free hl, upd_same, t3 _ _ upd_same, t3 _ _ (t2 _ _ upd_same)⟩
  · intro ys H2 s2 eD1 hn hy
    -- return [found for found in steps if found[0] != found[1]]
    have at_ : ∀ {i : Nat}, i < k → ∃ a b l, ys[i]? = some (.ref a) ∧ a ≠ D1 ∧ b ≠ D1 ∧ l ≠ D1 ∧ H1 a = none ∧ H1 b = none ∧ H1 l = none ∧ H2 a = some (.tup [.int (tb R x i), .int (tb R y i), .ref b]) ∧
      H2 b = some (.tup [.str "put", .int i, .int x, .int y, .ref l]) ∧ H2 l = some (.lst [.ref p0]) := fun {i} hi => by
      have e := List.getElem?_eq_getElem (l := ys) (i := i) (by omega)
      obtain ⟨a, b, l, e1, r⟩ := hy i _ e
      exact ⟨a, b, l, by rw [e, e1], r⟩
    have sq : ∀ {H' : Hp}, Same H2 H' → SqL K H' D1 ys := fun s => SqL.of (s _ _ eD1)
    refine ⟨_, rfl, D1, rfl, ⟨_, sq (Same.refl _)⟩, fun D hD => lc_filt (n := k) hD (Nat.lt_of_le_of_lt h8 (small1000 (by decide))) (fun i z _ => ys[i]? = some z)
      (fun i o _ => (∃ z, o = some z ∧ ys[i]? = some z ∧ tb R x i ≠ tb R y i) ∨ (o = none ∧ tb R x i = tb R y i)) (fun _ _ _ _ _ p => p)
      (fun i H' hi s => itl_go (sq s) (by omega)) (fun i H' z H'' hi s y => by obtain ⟨e1, e2⟩ := itl_yl (sq s) y; exact ⟨by rw [e1]; exact Same.refl _, e2⟩)
      (fun H' s => by have z := itl_st (sq s); rw [hn] at z; exact z) ?_ ?_⟩
    · rintro i z H3 hi hz s3 nD Qe Qn hQ hN
      obtain ⟨a, b, l, e1, _, _, _, _, _, _, f1, _, _⟩ := at_ hi
      rw [hz] at e1
      cases e1
      have f1' := s3 _ _ f1
      refine ⟨rfl, _, rfl, a, _, _, _, rfl, rfl, SqT.of f1', atI_nat (j := 0) rfl, _, rfl, a, _, _, _, rfl, rfl, SqT.of f1', atI_nat (j := 1) rfl, rfl, _, rfl, ite2 (fun c => ?_) (fun c => ?_)⟩
      · refine ⟨_, rfl, hQ _ _ (Same.refl _) (.inl ⟨_, rfl, hz, fun z => ?_⟩)⟩
        rw [z, decide_eq_true rfl] at c
        cases c
      · refine hN _ (Same.refl _) (.inr ⟨rfl, ?_⟩)
        by_cases z : tb R x i = tb R y i
        · exact z
        · exact (c (by rw [decide_eq_false (fun y => z (V.int.inj y))]; rfl)).elim
    · intro os H3 s3 eD hos ho
      have s13 := s2.trans s3
      obtain ⟨es, hes, hin⟩ := filt_pair (G := fun z e => ∃ i, i < k ∧ ys[i]? = some z ∧ e = (tb R x i, tb R y i)) os (fun i => (tb R x i, tb R y i)) fun i z e => by
        have hi : i < k := by rw [← hos]; exact (List.getElem?_eq_some_iff.mp e).1
        rcases ho i _ e with ⟨z', e1, e2, _⟩ | ⟨e1, _⟩
        · cases e1
          exact ⟨i, hi, e2, rfl⟩
        · cases e1
      refine q D _ es H3 (s1.trans s13) ((s1.trans s2).free hD) eD (by rw [← hos]; exact List.length_filterMap_le _ _) (fun A hA => ?_) (fun c hc => ?_)
      · refine pd_map hes fun z e ⟨i, hi, ez, ee⟩ => ?_
        obtain ⟨a, b, l, e1, _, _, _, m1, m2, m3, f1, f2, f3⟩ := at_ hi
        rw [ez] at e1
        cases e1
        subst ee
        have ci : Col k i := ⟨by omega, by omega⟩
        have mk : ∀ {r : Addr} {o : HO}, H1 r = none → H2 r = some o → rst (fun b => (A b ∨ H b = none) ∧ b ≠ D) H3 r = some o := fun m f => rst_mk ⟨.inr (s1.free m), ne_of_none f hD⟩ (s3 _ _ f)
        refine ⟨a, b, rfl, mk m1 f1, hk.ent _ _ cx ci, hk.ent _ _ cy ci, .inr ⟨i, x, y, l, _, mk m2 f2, ci, cx, cy, mk m3 f3, (by decide : 1 ≤ 8), fun u hu => ?_⟩⟩
        rw [List.mem_singleton.mp hu]
        refine ⟨x, y, hA.mono (rst_up fun b o h e => ⟨⟨.inl h, ?_⟩, s13 _ _ (s1 _ _ e)⟩)⟩
        exact ne_of_none (s2 _ _ (s1 _ _ e)) hD
      · obtain ⟨i, rfl⟩ : ∃ n : Nat, c = n := ⟨c.toNat, by have := hc.1; omega⟩
        have hi : i < k := by have := hc.2; omega
        have e := List.getElem?_eq_getElem (l := os) (i := i) (by omega)
        rcases ho i _ e with ⟨z, e1, _, _⟩ | ⟨_, e2⟩
        · exact .inr (hin i z (by rw [e, e1]))
        · exact .inl e2
end
end K86

namespace K86
open PySem PySem.Spec PyProof.Rows L2
theorem str_ne : ¬ (("test" : Str) = "put") := by decide +kernel
theorem StepAt.uniq {k k' d d' : Nat} {H : Hp} {v : V} {x y x' y' : Int} (h : StepAt k d H v x y) (h' : StepAt k' d' H v x' y') : x = x' ∧ y = y' := by
  obtain ⟨p, q, rfl, e⟩ := h.tup
  obtain ⟨p', q', e1, e'⟩ := h'.tup
  cases e1
  rw [e] at e'
  injection e' with e'
  injection e' with e'
  injection e' with a1 e'
  injection e' with a2 e'
  exact ⟨V.int.inj a1, V.int.inj a2⟩
section
variable {P : Program} {w : World} {K : PySem.W.Frag} {mg : Str → Option Value} {base : Heap}
/-! ### turned -/
def spTurned (d : Nat) : Sp := fun vs H Q _ => ∃ (v : V) (k : Nat) (x y : Int), vs = [v] ∧ StepAt k d H v x y ∧
  ∀ (v' : V) (H' : Hp), Same H H' → (∀ A x y, StepAt k d (rst A H) v x y → StepAt k d (rst (fun b => A b ∨ H b = none) H') v' y x) → Q v' H'
theorem ok_Turned (T : Txt K mg) : ∀ d : Nat, FnOk P w K mg base CX0 d T.Turned.f T.Turned.fd ["step"] (spTurned d)
  | 0 => by
    have no : ∀ vs H Q E, ¬ spTurned 0 vs H Q E := fun vs H Q E h => by
      obtain ⟨v, k, x, y, _, hs, _⟩ := h
      exact hs
    exact ⟨fun vs H Q E h => absurd h (no vs H Q E), fun A outer s H args us vs Q E _ _ _ _ h => absurd h (no vs H Q E)⟩
  | d + 1 => by
    have G : FnOk P w K mg base CX0 d T.Turned.f T.Turned.fd ["step"] (spTurned d) := ok_Turned T d
    refine T.Turned.F.ok scTurned (fun vs H Q E h => ?_) (fun cdv A outer s H vs Q E hr h => ?_)
    · obtain ⟨v, k, x, y, rfl, _⟩ := h
      rfl
    obtain ⟨v, k, x, y, rfl, hs, q⟩ := h
    refine ⟨_, pss_cons (ps_asg (pv 0) (pg_tup rfl (pgs_cons (pg_name (i := 1) scTurned.nd rfl (.inl rfl)) (pgs_cons (pg_name (i := 2) scTurned.nd rfl (.inl rfl)) (pgs_cons (pg_name (i := 3) scTurned.nd rfl (.inl rfl)) pgs_nil)))))
      (pss_cons (ps_if (pt_cmpR op_eq (pe_ix ix_tup (pv 3) pe_int (fun _ _ => rfl)) pe_str (nomark _))
        (pss_one (ps_set (i := 3) scTurned.nd rfl (.inl rfl) (pe_tup (pa_cons pe_str (pa_cons (pe_ix ix_tup (pv 3) pe_int (fun _ _ => rfl)) (pa_cons (pe_ix ix_tup (pv 3) pe_int (fun _ _ => rfl)) (pa_cons (pe_ix ix_tup (pv 3) pe_int (fun _ _ => rfl))
          (pa_cons (pe_lc (own := [("inner", 4)]) (g := gName 4) (tt := tYes) rfl scTurned.nd (pi_list (pe_revL (pe_ix ix_tup (pv 3) pe_int (fun _ _ => rfl)))) (blkOk_by (N := nTurned) (sc := defScope sTurned) (by decide +kernel))
            (fun _ _ _ _ _ => pg_name (i := 4) scTurned.nd rfl (Or.inl rfl)) (fun _ _ _ _ _ => pts_nil) (fun _ _ _ _ _ => pe_call G hr rfl T.Turned.g T.Turned.F.kp T.Turned.b .nil pass0 (pa_cons (pv 4) pa_nil))) pa_nil)))))))) pss_nil)
      (pss_one (ps_ret (pe_tup (pa_cons (pv 2) (pa_cons (pv 1) (pa_cons (pv 3) pa_nil))))))), ?_⟩
    obtain ⟨p0, q0, rfl, e0, cx, cy, hs⟩ := hs
    refine ⟨_, rfl, p0, _, rfl, SqT.of e0, rfl, _, _, rfl, _, _, rfl, _, _, rfl, rfl, ?_⟩
    rcases hs with ⟨a, b, c, e1, ca, cb, cc⟩ | ⟨c, u, z, l, ws, e1, cc, cu, cz, e2, l2, st⟩
    · refine ⟨_, rfl, q0, _, _, _, rfl, rfl, SqT.of e1, atI_nat (j := 0) rfl, rfl, _, rfl, ?_⟩
      rw [decide_eq_false (fun z => str_ne (V.str.inj z))]
      refine iteF ⟨_, rfl, _, rfl, _, rfl, le3, fun p hp => ?_⟩
      have s := same_up (o := HO.tup [V.int y, V.int x, V.ref q0]) hp
      refine q _ _ s fun A x' y' hA => ?_
      obtain ⟨p1, q1, f0, f1, dx, dy, hc⟩ := hA
      cases f0
      obtain ⟨_, g1⟩ := of_rst f1
      rw [e0] at g1
      cases g1
      refine ⟨p, q0, rfl, rst_mk (.inr hp) upd_same, cy, cx, .inl ⟨a, b, c, ?_, ca, cb, cc⟩⟩
      have aq : A q0 := by
        rcases hc with ⟨_, _, _, g, _⟩ | ⟨_, _, _, _, _, g, _⟩
        · exact (of_rst g).1
        · exact (of_rst g).1
      exact rst_mk (.inl aq) (s _ _ e1)
    · refine ⟨_, rfl, q0, _, _, _, rfl, rfl, SqT.of e1, atI_nat (j := 0) rfl, rfl, _, rfl, ?_⟩
      rw [decide_eq_true rfl]
      refine iteT ⟨_, rfl, q0, _, _, _, rfl, rfl, SqT.of e1, atI_nat (j := 1) rfl, _, rfl, q0, _, _, _, rfl, rfl, SqT.of e1, atI_nat (j := 3) rfl, _, rfl, q0, _, _, _, rfl, rfl, SqT.of e1, atI_nat (j := 2) rfl, ?_⟩
      refine ⟨_, rfl, q0, _, _, _, rfl, rfl, SqT.of e1, atI_nat (j := 4) rfl, l, ws, rfl, SqL.of e2, fun r hr' => ?_⟩
      have s1 := same_up (o := HO.lst ws.reverse) hr'
      have er : (upd H r (.lst ws.reverse)) r = some (.lst ws.reverse) := upd_same
      generalize upd H r (.lst ws.reverse) = H1 at s1 er ⊢
      have lr : ws.reverse.length = ws.length := List.length_reverse
      have sq : ∀ {H' : Hp}, Same H1 H' → SqL K H' r ws.reverse := fun s => SqL.of (s _ _ er)
      refine ⟨r, rfl, ⟨_, sq (Same.refl _)⟩, fun D hD => lc_map (n := ws.length) hD (Nat.lt_of_le_of_lt l2 (small1000 (by decide))) (fun i z _ => ws.reverse[i]? = some z)
        (fun i v H' => ∃ z, ws.reverse[i]? = some z ∧ ∀ A x y, StepAt k d (rst A H) z x y → StepAt k d (rst (fun b => (A b ∨ H b = none) ∧ b ≠ D) H') v y x)
        (fun i v H' H'' sb ⟨z, ez, h⟩ => ⟨z, ez, fun A x y hA => (h A x y hA).mono (rst_up fun b o hb e => ⟨hb, sb _ _ e hb.2⟩)⟩)
        (fun i H' hi s => itl_go (sq s) (by omega)) (fun i H' z H'' hi s y => by obtain ⟨e1, e2⟩ := itl_yl (sq s) y; exact ⟨by rw [e1]; exact Same.refl _, e2⟩)
        (fun H' s => by have z := itl_st (sq s); rw [lr] at z; exact z) ?_ ?_⟩
      · rintro i z H2 hi ez s2 nD Qe hQ
        obtain ⟨x', y', hz⟩ := st z (List.mem_reverse.mp (List.mem_of_getElem? ez))
        refine ⟨rfl, _, rfl, z, k, x', y', rfl, hz.mono (s1.trans s2), fun v' H3 s3 hv => hQ _ _ s3 ⟨z, ez, fun A x y hA => ?_⟩⟩
        have hDn : H D = none := s1.free hD
        have h2 : StepAt k d (rst (fun b => (A b ∨ H b = none) ∧ b ≠ D) H2) z x y := hA.mono (rst_up fun b o h e => ⟨⟨.inl h, ne_of_none e hDn⟩, s2 _ _ (s1 _ _ e)⟩)
        refine (hv _ x y h2).mono (rst_up fun b o h e => ⟨?_, e⟩)
        rcases h with h | h
        · exact h
        · exact ⟨.inr ((s1.trans s2).free h), fun z => nD (by rw [← z]; exact h)⟩
      · intro ys H2 s2 eD hn hy
        refine ⟨le5, fun q1 hq1 => ?_⟩
        have t1 := same_up (o := HO.tup [V.str "put", V.int c, V.int z, V.int u, V.ref D]) hq1
        refine ⟨_, rfl, _, rfl, _, rfl, le3, fun p1 hp1 => ?_⟩
        have t2 := same_up (o := HO.tup [V.int y, V.int x, V.ref q1]) hp1
        have s02 := s1.trans s2
        refine q _ _ ((s02.trans t1).trans t2) fun A x' y' hA => ?_
        obtain ⟨p2, q2, f0, f1, dx, dy, hc⟩ := hA
        cases f0
        obtain ⟨_, g1⟩ := of_rst f1
        rw [e0] at g1
        cases g1
        have sub : ∀ w ∈ ws, ∃ x' y', StepAt k d (rst A H) w x' y' := by
          rcases hc with ⟨_, _, _, g, _⟩ | ⟨_, _, _, _, _, g, _, _, _, g2, _, g3⟩
          · have z1 := (of_rst g).2
            rw [e1] at z1
            injection z1 with z1
            injection z1 with z1
            injection z1 with z1 z2
            exact (str_ne (V.str.inj z1).symm).elim
          · have z1 := (of_rst g).2
            rw [e1] at z1
            cases z1
            have z2 := (of_rst g2).2
            rw [e2] at z2
            cases z2
            exact g3
        have nD : H D = none := s1.free hD
        refine ⟨p1, q1, rfl, rst_mk (.inr ((s02.trans t1).free hp1)) upd_same, cy, cx, .inr ⟨c, z, u, D, ys, rst_mk (.inr (s02.free hq1)) (t2 _ _ upd_same), cc, cz, cu, rst_mk (.inr nD) (t2 _ _ (t1 _ _ eD)), by omega, fun v hv => ?_⟩⟩
        obtain ⟨i, hi, rfl⟩ := List.getElem_of_mem hv
        obtain ⟨z', ez, h⟩ := hy i _ (List.getElem?_eq_getElem hi)
        obtain ⟨x', y', hz⟩ := sub z' (List.mem_reverse.mp (List.mem_of_getElem? ez))
        exact ⟨y', x', (h A x' y' hz).mono (rst_up fun b o hb e => ⟨hb.1, t2 _ _ (t1 _ _ e)⟩)⟩
end
end K86

namespace K86
open PySem PySem.Spec PyProof.Rows L2
/-! ### a Forest's attributes -/
theorem ne_ts : ¬ (("own_table" : Str) = "own_steps") := by decide +kernel
theorem ne_tn : ¬ (("own_table" : Str) = "own_names") := by decide +kernel
theorem ne_sn : ¬ (("own_steps" : Str) = "own_names") := by decide +kernel
theorem ne_st : ¬ (("own_steps" : Str) = "own_table") := by decide +kernel
theorem ne_nt : ¬ (("own_names" : Str) = "own_table") := by decide +kernel
theorem ne_ns : ¬ (("own_names" : Str) = "own_steps") := by decide +kernel
def ffs (t s n : Addr) : List (Str × V) := putF "own_names" (.ref n) (putF "own_steps" (.ref s) (putF "own_table" (.ref t) []))
theorem ffs_steps (t s n : Addr) : (ffs t s n).lookup ("own_steps" : Str) = some (.ref s) := by
  unfold ffs
  rw [lookup_putF, if_neg ne_sn, lookup_putF, if_pos rfl]
theorem ffs_names (t s n : Addr) : (ffs t s n).lookup ("own_names" : Str) = some (.ref n) := by
  unfold ffs
  rw [lookup_putF, if_pos rfl]
theorem ffs_no (t s n : Addr) {m : Str} (h1 : ¬ m = "own_table") (h2 : ¬ m = "own_steps") (h3 : ¬ m = "own_names") : (ffs t s n).lookup m = none := by
  unfold ffs
  rw [lookup_putF, if_neg h3, lookup_putF, if_neg h2, lookup_putF, if_neg h1]
  rfl
theorem put_ne {f g : Str} {v x : V} {r : List (Str × V)} (h : ¬ g = f) : putF f v ((g, x) :: r) = (g, x) :: putF f v r := by
  show (if g = f then _ else _) = _
  rw [if_neg h]
theorem put_eq {f : Str} {v x : V} {r : List (Str × V)} : putF f v ((f, x) :: r) = (f, v) :: r := by
  show (if f = f then _ else _) = _
  rw [if_pos rfl]
theorem put_nil {f : Str} {v : V} : putF f v [] = [(f, v)] := rfl
theorem ffs_eq (t s n : Addr) : ffs t s n = [(("own_table" : Str), V.ref t), (("own_steps" : Str), V.ref s), (("own_names" : Str), V.ref n)] := by
  unfold ffs
  rw [put_nil, put_ne ne_ts, put_nil, put_ne ne_tn, put_ne ne_sn, put_nil]
theorem ffs_put (t s n n' : Addr) : putF "own_names" (.ref n') (ffs t s n) = ffs t s n' := by
  rw [ffs_eq, ffs_eq, put_ne ne_tn, put_ne ne_sn, put_eq]
theorem in_two (z p q : Int) : inV (.int z) [.int p, .int q] = decide (z = p ∨ z = q) := by
  have e : inV (.int z) [.int p, .int q] = ((p == z) || ((q == z) || false)) := rfl
  rw [e, Bool.eq_iff_iff]
  simp
  omega
section
variable {P : Program} {w : World} {K : PySem.W.Frag} {mg : Str → Option Value} {base : Heap}
/-! ### join -/
def spJoin (C : Addr) : Sp := fun vs H Q _ => ∃ (f t s n dx p q : Addr) (ss : List V) (ns : List Int) (k : Nat) (x y : Int), vs = [.ref f, .ref p] ∧ H f = some (.ins C dx (ffs t s n)) ∧ H s = some (.lst ss) ∧ ss.length ≤ 100 ∧ Ints H n ns ∧ ns.length = k ∧ k ≤ 8 ∧
  H p = some (.tup [.int x, .int y, .ref q]) ∧ Col k x ∧ Col k y ∧ (nm ns x = nm ns y → ∀ H', Same H H' → Q (.bl false) H') ∧
  (nm ns x ≠ nm ns y → ∀ (n' : Addr) (H' : Hp), (∀ b o, H b = some o → b ≠ f → b ≠ s → H' b = some o) → H n' = none → H' f = some (.ins C dx (ffs t s n')) → H' s = some (.lst (ss ++ [.ref p])) → Ints H' n' (mgN (nm ns x) (nm ns y) ns) → Q (.bl true) H')
theorem ok_FJoin (T : Txt K mg) : FnOk P w K mg base CX0 1 T.FJoin.f T.FJoin.fd ["self", "step"] (spJoin T.D) := by
  refine T.FJoin.F.ok scFJoin (fun vs H Q E h => ?_) (fun cdv A outer s H vs Q E hr h => ?_)
  · obtain ⟨f, t, s, n, dx, p, q, ss, ns, k, x, y, rfl, _⟩ := h
    rfl
  obtain ⟨f, t, s, n, dx, p, q, ss, ns, k, x, y, rfl, hf, hs, hsl, hn, hl, h8, hp, cx, cy, q0, q1⟩ := h
  refine ⟨_, pss_cons (ps_asg (pe_tup (pa_cons (pe_ix ix_list (pe_fld (pv 0) rfl) (pe_ix ix_tup (pv 1) pe_int (fun _ _ => rfl)) (fun _ _ => rfl)) (pa_cons (pe_ix ix_list (pe_fld (pv 0) rfl) (pe_ix ix_tup (pv 1) pe_int (fun _ _ => rfl)) (fun _ _ => rfl)) pa_nil)))
      (pg_tup rfl (pgs_cons (pg_name (i := 2) scFJoin.nd rfl (.inr rfl)) (pgs_cons (pg_name (i := 3) scFJoin.nd rfl (.inr rfl)) pgs_nil))))
    (pss_cons (ps_if (pt_cmpR op_eq (pv 2) (pv 3) (nomark _)) (pss_one (ps_ret pe_bl)) pss_nil)
    (pss_cons (ps_fld (pv 0) (pe_lc (own := [("name", 4)]) (g := gName 4) (tt := tYes) rfl scFJoin.nd (pi_list (pe_fld (pv 0) rfl)) (blkOk_by (N := nFJoin) (sc := defScope sFJoin) (by decide +kernel))
        (fun _ _ _ _ _ => pg_name (i := 4) scFJoin.nd rfl (Or.inl rfl)) (fun _ _ _ _ _ => pts_nil)
        (fun _ _ _ _ _ => pe_ifExp (pt_cmpR (oIn K rfl) (pv 4) (pe_tup (pa_cons (pv 2) (pa_cons (pv 3) pa_nil))) (by rfl)) (pe_callB (call_min2 rfl) rfl T.z_min b_min (pa_cons (pv 2) (pa_cons (pv 3) pa_nil))) (pv 4))) rfl)
    (pss_cons (ps_expr (pe_bm PySem.F.plainAttrs_list PySem.F.slot_list_append PySem.F.type_list_append mt_append (pe_fld (pv 0) rfl) (pa_cons (pv 1) pa_nil)))
    (pss_one (ps_ret pe_bl))))), ?_⟩
  have ax : atI (ns.map V.int) x = some (.int (nm ns x)) := at_of (j := x.toNat) (by have := cx.1; omega) (getI (nm_get hl cx))
  have ay : atI (ns.map V.int) y = some (.int (nm ns y)) := at_of (j := y.toNat) (by have := cy.1; omega) (getI (nm_get hl cy))
  refine ⟨_, rfl, f, T.D, dx, _, _, rfl, hf, T.clD, T.nNames, ffs_names _ _ _, _, rfl, p, _, _, _, rfl, rfl, SqT.of hp, atI_nat (j := 0) rfl, n, _, _, _, rfl, rfl, SqL.of hn, ax,
    _, rfl, f, T.D, dx, _, _, rfl, hf, T.clD, T.nNames, ffs_names _ _ _, _, rfl, p, _, _, _, rfl, rfl, SqT.of hp, atI_nat (j := 1) rfl, n, _, _, _, rfl, rfl, SqL.of hn, ay, le2, fun tp htp => ?_⟩
  have s1 := same_up (o := HO.tup [V.int (nm ns x), V.int (nm ns y)]) htp
  refine ⟨tp, _, rfl, SqT.of upd_same, rfl, _, _, rfl, _, _, rfl, rfl, ?_⟩
  generalize upd H tp (.tup [V.int (nm ns x), V.int (nm ns y)]) = H1 at s1 ⊢
  refine ⟨_, rfl, _, rfl, rfl, _, rfl, ite2 (fun c => ?_) (fun c => ?_)⟩
  · exact q0 (V.int.inj (of_decide_eq_true c)) _ s1
  have hne : nm ns x ≠ nm ns y := fun z => c (decide_eq_true (by rw [z]))
  have hf1 := s1 _ _ hf
  have hn1 := s1 _ _ hn
  have hln : (ns.map V.int).length = k := by rw [List.length_map, hl]
  have sq : ∀ {H' : Hp}, Same H1 H' → SqL K H' n (ns.map V.int) := fun s => SqL.of (s _ _ hn1)
  refine ⟨_, rfl, f, T.D, dx, _, _, rfl, hf1, T.clD, T.nNames, ffs_names _ _ _, n, rfl, ⟨_, sq (Same.refl _)⟩, fun D hD => lc_map (n := k) hD (Nat.lt_of_le_of_lt h8 (small1000 (by decide)))
    (fun i z _ => ∃ m, ns[i]? = some m ∧ z = .int m) (fun i v _ => ∃ m, ns[i]? = some m ∧ v = .int (if m = nm ns x ∨ m = nm ns y then (if nm ns y < nm ns x then nm ns y else nm ns x) else m)) (fun _ _ _ _ _ p => p)
    (fun i H' hi s => itl_go (sq s) (by omega)) (fun i H' z H'' hi s y => by obtain ⟨e1, e2⟩ := itl_yl (sq s) y; exact ⟨by rw [e1]; exact Same.refl _, of_getI e2⟩)
    (fun H' s => by have z := itl_st (sq s); rw [hln] at z; exact z) ?_ ?_⟩
  · rintro i z H2 hi ⟨m, em, rfl⟩ s2 nD Qe hQ
    refine ⟨rfl, _, rfl, _, rfl, _, rfl, le2, fun r hr' => ⟨r, _, rfl, .inr (SqT.of upd_same), rfl, rfl, _, rfl, ?_⟩⟩
    have sr := same_up (o := HO.tup [V.int (nm ns x), V.int (nm ns y)]) hr'
    show (if (inV (.int m) [.int (nm ns x), .int (nm ns y)]) = true then _ else _)
    rw [in_two]
    by_cases hm : m = nm ns x ∨ m = nm ns y
    · rw [decide_eq_true hm]
      refine iteT ⟨_, rfl, _, rfl, _, _, rfl, hQ _ _ sr ⟨m, em, ?_⟩⟩
      rw [if_pos hm]
    · rw [decide_eq_false hm]
      refine iteF ⟨_, rfl, hQ _ _ sr ⟨m, em, ?_⟩⟩
      rw [if_neg hm]
  · intro ys H2 s2 eD hny hy
    have ey : ys = (mgN (nm ns x) (nm ns y) ns).map V.int := by
      refine List.ext_getElem? fun i => ?_
      by_cases hi : i < k
      · obtain ⟨m, e1, e2⟩ := hy i _ (List.getElem?_eq_getElem (l := ys) (i := i) (by omega))
        rw [List.getElem?_eq_getElem (by omega), e2]
        unfold mgN
        rw [List.getElem?_map, List.getElem?_map, e1]
        rfl
      · rw [List.getElem?_eq_none (by omega), List.getElem?_eq_none (by rw [List.length_map, mgN_len]; omega)]
    have s02 := s1.trans s2
    have hf2 := s02 _ _ hf
    have fs : f ≠ s := ne_of hf hs (fun z => by cases z)
    have fD : f ≠ D := ne_of_none hf1 hD
    have sD : s ≠ D := ne_of_none (s1 _ _ hs) hD
    refine ⟨_, rfl, f, T.D, dx, _, rfl, hf2, T.clD, T.nNames, by rw [ffs_eq]; show 3 < 1000; decide, ?_⟩
    refine ⟨_, rfl, f, T.D, dx, _, V.ref s, rfl, upd_same, T.clD, T.nSteps, by rw [ffs_put]; exact ffs_steps _ _ _, .inl ⟨rfl, _, SqL.of (by rw [upd_ne fs.symm]; exact s02 _ _ hs)⟩, _, rfl, s, ss, _, rfl, rfl, by rw [upd_ne fs.symm]; exact s02 _ _ hs, small1000 (by omega), ?_⟩
    refine q1 hne D _ (fun b o e nf ns' => by rw [upd_ne ns', upd_ne nf]; exact s02 _ _ e) (s1.free hD) (by rw [upd_ne fs, upd_same, ffs_put]) upd_same ?_
    rw [Ints, upd_ne sD.symm, upd_ne fD.symm, eD, ey]
end
end K86

namespace K86
open PySem PySem.Spec PyProof.Rows L2
/-- a forest that is ready -/
def ForAt (C : Addr) (k : Nat) (R : Tab) (H : Hp) (f : Addr) (ss : List V) (es : List (Int × Int)) (ns : List Int) : Prop :=
  ∃ dx t s n, H f = some (.ins C dx (ffs t s n)) ∧ H s = some (.lst ss) ∧ Ints H n ns ∧ StepsAt k 7 H ss es ∧ FInv k R es ns [] ∧ ss.length ≤ 6
theorem ForAt.mono {C : Addr} {k : Nat} {R : Tab} {H H' : Hp} {f : Addr} {ss : List V} {es : List (Int × Int)} {ns : List Int} (s : Same H H') (h : ForAt C k R H f ss es ns) : ForAt C k R H' f ss es ns := by
  obtain ⟨dx, t, s', n, h1, h2, h3, h4, h5, h6⟩ := h
  exact ⟨dx, t, s', n, s _ _ h1, s _ _ h2, s _ _ h3, StepsAt.mono s h4, h5, h6⟩
theorem sum_range {k : Nat} (h : k ≤ 4) : ((List.range k).map fun i => ((i : Nat) : Int)).sum ≤ 6 := by
  match k, h with
  | 0, _ => decide
  | 1, _ => decide
  | 2, _ => decide
  | 3, _ => decide
  | 4, _ => decide
theorem seq0 {n : Nat} (h : 0 < n) : seqIndex? 0 n = some 0 := PySem.StrLaws.seqIndex_nonneg (by decide) (by omega)
theorem TabAt.not {C E f t dx : Addr} {H : Hp} {R : Tab} {fs : List (Str × V)} (hf : H f = some (.ins E dx fs)) (ft : f ≠ t) (h : TabAt C H t R) : TabAt C (rst (Not f) H) t R := by
  obtain ⟨d, l, h1, as, h2, h3, h4⟩ := h
  have lst : ∀ {b : Addr} {xs : List V}, H b = some (.lst xs) → b ≠ f := fun e z => by
    rw [z, hf] at e
    cases e
  exact ⟨d, l, rst_mk ft.symm h1, as, rst_mk (lst h2) h2, h3, fun i r row e1 e2 => rst_mk (lst (h4 i r row e1 e2)) (h4 i r row e1 e2)⟩
section
variable {P : Program} {w : World} {K : PySem.W.Frag} {mg : Str → Option Value} {base : Heap}
/-! ### Forest.__init__ -/
def spFInit (C D : Addr) : Sp := fun vs H Q _ => ∃ (f t dx : Addr) (R : Tab) (k : Nat), vs = [.ref f, .ref t] ∧ H f = some (.ins D dx []) ∧ TabAt C H t R ∧ OkTab k R ∧ k ≤ 4 ∧
  ∀ (H' : Hp) ss es ns, SameBut f H H' → ForAt D k R (rst (fun b => H b = none ∨ b = f) H') f ss es ns → Q .non H'
theorem ok_FInit (T : Txt K mg) : FnOk P w K mg base CX0 7 T.FInit.f T.FInit.fd ["self", "table"] (spFInit T.C T.D) := by
  have GT : FnOk P w K mg base CX0 6 T.Tests.f T.Tests.fd ["table"] (spTests T.C) := ok_Tests T
  have GP : FnOk P w K mg base CX0 6 T.Puts.f T.Puts.fd ["table", "step"] (spPuts T.C) := ok_Puts T
  have GZ : FnOk P w K mg base CX0 1 T.TSize.f T.TSize.fd ["self"] (spTSize T.C) := ok_TSize T
  have GJ : FnOk P w K mg base CX0 1 T.FJoin.f T.FJoin.fd ["self", "step"] (spJoin T.D) := ok_FJoin T
  refine T.FInit.F.ok scFInit (fun vs H Q E h => ?_) (fun cdv A outer s0 H vs Q E hr h => ?_)
  · obtain ⟨f, t, dx, R, k, rfl, _⟩ := h
    rfl
  obtain ⟨f, t, dx, R, k, rfl, hf, hT, hk, h4, q⟩ := h
  have h8 : k ≤ 8 := by omega
  refine ⟨_, pss_cons (ps_fld (pv 0) (pv 1) rfl) (pss_cons (ps_fld (pv 0) (pe_lst pa_nil) rfl)
    (pss_cons (ps_fld (pv 0) (pe_listRg rfl rfl T.z_list (prg_1 rfl T.z_range (pe_prop (pv 1) T.clC T.prSize GZ (hr.mono (by decide)) T.TSize.b .nil pass0 rfl))) rfl)
    (pss_cons (ps_set (i := 2) scFInit.nd rfl (.inl rfl) (pe_call GT hr rfl T.Tests.g T.Tests.F.kp T.Tests.b .nil pass0 (pa_cons (pv 1) pa_nil)))
    (pss_one (ps_while PassesOwn.never (pt_truth (pv 2) (by intro _; rfl))
      (pss_cons (ps_set (i := 3) scFInit.nd rfl (.inl rfl) (pe_bm PySem.F.plainAttrs_list PySem.F.slot_list_pop PySem.F.type_list_pop mt_popAt (pv 2) (pa_cons pe_int pa_nil)))
      (pss_one (ps_if (pt_val (pe_meth (pv 0) T.clD T.mJoin GJ (hr.mono (by decide)) T.FJoin.b .nil pass0 (pa_cons (pv 3) pa_nil)))
        (pss_one (ps_expr (pe_bm PySem.F.plainAttrs_list PySem.F.slot_list_extend PySem.F.type_list_extend mt_extend (pv 2) (pa_cons (pe_call GP hr rfl T.Puts.g T.Puts.F.kp T.Puts.b .nil pass0 (pa_cons (pv 1) (pa_cons (pv 3) pa_nil))) pa_nil)))) pss_nil)))))))), ?_⟩
  obtain ⟨dt, lt, htab, _⟩ := id hT
  have ft : f ≠ t := fun z => by
    rw [z, htab] at hf
    injection hf with hf
    injection hf with _ _ e
    have := congrArg (List.lookup ("own_rows" : Str)) e
    rw [tfs_rows] at this
    cases this
  -- the three attributes
  refine ⟨_, rfl, _, rfl, f, T.D, dx, [], rfl, hf, T.clD, T.nTab, by decide, ?_⟩
  refine ⟨Nat.zero_le _, fun s hs => ?_⟩
  have fs : f ≠ s := ne_of_none upd_same hs
  refine ⟨_, rfl, f, T.D, dx, _, rfl, by rw [upd_ne fs, upd_same], T.clD, T.nSteps, by show 1 < 1000; decide, ?_⟩
  have hTn := TabAt.not hf ft hT
  have sb3 : SameBut f H (upd (upd (upd H f (.ins T.D dx (putF "own_table" (.ref t) []))) s (.lst [])) f (.ins T.D dx (putF "own_steps" (.ref s) (putF "own_table" (.ref t) [])))) := fun b o e ne => by
    have es : b ≠ s := fun z => by
      rw [z] at e ne
      rw [upd_ne ne] at hs
      rw [hs] at e
      cases e
    rw [upd_ne ne, upd_ne es, upd_ne ne]
    exact e
  have tabOf : ∀ {H' : Hp}, SameBut f H H' → TabAt T.C H' t R := fun sb => (hTn.mono (not_but sb)).mono rst_le
  have hT3 := tabOf sb3
  obtain ⟨dt3, lt3, ht3, _⟩ := id hT3
  have e3f : (upd (upd (upd H f (.ins T.D dx (putF "own_table" (.ref t) []))) s (.lst [])) f (.ins T.D dx (putF "own_steps" (.ref s) (putF "own_table" (.ref t) [])))) f = some (.ins T.D dx (putF "own_steps" (.ref s) (putF "own_table" (.ref t) []))) := upd_same
  have e3s : (upd (upd (upd H f (.ins T.D dx (putF "own_table" (.ref t) []))) s (.lst [])) f (.ins T.D dx (putF "own_steps" (.ref s) (putF "own_table" (.ref t) [])))) s = some (.lst []) := by rw [upd_ne fs.symm, upd_same]
  have ns : H s = none := by rw [upd_ne fs.symm] at hs; exact hs
  generalize upd (upd (upd H f (.ins T.D dx (putF "own_table" (.ref t) []))) s (.lst [])) f (.ins T.D dx (putF "own_steps" (.ref s) (putF "own_table" (.ref t) []))) = H3 at sb3 hT3 ht3 e3f e3s ⊢
  refine ⟨_, rfl, t, dt3, _, rfl, ht3, t, R, k, rfl, hT3, hk, k, rfl, rg_ok h8, fun n hn => ?_⟩
  have fn : f ≠ n := ne_of_none e3f hn
  have sn : s ≠ n := ne_of_none e3s hn
  have nn : H n = none := by
    cases z : H n with
    | none => rfl
    | some o => rw [sb3 _ _ z fn.symm] at hn; cases hn
  refine ⟨_, rfl, f, T.D, dx, _, rfl, by rw [upd_ne fn]; exact e3f, T.clD, T.nNames, by rw [put_nil, put_ne ne_ts, put_nil]; show 2 < 1000; decide, ?_⟩
  have sb5 : SameBut f H (upd (upd H3 n (.lst (rgV 0 k))) f (.ins T.D dx (putF "own_names" (.ref n) (putF "own_steps" (.ref s) (putF "own_table" (.ref t) []))))) := fun b o e ne => by
    rw [upd_ne ne, upd_ne (fun z => by rw [z, nn] at e; cases e)]
    exact sb3 _ _ e ne
  have e5f : (upd (upd H3 n (.lst (rgV 0 k))) f (.ins T.D dx (putF "own_names" (.ref n) (putF "own_steps" (.ref s) (putF "own_table" (.ref t) []))))) f = some (.ins T.D dx (ffs t s n)) := upd_same
  have e5s : (upd (upd H3 n (.lst (rgV 0 k))) f (.ins T.D dx (putF "own_names" (.ref n) (putF "own_steps" (.ref s) (putF "own_table" (.ref t) []))))) s = some (.lst []) := by rw [upd_ne fs.symm, upd_ne sn]; exact e3s
  have e5n : Ints (upd (upd H3 n (.lst (rgV 0 k))) f (.ins T.D dx (putF "own_names" (.ref n) (putF "own_steps" (.ref s) (putF "own_table" (.ref t) []))))) n ((List.range k).map fun i => ((i : Nat) : Int)) := by rw [Ints, upd_ne fn.symm, upd_same, rg_ints]
  generalize upd (upd H3 n (.lst (rgV 0 k))) f (.ins T.D dx (putF "own_names" (.ref n) (putF "own_steps" (.ref s) (putF "own_table" (.ref t) [])))) = H5 at sb5 e5f e5s e5n ⊢
  -- waiting = test_steps(table)
  refine ⟨_, rfl, t, R, k, rfl, tabOf sb5, hk, h8, fun F ws0 es0 H6 s6 hF eF lF st6 cov => ?_⟩
  have Fs : F ≠ s := fun z => by rw [z, e5s] at hF; cases hF
  have Ff : F ≠ f := fun z => by rw [z, e5f] at hF; cases hF
  have nF0 : n ≠ F := fun z => by rw [← z, e5n] at hF; cases hF
  have off : ∀ {b : Addr}, H5 b = none → H b = none := fun {b} hb => by
    cases z : H b with
    | none => rfl
    | some o =>
      by_cases hbf : b = f
      · rw [hbf, e5f] at hb; cases hb
      · rw [sb5 _ _ z hbf] at hb; cases hb
  have nF : H F = none := off hF
  have af : ∀ {b : Addr}, H b = none → b ≠ f := fun hb z => by rw [z, hf] at hb; cases hb
  refine ⟨fun m σ H2 => ∃ v3, σ = [some (.ref f), some (.ref t), some (.ref F), v3] ∧ SameBut f H H2 ∧ ∃ n ss ws es ps ns, H2 f = some (.ins T.D dx (ffs t s n)) ∧ H2 s = some (.lst ss) ∧ H2 F = some (.lst ws) ∧ Ints H2 n ns ∧
      H n = none ∧ n ≠ F ∧ n ≠ s ∧ StepsAt k (ss.length + 1) (rst (fun b => H b = none ∧ b ≠ s ∧ b ≠ F) H2) ss es ∧ StepsAt k (ss.length + 1) (rst (fun b => H b = none ∧ b ≠ s ∧ b ≠ F) H2) ws ps ∧
      FInv k R es ns ps ∧ (ss.length : Int) + ns.sum ≤ 6 ∧ ws.length ≤ 512 + ss.length * 8 ∧ m = ns.sum.toNat * 100 + ws.length,
    ⟨_, none, rfl, fun b o e ne => s6 _ _ (sb5 _ _ e ne), n, [], ws0, [], es0, _, s6 _ _ e5f, s6 _ _ e5s, eF, s6 _ _ e5n, nn, nF0, sn.symm, .nil, StepsAt.mono (rst_up fun b o h e => ⟨⟨off h.1, (fun z => by rw [z, e5s] at h; cases h.1), h.2⟩, e⟩) st6,
      FInv.start hk (fun e he => ?_) cov, by have := sum_range h4; simpa using this, by omega, rfl⟩, ?_⟩
  · obtain ⟨v, _, hv⟩ := pd_mem' st6 he
    exact hv.cols
  rintro m σ H2 ⟨v3, rfl, sb2, n, ss, ws, es, ps, ns, e2f, e2s, e2F, e2n, nn, nF', ns', st1, st2, fi, hsum, hlen, rfl⟩
  have hnn := sum_nonneg fi.nn
  refine ⟨_, rfl, _, .inl ⟨ws, SqL.of e2F, rfl⟩, ?_⟩
  cases st2 with
  | nil =>
    refine iteF (q H2 ss es ns sb2 ⟨dx, t, s, n, rst_mk (.inr rfl) e2f, rst_mk (.inl ‹H s = none›) e2s, rst_mk (.inl nn) e2n, ?_, fi, by omega⟩)
    exact StepsAt.le (by omega) (StepsAt.mono (rst_up fun b o h e => ⟨.inl h.1, e⟩) st1)
  | @cons v e ws ps hv st2 =>
    obtain ⟨x, y⟩ := e
    have sAll : ∀ {H' : Hp}, (∀ b o, H2 b = some o → b ≠ f → b ≠ s → b ≠ F → H' b = some o) → Same (rst (fun b => H b = none ∧ b ≠ s ∧ b ≠ F) H2) (rst (fun b => H b = none ∧ b ≠ s ∧ b ≠ F) H') := fun hh =>
      rst_up fun b o h e => ⟨h, hh _ _ e (af h.1) h.2.1 h.2.2⟩
    refine iteT ?_
    -- step = waiting.pop(0)
    obtain ⟨p, q', rfl, hp⟩ := (hv.mono rst_le).tup
    have Fp : p ≠ F := ne_of hp e2F (fun z => by cases z)
    have e3f : (upd H2 F (.lst ws)) f = some (.ins T.D dx (ffs t s n)) := by rw [upd_ne Ff.symm]; exact e2f
    have e3s : (upd H2 F (.lst ws)) s = some (.lst ss) := by rw [upd_ne Fs.symm]; exact e2s
    have e3n : Ints (upd H2 F (.lst ws)) n ns := by rw [Ints, upd_ne nF']; exact e2n
    have e3p : (upd H2 F (.lst ws)) p = some (.tup [.int x, .int y, .ref q']) := by rw [upd_ne Fp]; exact hp
    have e3F : (upd H2 F (.lst ws)) F = some (.lst ws) := upd_same
    have k3 : ∀ b o, H2 b = some o → b ≠ F → (upd H2 F (.lst ws)) b = some o := fun b o e ne => by rw [upd_ne ne]; exact e
    refine ⟨fun σ' H' => ∃ m', m' < ns.sum.toNat * 100 + (V.ref p :: ws).length ∧ _, fun σ' H' z => z, ?_⟩
    refine ⟨_, rfl, .inl ⟨rfl, _, SqL.of e2F⟩, F, _, 0, 0, .ref p, rfl, rfl, e2F, by decide, by decide, seq0 (Nat.succ_pos _), rfl, ?_⟩
    rw [show (V.ref p :: ws).eraseIdx 0 = ws from rfl]
    generalize upd H2 F (.lst ws) = H3 at e3f e3s e3n e3p e3F k3 ⊢
    have sb3 : SameBut f H H3 := fun b o e ne => k3 _ _ (sb2 _ _ e ne) (fun z => by rw [z, nF] at e; cases e)
    have cxy := hv.cols
    refine ⟨_, rfl, f, dx, _, rfl, e3f, ffs_no _ _ _ (by decide +kernel) (by decide +kernel) (by decide +kernel), _, rfl, f, t, s, n, dx, p, q', ss, ns, k, x, y, rfl, e3f, e3s, by omega, e3n, fi.len, h8, e3p, cxy.1, cxy.2, fun heq H4 s4 => ?_, fun hne n' H4 k4 hn' e4f e4s e4n => ?_⟩
    · -- nothing to join
      refine ⟨false, rfl, iteF ⟨_, ?_, some (.ref p), rfl, fun b o e ne => s4 _ _ (sb3 _ _ e ne), n, ss, ws, es, ps, ns, s4 _ _ e3f, s4 _ _ e3s, s4 _ _ e3F, s4 _ _ e3n, nn, nF', ns', StepsAt.mono (sAll fun b o e _ _ n3 => s4 _ _ (k3 _ _ e n3)) st1,
        StepsAt.mono (sAll fun b o e _ _ n3 => s4 _ _ (k3 _ _ e n3)) st2, fi.skip heq, hsum, by rw [List.length_cons] at hlen; omega, rfl⟩⟩
      rw [List.length_cons]
      omega
    · -- joined: waiting.extend(put_steps(table, step))
      have sb4 : SameBut f H H4 := fun b o e ne => k4 _ _ (sb3 _ _ e ne) ne (fun z => by rw [z, ‹H s = none›] at e; cases e)
      have e4F := k4 _ _ e3F Ff Fs
      have s24 := sAll (H' := H4) fun b o e n1 n2 n3 => k4 _ _ (k3 _ _ e n3) n1 n2
      refine ⟨true, rfl, iteT ?_⟩
      refine ⟨_, rfl, .inl ⟨rfl, _, SqL.of e4F⟩, _, rfl, _, rfl, t, .ref p, R, k, _, x, y, rfl, tabOf sb4, hk, h8, (hv.mono s24).mono rst_le, fun D2 zs qs H5' s5 hD2 eD2 lz stz cvz => ?_⟩
      have e5F := s5 _ _ e4F
      refine ⟨F, D2, ws, zs, rfl, rfl, e5F, eD2, small8 (by rw [List.length_cons] at hlen; omega), ?_⟩
      have k5 : ∀ b o, H4 b = some o → b ≠ F → (upd H5' F (.lst (ws ++ zs))) b = some o := fun b o e ne => by rw [upd_ne ne]; exact s5 _ _ e
      have e6f := k5 _ _ e4f Ff.symm
      have e6s := k5 _ _ e4s Fs.symm
      have n4F : n' ≠ F := fun z => by rw [z, e3F] at hn'; cases hn'
      have n4s : n' ≠ s := fun z => by rw [z, e3s] at hn'; cases hn'
      have n4f : n' ≠ f := fun z => by rw [z, e3f] at hn'; cases hn'
      have nn4 : H n' = none := by
        cases z : H n' with
        | none => rfl
        | some o => rw [sb3 _ _ z n4f] at hn'; cases hn'
      have offs : ∀ {b : Addr}, H4 b = none → H b = none ∧ b ≠ s ∧ b ≠ F := fun {b} hb => by
        refine ⟨?_, (fun z => by rw [z, e4s] at hb; cases hb), (fun z => by rw [z, e4F] at hb; cases hb)⟩
        cases z : H b with
        | none => rfl
        | some o =>
          by_cases hbf : b = f
          · rw [hbf, e4f] at hb; cases hb
          · rw [sb4 _ _ z hbf] at hb; cases hb
      have s26 : Same (rst (fun b => H b = none ∧ b ≠ s ∧ b ≠ F) H2) (rst (fun b => H b = none ∧ b ≠ s ∧ b ≠ F) (upd H5' F (.lst (ws ++ zs)))) := s24.trans (rst_up fun b o h e => ⟨h, k5 _ _ e h.2.2⟩)
      have stz' : StepsAt k (ss.length + 2) (rst (fun b => H b = none ∧ b ≠ s ∧ b ≠ F) (upd H5' F (.lst (ws ++ zs)))) zs qs := StepsAt.mono (rst_up fun b o h e => by
        have hh : H b = none ∧ b ≠ s ∧ b ≠ F := by
          rcases h.1 with h | h
          · exact h
          · exact offs h
        exact ⟨hh, by rw [upd_ne hh.2.2]; exact e⟩) (stz _ (hv.mono s24))
      have ls : (ss ++ [V.ref p]).length = ss.length + 1 := by rw [List.length_append]; rfl
      have lt := fi.sum_lt hne
      have fj := fi.join hk hne (fun e he => (pd_mem' stz' he).elim fun v z => z.2.cols) cvz
      have nn6 := sum_nonneg fj.nn
      refine ⟨_, ?_, some (.ref p), rfl, fun b o e ne => k5 _ _ (sb4 _ _ e ne) (fun z => by rw [z, nF] at e; cases e), n', ss ++ [.ref p], ws ++ zs, es ++ [(x, y)], ps ++ qs, _, e6f, e6s, upd_same, by rw [Ints, upd_ne n4F]; exact s5 _ _ e4n, nn4, n4F, n4s,
        by rw [ls]; exact pd_app (StepsAt.le (by omega) (StepsAt.mono s26 st1)) (.cons ((hv.mono s26).le (by omega)) .nil), by rw [ls]; exact pd_app (StepsAt.le (by omega) (StepsAt.mono s26 st2)) stz', fj, by rw [ls]; omega, ?_, rfl⟩
      · rw [List.length_append, List.length_cons]
        omega
      · rw [List.length_append, ls]
        rw [List.length_cons] at hlen
        omega
end
end K86

namespace K86
open PySem PySem.Spec PyProof.Rows L2
/-! ### how many colours are not keys yet -/
theorem filt_lt {p p' : Nat → Bool} (h : ∀ x, p' x = true → p x = true) {c : Nat} (h1 : p c = true) (h2 : p' c = false) : ∀ {l : List Nat}, c ∈ l → (l.filter p').length < (l.filter p).length
  | [], hc => by cases hc
  | a :: r, hc => by
    have le : ∀ {l : List Nat}, (l.filter p').length ≤ (l.filter p).length := by
      intro l
      induction l with
      | nil => exact Nat.le_refl _
      | cons b t ih =>
        rw [List.filter_cons, List.filter_cons]
        by_cases q' : p' b = true
        · rw [if_pos q', if_pos (h b q')]
          exact Nat.succ_le_succ ih
        · rw [if_neg q']
          split
          · exact Nat.le_succ_of_le ih
          · exact ih
    rw [List.filter_cons, List.filter_cons]
    rcases List.mem_cons.mp hc with e | e
    · subst e
      rw [if_neg (by rw [h2]; exact Bool.false_ne_true), if_pos h1]
      exact Nat.lt_succ_of_le le
    · have ih := filt_lt h h1 h2 e
      by_cases q' : p' a = true
      · rw [if_pos q', if_pos (h a q')]
        exact Nat.succ_lt_succ ih
      · rw [if_neg q']
        split
        · exact Nat.lt_succ_of_lt ih
        · exact ih
def rem (k : Nat) (cs : List Int) : Nat := ((List.range k).filter fun i => decide (((i : Nat) : Int) ∉ cs)).length
theorem rem_le (k : Nat) (cs : List Int) : rem k cs ≤ k := by
  have := List.length_filter_le (fun i : Nat => decide (((i : Nat) : Int) ∉ cs)) (List.range k)
  rw [List.length_range] at this
  exact this
theorem rem_add {k : Nat} {cs : List Int} {c : Int} (hc : Col k c) (h : c ∉ cs) : rem k (cs ++ [c]) < rem k cs := by
  have hn : c.toNat < k := by have := hc.1; have := hc.2; omega
  have e : ((c.toNat : Nat) : Int) = c := by have := hc.1; omega
  refine filt_lt (c := c.toNat) (fun x hx => ?_) ?_ ?_ (List.mem_range.mpr hn)
  · have := of_decide_eq_true hx
    exact decide_eq_true fun z => this (List.mem_append_left _ z)
  · exact decide_eq_true (by rw [e]; exact h)
  · exact decide_eq_false fun z => z (by rw [e]; exact List.mem_append_right _ (List.mem_singleton.mpr rfl))
theorem rem_one {k : Nat} {c : Int} (hc : Col k c) : 1 + rem k [c] ≤ k := by
  have h := rem_add (k := k) (cs := []) hc (by simp)
  have h2 := rem_le k []
  rw [List.nil_append] at h
  omega
/-- the keys of the chains -/
abbrev Chains := List (Int × Addr)
def kvOf (cs : Chains) : List (Key × V) := cs.map fun p => (Sum.inl p.1, V.ref p.2)
theorem val_none {cs : Chains} {c : Int} (h : c ∉ cs.map (·.1)) : valV (kvOf cs) (Sum.inl c) = none := by
  cases e : valV (kvOf cs) (Sum.inl c) with
  | none => rfl
  | some v =>
    have m := valV_in e
    obtain ⟨p, hp, e1⟩ := List.mem_map.mp m
    obtain ⟨q, hq, e2⟩ := List.mem_map.mp hp
    subst e2
    cases e1
    exact (h (List.mem_map.mpr ⟨q, hq, rfl⟩)).elim
theorem val_some {cs : Chains} {c : Int} (h : c ∈ cs.map (·.1)) : ∃ l, valV (kvOf cs) (Sum.inl c) = some (.ref l) ∧ (c, l) ∈ cs := by
  cases e : valV (kvOf cs) (Sum.inl c) with
  | none =>
    refine (valV_not e ?_).elim
    obtain ⟨q, hq, e2⟩ := List.mem_map.mp h
    exact List.mem_map.mpr ⟨(Sum.inl q.1, V.ref q.2), List.mem_map.mpr ⟨q, hq, rfl⟩, by rw [e2]⟩
  | some v =>
    unfold valV at e
    cases f : (kvOf cs).find? (fun kv => decide (kv.1 = Sum.inl c)) with
    | none => rw [f] at e; cases e
    | some kv =>
      rw [f] at e
      cases e
      have hm := List.mem_of_find?_eq_some f
      have hk0 : decide (kv.1 = Sum.inl c) = true := List.find?_some (p := fun kv : Key × V => decide (kv.1 = Sum.inl c)) f
      have hk := of_decide_eq_true hk0
      obtain ⟨q, hq, e2⟩ := List.mem_map.mp hm
      subst e2
      cases hk
      exact ⟨q.2, rfl, hq⟩
theorem val_iff {cs : Chains} {c : Int} : (valV (kvOf cs) (Sum.inl c)).isSome = decide (c ∈ cs.map (·.1)) := by
  by_cases h : c ∈ cs.map (·.1)
  · obtain ⟨l, e, _⟩ := val_some h
    rw [e, decide_eq_true h]
    rfl
  · rw [val_none h, decide_eq_false h]
    rfl
section
variable {P : Program} {w : World} {K : PySem.W.Frag} {mg : Str → Option Value} {base : Heap}
theorem pd_of {α β : Type} {F : α → β → Prop} : ∀ {l : List α} {m : List β}, l.length = m.length → (∀ (i : Nat) a b, l[i]? = some a → m[i]? = some b → F a b) → Paired F l m
  | [], [], _, _ => .nil
  | [], _ :: _, h, _ => by cases h
  | _ :: _, [], h, _ => by cases h
  | a :: l, b :: m, h, f => .cons (f 0 a b rfl rfl) (pd_of (Nat.succ.inj h) fun i x y e1 e2 => f (i + 1) x y e1 e2)
/-! ### names -/
def spFNames (C : Addr) : Sp := fun vs H Q _ => ∃ (f : Addr) (k : Nat) (R : Tab) (ss : List V) (es : List (Int × Int)) (ns : List Int), vs = [.ref f] ∧ ForAt C k R H f ss es ns ∧
  ∀ (l : Addr) (H' : Hp), Same H H' → H l = none → Ints H' l ns → Q (.ref l) H'
theorem ok_FNames (T : Txt K mg) : FnOk P w K mg base CX0 1 T.FNames.f T.FNames.fd ["self"] (spFNames T.D) := by
  refine T.FNames.F.ok scFNames (fun vs H Q E h => ?_) (fun cdv A outer s0 H vs Q E hr h => ?_)
  · obtain ⟨f, k, R, ss, es, ns, rfl, _⟩ := h
    rfl
  obtain ⟨f, k, R, ss, es, ns, rfl, ⟨dx, t, s, n, hf, hs, hn, _⟩, q⟩ := h
  refine ⟨_, pss_one (ps_ret (pe_callTy call_list_of rfl T.z_list b_list (pa_cons (pe_fld (pv 0) rfl) pa_nil))), ?_⟩
  exact ⟨_, rfl, f, T.D, dx, _, V.ref n, rfl, hf, T.clD, T.nNames, ffs_names _ _ _, n, _, rfl, .inl (SqL.of hn), fun l hl => q l _ (same_up hl) hl upd_same⟩
/-! ### chain -/
def spChain (C : Addr) : Sp := fun vs H Q _ => ∃ (f : Addr) (k : Nat) (R : Tab) (ss : List V) (es : List (Int × Int)) (ns : List Int) (a b : Int), vs = [.ref f, .int a, .int b] ∧ ForAt C k R H f ss es ns ∧ k ≤ 8 ∧ Col k a ∧ Col k b ∧ nm ns a = nm ns b ∧
  ∀ (l : Addr) (zs : List V) (H' : Hp), Same H H' → H l = none → H' l = some (.lst zs) → zs.length ≤ 8 →
    (∀ A, StepsAt k 7 (rst A H) ss es → ∀ z ∈ zs, ∃ x y, StepAt k 7 (rst (fun b => A b ∨ H b = none) H') z x y) → Q (.ref l) H'
abbrev keysOf (cs : Chains) : List Int := cs.map (·.1)
/-- the chains and what waits, over the heap H at the entry -/
structure CI (H : Hp) (k : Nat) (ss : List V) (es : List (Int × Int)) (a : Int) (cd F : Addr) (cs : Chains) (ws : List Int) (H2 : Hp) : Prop where
  same : Same H H2
  dict : H2 cd = some (.dK (kvOf cs))
  wait : H2 F = some (.lst (ws.map V.int))
  ch : ∀ p ∈ cs, Col k p.1 ∧ ∃ zs, H2 p.2 = some (.lst zs) ∧ p.2 ≠ F ∧ H p.2 = none ∧ zs.length + 1 ≤ cs.length ∧
    ∀ A, StepsAt k 7 (rst A H) ss es → ∀ z ∈ zs, ∃ x y, StepAt k 7 (rst (fun b => (A b ∨ H b = none) ∧ b ≠ F ∧ b ≠ cd) H2) z x y
  wk : ∀ w ∈ ws, w ∈ keysOf cs
  ak : a ∈ keysOf cs
  cnt : cs.length + rem k (keysOf cs) ≤ k
  wl : ws.length ≤ cs.length
theorem CI.step {H : Hp} {k : Nat} {ss : List V} {es : List (Int × Int)} {a : Int} {cd F : Addr} {cs : Chains} {ws ws' : List Int} {H2 H3 : Hp} (I : CI H k ss es a cd F cs ws H2) (nc : H cd = none) (nF : H F = none)
    (kp : ∀ b o, H2 b = some o → b ≠ F → b ≠ cd → H3 b = some o) (d : H3 cd = some (.dK (kvOf cs))) (wt : H3 F = some (.lst (ws'.map V.int))) (wk : ∀ w ∈ ws', w ∈ keysOf cs) (wl : ws'.length ≤ cs.length) : CI H k ss es a cd F cs ws' H3 where
  same := fun b o e => kp _ _ (I.same _ _ e) (ne_of_none e nF) (ne_of_none e nc)
  dict := d
  wait := wt
  ch := fun p hp => by
    obtain ⟨c1, zs, e1, e2, e3, e4, e5⟩ := I.ch p hp
    exact ⟨c1, zs, kp _ _ e1 e2 (ne_of e1 I.dict (fun z => by cases z)), e2, e3, e4, fun A hA z hz => by
      obtain ⟨x, y, h⟩ := e5 A hA z hz
      exact ⟨x, y, h.mono (rst_up fun b o h e => ⟨h, kp _ _ e h.2.1 h.2.2⟩)⟩⟩
  wk := wk
  ak := I.ak
  cnt := I.cnt
  wl := wl
theorem ok_FChain (T : Txt K mg) : FnOk P w K mg base CX0 8 T.FChain.f T.FChain.fd ["self", "start", "end"] (spChain T.D) := by
  have GU : FnOk P w K mg base CX0 7 T.Turned.f T.Turned.fd ["step"] (spTurned 7) := ok_Turned T 7
  refine T.FChain.F.ok scFChain (fun vs H Q E h => ?_) (fun cdv A outer s0 H vs Q E hr h => ?_)
  · obtain ⟨f, k, R, ss, es, ns, a, b, rfl, _⟩ := h
    rfl
  obtain ⟨f, k, R, ss, es, ns, a, b, rfl, ⟨dx, t, s, n, hf, hs, hn, hst, fi, hl6⟩, h8, ca, cb, hab, q⟩ := h
  have hu := hu_of hr
  refine ⟨_, pss_cons (ps_par (i := 3) (j := 4) rfl scFChain.nd rfl rfl (by decide) rfl rfl
      (pa_cons (pe_disp (pps_cons (pv 1) (pe_lst pa_nil) pps_nil) (by rfl) (by rfl) (fun z => by cases z) (by decide)) (pa_cons (pe_lst (pa_cons (pv 1) pa_nil)) pa_nil)) (by rfl))
    (pss_cons (ps_while PassesOwn.never (pt_truth (pv 4) (by intro _; rfl))
      (pss_cons (ps_set (i := 5) scFChain.nd rfl (.inl rfl) (pe_bm PySem.F.plainAttrs_list PySem.F.slot_list_pop PySem.F.type_list_pop mt_popAt (pv 4) (pa_cons pe_int pa_nil)))
      (pss_one (ps_for PassesOwn.never rfl (pi_list (pe_op op_cat (pe_fld (pv 0) rfl) (pe_lc (own := [("step", 6)]) (g := gName 6) (tt := tYes) rfl scFChain.nd (pi_list (pe_fld (pv 0) rfl)) (blkOk_by (N := nFChain) (sc := defScope sFChain) (by decide +kernel))
          (fun _ _ _ _ _ => pg_name (i := 6) scFChain.nd rfl (Or.inl rfl)) (fun _ _ _ _ _ => pts_nil) (fun _ _ _ _ _ => pe_call GU hr rfl T.Turned.g T.Turned.F.kp T.Turned.b .nil pass0 (pa_cons (pv 6) pa_nil)))))
        (pg_name (i := 6) scFChain.nd rfl (.inl rfl))
        (pss_one (ps_if (PW.pt (pw_and (pt_cmpR op_eq (pe_ix ix_tup (pv 6) pe_int (fun _ _ => rfl)) (pv 5) (nomark _)) (pw_and1 (pt_cmp (pc_dnotin hu (pe_ix ix_tup (pv 6) pe_int (fun _ _ => rfl)) (pv 3))))))
          (pss_cons (ps_dput hu (pv 3) (pe_ix ix_tup (pv 6) pe_int (fun _ _ => rfl)) (pe_lst (StX.pa_star (pe_dget hu (pv 3) (pv 5) (fun _ _ => rfl)) (pa_cons (pv 6) pa_nil))) rfl)
          (pss_one (ps_expr (pe_bm PySem.F.plainAttrs_list PySem.F.slot_list_append PySem.F.type_list_append mt_append (pv 4) (pa_cons (pe_ix ix_tup (pv 6) pe_int (fun _ _ => rfl)) pa_nil))))) pss_nil))))))
    (pss_one (ps_ret (pe_dget hu (pv 3) (pv 2) (fun _ _ => rfl))))), ?_⟩
  -- chains, waiting = {start: []}, [start]
  refine fun cd hcd => ⟨_, rfl, Nat.zero_le _, fun l0 hl0 => ?_⟩
  have cl : cd ≠ l0 := ne_of_none upd_same hl0
  refine ⟨by rw [upd_ne cl, upd_same], [(Sum.inl a, .ref l0)], rfl, (by decide : 1 ≤ 15), _, rfl, le1, fun F hF => ⟨_, _, rfl, ?_⟩⟩
  have nl0 : H l0 = none := (same_up hcd).free hl0
  have t1 : Same H (upd (upd (upd H cd (.dK [])) l0 (.lst [])) cd (.dK (mergeK [] [(Sum.inl a, .ref l0)]))) := fun b o e => by
    rw [upd_ne (ne_of_none e hcd), upd_ne (ne_of_none e nl0), upd_ne (ne_of_none e hcd)]
    exact e
  have t2 := same_up (o := HO.lst [V.int a]) hF
  have e1c : (upd (upd (upd (upd H cd (.dK [])) l0 (.lst [])) cd (.dK (mergeK [] [(Sum.inl a, .ref l0)]))) F (.lst [.int a])) cd = some (.dK (kvOf [(a, l0)])) := t2 _ _ upd_same
  have e1l : (upd (upd (upd (upd H cd (.dK [])) l0 (.lst [])) cd (.dK (mergeK [] [(Sum.inl a, .ref l0)]))) F (.lst [.int a])) l0 = some (.lst []) := t2 _ _ (by rw [upd_ne cl.symm, upd_same])
  have e1F : (upd (upd (upd (upd H cd (.dK [])) l0 (.lst [])) cd (.dK (mergeK [] [(Sum.inl a, .ref l0)]))) F (.lst [.int a])) F = some (.lst [.int a]) := upd_same
  have nF : H F = none := t1.free hF
  have lF : l0 ≠ F := fun z => by rw [← z, upd_ne cl.symm, upd_same] at hF; cases hF
  have s1 := t1.trans t2
  generalize upd (upd (upd (upd H cd (.dK [])) l0 (.lst [])) cd (.dK (mergeK [] [(Sum.inl a, .ref l0)]))) F (.lst [.int a]) = H1 at s1 e1c e1l e1F ⊢
  have cF : cd ≠ F := fun z => by rw [z, e1F] at e1c; cases e1c
  have hlen : ss.length = es.length := pd_len hst
  have I1 : CI H k ss es a cd F [(a, l0)] [a] H1 := ⟨s1, e1c, e1F, fun p hp => by
      rw [List.mem_singleton.mp hp]
      exact ⟨ca, [], e1l, lF, nl0, Nat.le_refl _, fun A _ z hz => by cases hz⟩, fun w hw => hw, List.mem_singleton.mpr rfl, rem_one ca, Nat.le_refl _⟩
  refine ⟨fun m σ H2 => ∃ v5 v6 cs ws, σ = [some (.ref f), some (.int a), some (.int b), some (.ref cd), some (.ref F), v5, v6] ∧ CI H k ss es a cd F cs ws H2 ∧
      (∀ c ∈ keysOf cs, c ∈ ws ∨ ∀ e ∈ es, (e.1 = c → e.2 ∈ keysOf cs) ∧ (e.2 = c → e.1 ∈ keysOf cs)) ∧ m = ws.length + rem k (keysOf cs),
    ⟨_, none, none, [(a, l0)], [a], rfl, I1, fun c hc => .inl hc, rfl⟩, ?_⟩
  rintro m σ H2 ⟨v5, v6, cs, ws, rfl, I2, cl2, rfl⟩
  refine ⟨_, rfl, _, .inl ⟨_, SqL.of I2.wait, rfl⟩, ?_⟩
  cases ws with
  | nil =>
    -- return chains[end]
    refine iteF ?_
    have hb : b ∈ keysOf cs := fi.reach ca cb (fun c hc e he => by
      rcases cl2 c hc with h | h
      · cases h
      · exact h e he) I2.ak hab
    obtain ⟨l, ev, hm⟩ := val_some hb
    obtain ⟨_, zs, ez, _, nl, hz, hst2⟩ := I2.ch _ hm
    have hcnt := I2.cnt
    have g : DGet H2 cd (.int b) (some (.ref l)) := by
      have z := DGet.k (k := Sum.inl b) I2.dict
      rw [ev] at z
      exact z
    refine ⟨_, rfl, _, rfl, cd, .ref l, rfl, g, q l zs H2 I2.same nl ez (by omega) fun A hA z hz => ?_⟩
    obtain ⟨x, y, h⟩ := hst2 A hA z hz
    exact ⟨x, y, h.mono (rst_up fun b o h e => ⟨h.1, e⟩)⟩
  | cons c0 ws =>
    refine iteT ?_
    have hc0 : c0 ∈ keysOf cs := I2.wk c0 List.mem_cons_self
    have I3 : CI H k ss es a cd F cs ws (upd H2 F (.lst (ws.map V.int))) := I2.step hcd nF (fun b o e n1 _ => by rw [upd_ne n1]; exact e) (by rw [upd_ne cF]; exact I2.dict) upd_same (fun w hw => I2.wk w (List.mem_cons_of_mem _ hw)) (by have := I2.wl; rw [List.length_cons] at this; omega)
    refine ⟨fun σ' H' => ∃ m', m' < (c0 :: ws).length + rem k (keysOf cs) ∧ _, fun σ' H' z => z, ?_⟩
    refine ⟨_, rfl, .inl ⟨rfl, _, SqL.of I2.wait⟩, F, _, 0, 0, .int c0, rfl, rfl, I2.wait, by decide, by decide, seq0 (Nat.succ_pos _), rfl, ?_⟩
    rw [show ((c0 :: ws).map V.int).eraseIdx 0 = ws.map V.int from rfl]
    generalize upd H2 F (.lst (ws.map V.int)) = H3 at I3 ⊢
    have e3f := I3.same _ _ hf
    have e3s := I3.same _ _ hs
    have Hst : StepsAt k 7 (rst (fun _ => True) H) ss es := StepsAt.mono (rst_to fun b o e => ⟨trivial, e⟩) hst
    -- the turned steps
    have sq : ∀ {H' : Hp}, Same H3 H' → SqL K H' s ss := fun z => SqL.of (z _ _ e3s)
    refine ⟨_, rfl, f, T.D, dx, _, V.ref s, rfl, e3f, T.clD, T.nSteps, ffs_steps _ _ _, _, rfl, f, T.D, dx, _, V.ref s, rfl, e3f, T.clD, T.nSteps, ffs_steps _ _ _, s, rfl, ⟨_, sq (Same.refl _)⟩, fun D1 hD1 => ?_⟩
    have nD1 : H D1 = none := I3.same.free hD1
    have D1F : D1 ≠ F := fun z => by rw [z, I3.wait] at hD1; cases hD1
    have D1c : D1 ≠ cd := fun z => by rw [z, I3.dict] at hD1; cases hD1
    refine lc_map (n := ss.length) hD1 (small1000 (by omega)) (fun i z _ => ss[i]? = some z)
      (fun i v H' => ∃ z e, ss[i]? = some z ∧ es[i]? = some e ∧ ∀ A, StepAt k 7 (rst A H) z e.1 e.2 → StepAt k 7 (rst (fun b => (A b ∨ H b = none) ∧ b ≠ F ∧ b ≠ cd ∧ b ≠ D1) H') v e.2 e.1)
      (fun i v H' H'' sb ⟨z, e, g1, g2, g3⟩ => ⟨z, e, g1, g2, fun A hA => (g3 A hA).mono (rst_up fun b o h e => ⟨h, sb _ _ e h.2.2.2⟩)⟩)
      (fun i H' hi s => itl_go (sq s) hi) (fun i H' z H'' hi s y => by obtain ⟨e1, e2⟩ := itl_yl (sq s) y; exact ⟨by rw [e1]; exact Same.refl _, e2⟩) (fun H' s => itl_st (sq s)) ?_ ?_
    · rintro i z H4 hi ez s4 nD Qe hQ
      obtain ⟨e, ee, hz⟩ := pd_get hst ez
      have sH := I3.same.trans s4
      refine ⟨rfl, _, rfl, z, k, e.1, e.2, rfl, hz.mono sH, fun v' H5 s5 hv => hQ _ _ s5 ⟨z, e, ez, ee, fun A hA => ?_⟩⟩
      have h2 : StepAt k 7 (rst (fun b => (A b ∨ H b = none) ∧ b ≠ F ∧ b ≠ cd ∧ b ≠ D1) H4) z e.1 e.2 := hA.mono (rst_up fun b o h g => ⟨⟨.inl h, ne_of_none g nF, ne_of_none g hcd, ne_of_none g nD1⟩, sH _ _ g⟩)
      refine (hv _ _ _ h2).mono (rst_up fun b o h g => ⟨?_, g⟩)
      rcases h with h | h
      · exact h
      · have h3 : H3 b = none := s4.free h
        exact ⟨.inr (sH.free h), (fun z => by rw [z, I3.wait] at h3; cases h3), (fun z => by rw [z, I3.dict] at h3; cases h3), fun z => nD (by rw [← z]; exact h)⟩
    intro ts H4 s4 eD1 hts hte
    refine ⟨s, D1, ss, ts, rfl, rfl, s4 _ _ e3s, eD1, small8 (by omega), fun L hL => ?_⟩
    have u4 := same_up (o := HO.lst (ss ++ ts)) hL
    have sH4 := (I3.same.trans s4).trans u4
    have YP : Paired (fun v (e : Int × Int) => ∀ A, StepsAt k 7 (rst A H) ss es → StepAt k 7 (rst (fun b => (A b ∨ H b = none) ∧ b ≠ F ∧ b ≠ cd) (upd H4 L (.lst (ss ++ ts)))) v e.1 e.2) (ss ++ ts) (es ++ es.map fun e => (e.2, e.1)) := by
      have one : Paired (fun v (e : Int × Int) => ∀ A, StepsAt k 7 (rst A H) ss es → StepAt k 7 (rst (fun b => (A b ∨ H b = none) ∧ b ≠ F ∧ b ≠ cd) (upd H4 L (.lst (ss ++ ts)))) v e.1 e.2) ss es := by
        refine pd_of hlen fun i v e e1 e2 A hA => ?_
        obtain ⟨e', e3, h⟩ := pd_get hA e1
        rw [e2] at e3
        cases e3
        exact h.mono (rst_up fun b o h g => ⟨⟨.inl h, ne_of_none g nF, ne_of_none g hcd⟩, sH4 _ _ g⟩)
      refine pd_app one (pd_of (by rw [hts, List.length_map, hlen]) fun i v e e1 e2 A hA => ?_)
      obtain ⟨z, e', g1, g2, g3⟩ := hte i v e1
      obtain ⟨e'', g4, h⟩ := pd_get hA g1
      rw [g2] at g4
      cases g4
      rw [List.getElem?_map, g2] at e2
      cases e2
      exact (g3 A h).mono (rst_up fun b o h g => ⟨⟨h.1, h.2.1, h.2.2.1⟩, u4 _ _ g⟩)
    have I5 : CI H k ss es a cd F cs ws (upd H4 L (.lst (ss ++ ts))) := I3.step hcd nF (fun b o e _ _ => u4 _ _ (s4 _ _ e)) (u4 _ _ (s4 _ _ I3.dict)) (u4 _ _ (s4 _ _ I3.wait)) I3.wk I3.wl
    have eL : (upd H4 L (.lst (ss ++ ts))) L = some (.lst (ss ++ ts)) := upd_same
    have LF : L ≠ F := fun z => by rw [z, s4 _ _ I3.wait] at hL; cases hL
    have Lc : L ≠ cd := fun z => by rw [z, s4 _ _ I3.dict] at hL; cases hL
    generalize upd H4 L (.lst (ss ++ ts)) = H5 at YP I5 eL ⊢
    have yl : (ss ++ ts).length ≤ 12 := by rw [List.length_append]; omega
    refine ⟨L, rfl, ⟨_, SqL.of eL⟩, for_list (K := K) (a := L) (xs := ss ++ ts) (fun i σ H6 => ∃ v6 cs' ws', σ = [some (.ref f), some (.int a), some (.int b), some (.ref cd), some (.ref F), some (.int c0), v6] ∧ CI H k ss es a cd F cs' ws' H6 ∧
        (∀ b o, H5 b = some o → b ≠ F → b ≠ cd → H6 b = some o) ∧ c0 ∈ keysOf cs' ∧ (∀ c ∈ keysOf cs', c = c0 ∨ c ∈ ws' ∨ ∀ e ∈ es, (e.1 = c → e.2 ∈ keysOf cs') ∧ (e.2 = c → e.1 ∈ keysOf cs')) ∧
        (∀ (j : Nat) e, j < i → (es ++ es.map fun e => (e.2, e.1))[j]? = some e → e.1 = c0 → e.2 ∈ keysOf cs') ∧ ws'.length + rem k (keysOf cs') ≤ ws.length + rem k (keysOf cs))
      ⟨v6, cs, ws, rfl, I5, fun b o e _ _ => e, hc0, fun c hc => by
        rcases cl2 c hc with h | h
        · rcases List.mem_cons.mp h with h | h
          · exact .inl h
          · exact .inr (.inl h)
        · exact .inr (.inr h), fun j e h => absurd h (Nat.not_lt_zero _), Nat.le_refl _⟩
      (fun i σ H6 _ ⟨_, _, _, _, _, kp, _⟩ => SqL.of (kp _ _ eL LF Lc)) ?_ ?_⟩
    · rintro i v σ H6 hv ⟨v6', cs', ws', rfl, I6, kp, hc0', cl6, pr6, ms6⟩
      obtain ⟨e, ee, hstep⟩ := pd_get YP hv
      obtain ⟨x, y⟩ := e
      have hs5 := (hstep _ Hst).mono (H' := H6) (fun b o g => by
        obtain ⟨g1, g2⟩ := of_rst g
        exact kp _ _ g2 g1.2.1 g1.2.2)
      obtain ⟨p, q', rfl, ep⟩ := hs5.tup
      obtain ⟨cx, cy⟩ := hs5.cols
      have hcnt := I6.cnt
      have hrem := rem_le k (keysOf cs')
      refine ⟨_, rfl, p, _, _, _, rfl, rfl, SqT.of ep, atI_nat (j := 0) rfl, _, rfl, rfl, _, rfl, ite2 (fun h1 => ?_) (fun h1 => ?_)⟩
      · have hx : x = c0 := V.int.inj (of_decide_eq_true h1)
        refine ⟨_, rfl, p, _, _, _, rfl, rfl, SqT.of ep, atI_nat (j := 1) rfl, _, rfl, cd, _, rfl, DGet.k (k := Sum.inl y) I6.dict, _, rfl, ?_⟩
        rw [val_iff]
        by_cases hy : y ∈ keysOf cs'
        · rw [decide_eq_true hy]
          refine iteF ⟨_, cs', ws', rfl, I6, kp, hc0', cl6, fun j e hj g hg => ?_, ms6⟩
          by_cases hji : j < i
          · exact pr6 j e hji g hg
          · obtain rfl : j = i := by omega
            rw [ee] at g
            cases g
            exact hy
        · rw [decide_eq_false hy]
          -- chains[step[1]] = [*chains[colour], step]; waiting.append(step[1])
          obtain ⟨l, ev, hm⟩ := val_some hc0'
          obtain ⟨_, zs, ez, zF, nl, hzl, hz⟩ := I6.ch _ hm
          have g : DGet H6 cd (.int c0) (some (.ref l)) := by
            have z := DGet.k (k := Sum.inl c0) I6.dict
            rw [ev] at z
            exact z
          have hlt : rem k (keysOf cs' ++ [y]) < rem k (keysOf cs') := rem_add cy hy
          refine iteT ⟨_, rfl, _, rfl, cd, .ref l, rfl, g, l, zs, rfl, .inr (SqL.of ez), _, rfl, small8 (by rw [List.length_append]; show zs.length + 1 ≤ 1000; omega), fun Z hZ => ?_⟩
          have uZ := same_up (o := HO.lst (zs ++ [V.ref p])) hZ
          have Zc : Z ≠ cd := fun z => by rw [z, I6.dict] at hZ; cases hZ
          have ZF : Z ≠ F := fun z => by rw [z, I6.wait] at hZ; cases hZ
          refine ⟨_, rfl, _, rfl, p, _, _, _, rfl, rfl, SqT.of (uZ _ _ ep), atI_nat (j := 1) rfl, cd, _, rfl, DPut.k (k := Sum.inl y) (uZ _ _ I6.dict) (by unfold kvOf; rw [List.length_map]; exact small1000 (by omega)), ?_⟩
          rw [putK_new _ (val_none hy)]
          have ek : kvOf cs' ++ [((Sum.inl y : Key), V.ref Z)] = kvOf (cs' ++ [(y, Z)]) := by unfold kvOf; rw [List.map_append]; rfl
          rw [ek]
          have pc : p ≠ cd := ne_of ep I6.dict (fun z => by cases z)
          have e7F : (upd (upd H6 Z (.lst (zs ++ [V.ref p]))) cd (.dK (kvOf (cs' ++ [(y, Z)])))) F = some (.lst (ws'.map V.int)) := by rw [upd_ne cF.symm]; exact uZ _ _ I6.wait
          have e7p : (upd (upd H6 Z (.lst (zs ++ [V.ref p]))) cd (.dK (kvOf (cs' ++ [(y, Z)])))) p = some (.tup [.int x, .int y, .ref q']) := by rw [upd_ne pc]; exact uZ _ _ ep
          refine ⟨_, rfl, .inl ⟨rfl, _, SqL.of e7F⟩, _, rfl, p, _, _, _, rfl, rfl, SqT.of e7p, atI_nat (j := 1) rfl, F, _, _, rfl, rfl, e7F, small1000 (by rw [List.length_map]; have := I6.wl; omega), ?_⟩
          have k8 : ∀ b o, H6 b = some o → b ≠ F → b ≠ cd → (upd (upd (upd H6 Z (.lst (zs ++ [V.ref p]))) cd (.dK (kvOf (cs' ++ [(y, Z)])))) F (.lst (ws'.map V.int ++ [.int y]))) b = some o := fun b o e n1 n2 => by
            rw [upd_ne n1, upd_ne n2]
            exact uZ _ _ e
          have sub : ∀ {c : Int}, c ∈ keysOf cs' → c ∈ keysOf (cs' ++ [(y, Z)]) := fun h => by
            show _ ∈ (cs' ++ [(y, Z)]).map (·.1)
            rw [List.map_append]
            exact List.mem_append_left _ h
          have ynew : y ∈ keysOf (cs' ++ [(y, Z)]) := by
            show _ ∈ (cs' ++ [(y, Z)]).map (·.1)
            rw [List.map_append]
            exact List.mem_append_right _ (List.mem_singleton.mpr rfl)
          have kk : keysOf (cs' ++ [(y, Z)]) = keysOf cs' ++ [y] := by
            show (cs' ++ [(y, Z)]).map (·.1) = _
            rw [List.map_append]
            rfl
          have lcs : (cs' ++ [(y, Z)]).length = cs'.length + 1 := by rw [List.length_append]; rfl
          have up8 : ∀ (A : Addr → Prop), Same (rst (fun b => (A b ∨ H b = none) ∧ b ≠ F ∧ b ≠ cd) H6) (rst (fun b => (A b ∨ H b = none) ∧ b ≠ F ∧ b ≠ cd) (upd (upd (upd H6 Z (.lst (zs ++ [V.ref p]))) cd (.dK (kvOf (cs' ++ [(y, Z)])))) F (.lst (ws'.map V.int ++ [.int y])))) := fun A =>
            rst_up fun b o h e => ⟨h, k8 _ _ e h.2.1 h.2.2⟩
          refine ⟨_, cs' ++ [(y, Z)], ws' ++ [y], rfl, ⟨fun b o e => k8 _ _ (I6.same _ _ e) (ne_of_none e nF) (ne_of_none e hcd), by rw [upd_ne cF, upd_same], by rw [upd_same, List.map_append]; rfl, fun p' hp' => ?_, fun w' hw' => ?_, sub I6.ak, by rw [kk, lcs]; omega, by rw [List.length_append, lcs]; have := I6.wl; show ws'.length + 1 ≤ _; omega⟩,
            fun b o e n1 n2 => k8 _ _ (kp _ _ e n1 n2) n1 n2, sub hc0', fun c hc => ?_, fun j e hj g hg => ?_, by rw [kk, List.length_append]; show ws'.length + 1 + _ ≤ _; omega⟩
          · rcases List.mem_append.mp hp' with hp' | hp'
            · obtain ⟨c1, zs', g1, g2, g3, g4, g5⟩ := I6.ch p' hp'
              refine ⟨c1, zs', k8 _ _ g1 g2 (ne_of g1 I6.dict (fun z => by cases z)), g2, g3, by rw [lcs]; omega, fun A hA z hz => ?_⟩
              obtain ⟨x', y', h⟩ := g5 A hA z hz
              exact ⟨x', y', h.mono (up8 A)⟩
            · rw [List.mem_singleton.mp hp']
              refine ⟨cy, zs ++ [.ref p], by rw [upd_ne ZF, upd_ne Zc, upd_same], ZF, I6.same.free hZ, by rw [List.length_append, lcs]; show zs.length + 1 + 1 ≤ _; omega, fun A hA z hz' => ?_⟩
              rcases List.mem_append.mp hz' with hz' | hz'
              · obtain ⟨x', y', h⟩ := hz A hA z hz'
                exact ⟨x', y', h.mono (up8 A)⟩
              · rw [List.mem_singleton.mp hz']
                refine ⟨x, y, (hstep A hA).mono ((rst_up fun b o h e => ⟨h, kp _ _ e h.2.1 h.2.2⟩ : Same (rst (fun b => (A b ∨ H b = none) ∧ b ≠ F ∧ b ≠ cd) H5) (rst (fun b => (A b ∨ H b = none) ∧ b ≠ F ∧ b ≠ cd) H6)).trans (up8 A))⟩
          · rcases List.mem_append.mp hw' with hw' | hw'
            · exact sub (I6.wk w' hw')
            · rw [List.mem_singleton.mp hw']; exact ynew
          · rw [kk] at hc
            rcases List.mem_append.mp hc with hc | hc
            · rcases cl6 c hc with h | h | h
              · exact .inl h
              · exact .inr (.inl (List.mem_append_left _ h))
              · exact .inr (.inr fun e he => ⟨fun z => sub ((h e he).1 z), fun z => sub ((h e he).2 z)⟩)
            · exact .inr (.inl (List.mem_append_right _ hc))
          · by_cases hji : j < i
            · exact sub (pr6 j e hji g hg)
            · obtain rfl : j = i := by omega
              rw [ee] at g
              cases g
              exact ynew
      · refine iteF ⟨_, cs', ws', rfl, I6, kp, hc0', cl6, fun j e hj g hg => ?_, ms6⟩
        by_cases hji : j < i
        · exact pr6 j e hji g hg
        · obtain rfl : j = i := by omega
          rw [ee] at g
          cases g
          exact (h1 (decide_eq_true (by rw [show x = c0 from hg]))).elim
    · rintro σ H6 ⟨v6', cs', ws', rfl, I6, kp, hc0', cl6, pr6, ms6⟩
      refine ⟨_, ?_, some (.int c0), v6', cs', ws', rfl, I6, fun c hc => ?_, rfl⟩
      · rw [List.length_cons]
        omega
      · rcases cl6 c hc with h | h | h
        · subst h
          refine .inr fun e he => ?_
          obtain ⟨j, hj, ej⟩ := List.getElem_of_mem he
          have l2 : (es ++ es.map fun e => (e.2, e.1)).length = (ss ++ ts).length := (pd_len YP).symm
          refine ⟨fun z => pr6 j e (by rw [← l2, List.length_append]; omega) (by rw [List.getElem?_append_left hj, List.getElem?_eq_getElem hj, ej]) z, fun z => pr6 (es.length + j) (e.2, e.1) (by rw [← l2, List.length_append, List.length_map]; omega) ?_ z⟩
          rw [List.getElem?_append_right (by omega), Nat.add_sub_cancel_left, List.getElem?_map, List.getElem?_eq_getElem hj, ej]
          rfl
        · exact .inl h
        · exact .inr h
end
end K86

namespace K86
open PySem PySem.Spec PyProof.Rows L2
theorem same_two {H : Hp} {x dx C : Addr} (nx : H x = none) (nd : H dx = none) : Same H (upd (upd H dx (.own x)) x (.ins C dx [])) := same_made nx nd (SameBut.same (Same.refl _))
theorem cSetOf {X : Cx} (w : World) (hw : X.w = w) (hc : X.calm = true) : CallR X (.type "set") (rSetOf w) := by subst hw; exact cr_setOf hc
theorem cSorted {X : Cx} (w : World) (hw : X.w = w) (hc : X.calm = true) : CallR X (.builtin "sorted") (rSortedSet w) := by subst hw; exact cr_sortedSet hc
theorem filt_ints : ∀ (os : List (Option V)) (f : Nat → Int), (∀ (i : Nat) v, os[i]? = some (some v) → v = .int (f i)) → ∃ row : List Int, os.filterMap id = row.map V.int ∧ ∀ (i : Nat) v, os[i]? = some (some v) → f i ∈ row
  | [], f, _ => ⟨[], rfl, fun i v h => by simp at h⟩
  | none :: r, f, h => by
    obtain ⟨row, h1, h2⟩ := filt_ints r (fun i => f (i + 1)) fun i v e => h (i + 1) v e
    refine ⟨row, h1, fun i v e => ?_⟩
    cases i with
    | zero => cases e
    | succ i => exact h2 i v e
  | some v :: r, f, h => by
    obtain ⟨row, h1, h2⟩ := filt_ints r (fun i => f (i + 1)) fun i v e => h (i + 1) v e
    refine ⟨f 0 :: row, ?_, fun i u e => ?_⟩
    · show v :: r.filterMap id = V.int (f 0) :: row.map V.int
      rw [h1, h 0 v rfl]
    · cases i with
      | zero => exact List.mem_cons_self
      | succ i => exact List.mem_cons_of_mem _ (h2 i u e)
section
variable {P : Program} {w : World} {K : PySem.W.Frag} {mg : Str → Option Value} {base : Heap}
/-! ### group_names -/
def spGNames (C : Addr) : Sp := fun vs H Q _ => ∃ (t : Addr) (R : Tab) (k : Nat), vs = [.ref t] ∧ TabAt C H t R ∧ OkTab k R ∧ k ≤ 4 ∧
  ∀ (l : Addr) (ns : List Int) (H' : Hp), Same H H' → H l = none → Ints H' l ns → ns.length = k → Right k R (nm ns) → Q (.ref l) H'
theorem ok_GNames (T : Txt K mg) : FnOk P w K mg base CX0 9 T.GNames.f T.GNames.fd ["table"] (spGNames T.C) := by
  have GI : FnOk P w K mg base CX0 7 T.FInit.f T.FInit.fd ["self", "table"] (spFInit T.C T.D) := ok_FInit T
  have GN : FnOk P w K mg base CX0 1 T.FNames.f T.FNames.fd ["self"] (spFNames T.D) := ok_FNames T
  refine T.GNames.F.ok scGNames (fun vs H Q E h => ?_) (fun cdv A outer s0 H vs Q E hr h => ?_)
  · obtain ⟨t, R, k, rfl, _⟩ := h
    rfl
  obtain ⟨t, R, k, rfl, hT, hk, h4, q⟩ := h
  refine ⟨_, pss_one (ps_ret (pe_meth0 (pe_make T.mkD GI hr rfl T.gD T.FInit.b .nil pass0 (pa_cons (pv 0) pa_nil)) T.clD T.mNames GN (hr.mono (by decide)) T.FNames.b .nil pass0)), ?_⟩
  refine ⟨_, rfl, fun f dx hf hdx _ => ⟨f, t, dx, R, k, rfl, upd_same, hT.mono (same_two hf hdx), hk, h4, fun H' ss es ns sb fa => ⟨rfl, ?_⟩⟩⟩
  have s1 := same_made hf hdx sb
  have fa' := fa.mono rst_le
  obtain ⟨dx', t', s', n', e1, e2, e3, e4, fi, e6⟩ := id fa'
  refine ⟨f, dx', _, rfl, e1, ffs_no _ _ _ (by decide +kernel) (by decide +kernel) (by decide +kernel), f, k, R, ss, es, ns, rfl, fa', fun l H2 s2 hl hi => ?_⟩
  exact q l ns H2 (s1.trans s2) (s1.free hl) hi fi.len (fi.right hk)
/-! ### groups -/
def spGroups (C : Addr) : Sp := fun vs H Q _ => ∃ (t : Addr) (R : Tab) (k : Nat), vs = [.ref t] ∧ TabAt C H t R ∧ OkTab k R ∧ k ≤ 4 ∧
  ∀ (l : Addr) (ps : Tab) (H' : Hp), Same H H' → H l = none → RowsAt (rst (New H) H') l ps → ps.length ≤ 8 → (∀ x y, Col k x → Col k y → Cong k R x y → ∃ p ∈ ps, x ∈ p ∧ y ∈ p) → Q (.ref l) H'
theorem ok_Groups (T : Txt K mg) : FnOk P w K mg base CX0 10 T.Groups.f T.Groups.fd ["table"] (spGroups T.C) := by
  have GG : FnOk P w K mg base CX0 9 T.GNames.f T.GNames.fd ["table"] (spGNames T.C) := ok_GNames T
  have GZ : FnOk P w K mg base CX0 1 T.TSize.f T.TSize.fd ["self"] (spTSize T.C) := ok_TSize T
  refine T.Groups.F.ok scGroups (fun vs H Q E h => ?_) (fun cdv A outer s0 H vs Q E hr h => ?_)
  · obtain ⟨t, R, k, rfl, _⟩ := h
    rfl
  obtain ⟨t, R, k, rfl, hT, hk, h4, q⟩ := h
  refine ⟨_, pss_cons (ps_set (i := 1) scGroups.nd rfl (.inr rfl) (pe_call GG hr rfl T.GNames.g T.GNames.F.kp T.GNames.b .nil pass0 (pa_cons (pv 0) pa_nil)))
    (pss_one (ps_ret (pe_lc (own := [("name", 2)]) (g := gName 2) (tt := tYes) rfl scGroups.nd
      (pi_list (pe_callB (cSorted w rfl rfl) rfl T.z_sorted b_sorted (pa_cons (pe_callTy (cSetOf w rfl rfl) rfl T.z_set b_set (pa_cons (pv 1) pa_nil)) pa_nil)))
      (blkOk_by (N := nGroups) (sc := defScope sGroups) (by decide +kernel)) (fun _ _ _ _ _ => pg_name (i := 2) scGroups.nd rfl (Or.inr rfl)) (fun _ _ _ _ _ => pts_nil)
      (fun _ _ _ _ _ => pe_lc (own := [("colour", 3)]) (g := gName 3) rfl scGroups.nd (pi_range1 rfl T.z_range (pa_cons (pe_prop (pv 0) T.clC T.prSize GZ (hr.mono (by decide)) T.TSize.b .nil pass0 rfl) pa_nil))
        (blkOk_by (N := nGroups) (by kernel_rfl)) (fun _ _ _ _ _ => pg_name (i := 3) scGroups.nd rfl (Or.inl rfl))
        (fun _ _ _ _ _ => pts_one (pt_cmpR op_eq (pe_ix (ixL K rfl) (pv 1) (pv 3) (fun _ _ => rfl)) (pv 2) (nomark _))) (fun _ _ _ _ _ => pv 3))))), ?_⟩
  refine ⟨_, rfl, t, R, k, rfl, hT, hk, h4, fun n ns H1 s1 hn e1n hl rt => ?_⟩
  refine ⟨_, rfl, n, ns, rfl, e1n, by omega, fun p c hp hc => ⟨p, _, c, rfl, upd_same, by omega, fun so l hso hmem hlen hl0 => ?_⟩⟩
  have u1 := same_up (o := SetO w p (fun j => decide (j ∈ ns)) c) hp
  have u2 := same_up (o := HO.lst (so.map V.int)) hl0
  have s3 := (s1.trans u1).trans u2
  have e3n := u2 _ _ (u1 _ _ e1n)
  have el : (upd (upd H1 p (SetO w p (fun j => decide (j ∈ ns)) c)) l (.lst (so.map V.int))) l = some (.lst (so.map V.int)) := upd_same
  generalize upd (upd H1 p (SetO w p (fun j => decide (j ∈ ns)) c)) l (.lst (so.map V.int)) = H3 at s3 e3n el ⊢
  have lso : (so.map V.int).length = so.length := List.length_map _
  have hT3 := hT.mono s3
  have sq : ∀ {H' : Hp}, Same H3 H' → SqL K H' l (so.map V.int) := fun z => SqL.of (z _ _ el)
  refine ⟨l, rfl, ⟨_, sq (Same.refl _)⟩, fun D hD => lc_map (n := so.length) hD (small1000 (by omega)) (fun i z _ => ∃ m, so[i]? = some m ∧ z = .int m)
    (fun i v H' => ∃ p row, v = .ref p ∧ p ≠ D ∧ H p = none ∧ Ints H' p row ∧ ∀ c, Col k c → so[i]? = some (nm ns c) → c ∈ row)
    (fun i v H' H'' sb ⟨p, row, g1, g2, g3, g4, g5⟩ => ⟨p, row, g1, g2, g3, sb _ _ g4 g2, g5⟩)
    (fun i H' hi s => itl_go (sq s) (by omega)) (fun i H' z H'' hi s y => by obtain ⟨e1, e2⟩ := itl_yl (sq s) y; exact ⟨by rw [e1]; exact Same.refl _, of_getI e2⟩)
    (fun H' s => by have z := itl_st (sq s); rw [lso] at z; exact z) ?_ ?_⟩
  · rintro i z H4 hi ⟨m, em, rfl⟩ s4 nD Qe hQ
    have hT4 := hT3.mono s4
    obtain ⟨dx, lt, ht, _⟩ := id hT4
    refine ⟨rfl, _, rfl, t, dx, _, rfl, ht, t, R, k, rfl, hT4, hk, k, rfl, (range_ok (by omega)).1, (range_ok (k := k) (by omega)).2, fun D2 hD2 => ?_⟩
    rw [Int.toNat_natCast]
    refine lc_filt (n := k) hD2 (small1000 (by omega)) (fun i z _ => z = .int i) (fun i o _ => (o = some (.int i) ∧ nm ns i = m) ∨ (o = none ∧ nm ns i ≠ m)) (fun _ _ _ _ _ p => p)
      (fun i H' hi _ => hi) (fun i H' z H'' hi s ⟨e1, e2⟩ => ⟨by rw [e1]; exact Same.refl _, by rw [e2, Int.zero_add]⟩) (fun H' _ => Nat.le_refl _) ?_ ?_
    · rintro j z H5 hj rfl s5 nD2 Qf Qn hF hN
      have cj : Col k j := ⟨by omega, by omega⟩
      have e5n := s5 _ _ (s4 _ _ e3n)
      refine ⟨rfl, _, rfl, _, rfl, n, _, _, _, rfl, rfl, SqL.of e5n, atI_nat (getI (nm_get hl cj)), _, rfl, rfl, _, rfl, ite2 (fun c => ?_) (fun c => ?_)⟩
      · exact ⟨_, rfl, hF _ _ (Same.refl _) (.inl ⟨rfl, V.int.inj (of_decide_eq_true c)⟩)⟩
      · exact hN _ (Same.refl _) (.inr ⟨rfl, fun z => c (decide_eq_true (by rw [z]))⟩)
    · intro os H5 s5 eD2 hos ho
      obtain ⟨row, er, hrow⟩ := filt_ints os (fun i => (i : Int)) fun i v e => by
        rcases ho i _ e with ⟨z, _⟩ | ⟨z, _⟩
        · exact Option.some.inj z
        · cases z
      refine hQ _ _ s5 ⟨D2, row, rfl, fun z => nD (by rw [← z]; exact hD2), (s3.trans s4).free hD2, by rw [Ints, eD2, er], fun c hc e => ?_⟩
      rw [em] at e
      have hn' : c.toNat < k := by have := hc.1; have := hc.2; omega
      have ec : ((c.toNat : Nat) : Int) = c := by have := hc.1; omega
      have e2 := List.getElem?_eq_getElem (l := os) (i := c.toNat) (by omega)
      rcases ho c.toNat _ e2 with ⟨z, _⟩ | ⟨_, z⟩
      · have := hrow c.toNat _ (e2.trans (congrArg some z))
        rw [ec] at this
        exact this
      · rw [ec] at z
        exact (z (Option.some.inj e).symm).elim
  · intro ys H4 s4 eD hn' hy
    have nD : H D = none := s3.free hD
    have hrefs := all_refs (ys := ys) fun i y e => by
      obtain ⟨p, row, g, _⟩ := hy i y e
      exact ⟨p, g⟩
    obtain ⟨as, rfl⟩ := hrefs
    have la : as.length = so.length := by rw [← hn', List.length_map]
    -- the parts
    have parts : ∀ n : Nat, n ≤ so.length → ∃ ps : Tab, ps.length = n ∧ (∀ (i : Nat) r row, i < n → as[i]? = some r → ps[i]? = some row → H r = none ∧ r ≠ D ∧ Ints H4 r row) ∧ ∀ (i : Nat) row, ps[i]? = some row → ∀ c, Col k c → so[i]? = some (nm ns c) → c ∈ row := by
      intro n
      induction n with
      | zero => exact fun _ => ⟨[], rfl, fun i r row h => absurd h (Nat.not_lt_zero _), fun i row h => by simp at h⟩
      | succ n ih =>
        intro hn2
        obtain ⟨ps, p1, p2, p3⟩ := ih (by omega)
        have ea := List.getElem?_eq_getElem (l := as) (i := n) (by omega)
        obtain ⟨p, row, g1, g2, g3, g4, g5⟩ := hy n _ (getR ea)
        cases g1
        refine ⟨ps ++ [row], by rw [List.length_append, p1]; rfl, fun i r row' hi e1 e2 => ?_, fun i row' e c hc => ?_⟩
        · by_cases hin : i < n
          · rw [List.getElem?_append_left (by omega)] at e2
            exact p2 i r row' hin e1 e2
          · obtain rfl : i = n := by omega
            rw [List.getElem?_append_right (by omega), p1, Nat.sub_self] at e2
            cases e2
            rw [ea] at e1
            cases e1
            exact ⟨g3, g2, g4⟩
        · by_cases hin : i < n
          · rw [List.getElem?_append_left (by omega)] at e
            exact p3 i row' e c hc
          · have hi := (List.getElem?_eq_some_iff.mp e).1
            rw [List.length_append, p1] at hi
            have hi : i < n + 1 := hi
            obtain rfl : i = n := by omega
            rw [List.getElem?_append_right (by omega), p1, Nat.sub_self] at e
            cases e
            exact g5 c hc
    obtain ⟨ps, p1, p2, p3⟩ := parts so.length (Nat.le_refl _)
    refine q D ps H4 (s3.trans s4) nD ⟨as, rst_mk nD eD, by rw [la, p1], fun i r row e1 e2 => ?_⟩ (by omega) fun x y hx hy' hc => ?_
    · obtain ⟨g1, _, g3⟩ := p2 i r row (by rw [← la]; exact (List.getElem?_eq_some_iff.mp e1).1) e1 e2
      exact rst_mk g1 g3
    · have hxy := hc _ rt
      have hin : nm ns x ∈ so := (hmem _).mpr (decide_eq_true (List.mem_of_getElem? (nm_get hl hx)))
      obtain ⟨i, hi, ei⟩ := List.getElem_of_mem hin
      have e2 := List.getElem?_eq_getElem (l := ps) (i := i) (by omega)
      have e3 : so[i]? = some (nm ns x) := by rw [List.getElem?_eq_getElem hi, ei]
      exact ⟨_, List.mem_of_getElem? e2, p3 i _ e2 x hx e3, p3 i _ e2 y hy' (by rw [← hxy]; exact e3)⟩
end
end K86

namespace K86
open PySem PySem.Spec PyProof.Rows L2
section
variable {P : Program} {w : World} {K : PySem.W.Frag} {mg : Str → Option Value} {base : Heap}
/-! ### reason -/
def spReason (C : Addr) : Sp := fun vs H Q _ => ∃ (t : Addr) (R : Tab) (k : Nat) (a b : Int), vs = [.ref t, .int a, .int b] ∧ TabAt C H t R ∧ OkTab k R ∧ k ≤ 4 ∧ Col k a ∧ Col k b ∧
  (∀ H', Same H H' → Q .non H') ∧
  ∀ (l : Addr) (zs : List V) (H' : Hp), Same H H' → H l = none → H' l = some (.lst zs) → zs.length ≤ 8 → (∀ z ∈ zs, ∃ x y, StepAt k 7 (rst (New H) H') z x y) → Q (.ref l) H'
theorem ok_Reason (T : Txt K mg) : FnOk P w K mg base CX0 9 T.Reason.f T.Reason.fd ["table", "start", "end"] (spReason T.C) := by
  have GI : FnOk P w K mg base CX0 7 T.FInit.f T.FInit.fd ["self", "table"] (spFInit T.C T.D) := ok_FInit T
  have GN : FnOk P w K mg base CX0 1 T.FNames.f T.FNames.fd ["self"] (spFNames T.D) := ok_FNames T
  have GC : FnOk P w K mg base CX0 8 T.FChain.f T.FChain.fd ["self", "start", "end"] (spChain T.D) := ok_FChain T
  have GV : FnOk P w K mg base CX0 3 T.TVal.f T.TVal.fd ["self", "value"] (spTVal T.C) := ok_TVal T
  refine T.Reason.F.ok scReason (fun vs H Q E h => ?_) (fun cdv A outer s0 H vs Q E hr h => ?_)
  · obtain ⟨t, R, k, a, b, rfl, _⟩ := h
    rfl
  obtain ⟨t, R, k, a, b, rfl, hT, hk, h4, ca, cb, qn, ql⟩ := h
  refine ⟨_, pss_cons (ps_for PassesOwn.never rfl (pi_tup (pe_tup (pa_cons (pv 1) (pa_cons (pv 2) pa_nil)))) (pg_name (i := 3) scReason.nd rfl (.inl rfl))
      (pss_one (ps_expr (pe_meth (pv 0) T.clC T.mVal GV (hr.mono (by decide)) T.TVal.b .nil pass0 (pa_cons (pv 3) pa_nil)))))
    (pss_cons (ps_set (i := 4) scReason.nd rfl (.inl rfl) (pe_make T.mkD GI hr rfl T.gD T.FInit.b .nil pass0 (pa_cons (pv 0) pa_nil)))
    (pss_cons (ps_set (i := 5) scReason.nd rfl (.inl rfl) (pe_meth0 (pv 4) T.clD T.mNames GN (hr.mono (by decide)) T.FNames.b .nil pass0))
    (pss_one (ps_ret (pe_ifExp (pt_cmpR op_eq (pe_ix ix_list (pv 5) (pv 1) (fun _ _ => rfl)) (pe_ix ix_list (pv 5) (pv 2) (fun _ _ => rfl)) (nomark _))
      (pe_meth (pv 4) T.clD T.mChain GC hr T.FChain.b .nil pass0 (pa_cons (pv 1) (pa_cons (pv 2) pa_nil))) pe_non))))), ?_⟩
  refine ⟨_, rfl, _, rfl, le2, fun tp htp => ?_⟩
  have s0' := same_up (o := HO.tup [V.int a, V.int b]) htp
  have et : (upd H tp (.tup [V.int a, V.int b])) tp = some (.tup [V.int a, V.int b]) := upd_same
  generalize upd H tp (.tup [V.int a, V.int b]) = H1 at s0' et ⊢
  have hT1 := hT.mono s0'
  obtain ⟨dx, lt, ht, _⟩ := id hT1
  refine ⟨tp, rfl, ⟨_, SqT.of et⟩, for_tup (K := K) (a := tp) (xs := [.int a, .int b]) (fun i σ H2 => ∃ v, σ = [some (V.ref t), some (V.int a), some (V.int b), v, none, none] ∧ H2 = H1) ⟨none, rfl, rfl⟩ (fun i σ H2 _ ⟨_, _, e⟩ => by rw [e]; exact SqT.of et) ?_ ?_⟩
  · rintro i z σ H2 hz ⟨v, rfl, rfl⟩
    have hz' : ∃ n, z = .int n ∧ Col k n := by
      match i, hz with
      | 0, hz => cases hz; exact ⟨a, rfl, ca⟩
      | 1, hz => cases hz; exact ⟨b, rfl, cb⟩
      | i + 2, hz => simp at hz
    obtain ⟨n, rfl, cn⟩ := hz'
    exact ⟨_, rfl, t, dx, _, rfl, ht, tfs_no _ (by decide +kernel), _, rfl, t, R, k, n, rfl, hT1, hk, cn, _, rfl, rfl⟩
  · rintro σ H2 ⟨v, rfl, rfl⟩
    refine ⟨_, rfl, fun f dxf hf hdx _ => ⟨f, t, dxf, R, k, rfl, upd_same, hT1.mono (same_two hf hdx), hk, h4, fun H3 ss es ns sb fa => ⟨rfl, ?_⟩⟩⟩
    have s3 := same_made hf hdx sb
    have faN := fa.mono (new_made hf hdx)
    have fa3 := faN.mono rst_le
    obtain ⟨dx', t', s', n', e1, e2, e3, e4, fi, e6⟩ := id fa3
    refine ⟨_, rfl, f, dx', _, rfl, e1, ffs_no _ _ _ (by decide +kernel) (by decide +kernel) (by decide +kernel), f, k, R, ss, es, ns, rfl, fa3, fun l H4 s4 hl hi => ?_⟩
    have ax : atI (ns.map V.int) a = some (.int (nm ns a)) := at_of (j := a.toNat) (by have := ca.1; omega) (getI (nm_get fi.len ca))
    have ay : atI (ns.map V.int) b = some (.int (nm ns b)) := at_of (j := b.toNat) (by have := cb.1; omega) (getI (nm_get fi.len cb))
    have s04 := (s0'.trans s3).trans s4
    refine ⟨_, rfl, _, rfl, l, _, _, _, rfl, rfl, SqL.of hi, ax, _, rfl, _, rfl, l, _, _, _, rfl, rfl, SqL.of hi, ay, rfl, _, rfl, ite2 (fun c => ?_) (fun c => ?_)⟩
    · have hab : nm ns a = nm ns b := V.int.inj (of_decide_eq_true c)
      refine ⟨_, rfl, f, dx', _, rfl, s4 _ _ e1, ffs_no _ _ _ (by decide +kernel) (by decide +kernel) (by decide +kernel), _, rfl, _, rfl, f, k, R, ss, es, ns, a, b, rfl, fa3.mono s4, by omega, ca, cb, hab, fun l2 zs H5 s5 hl2 e5 hz hst => ?_⟩
      refine ql l2 zs H5 (s04.trans s5) (s04.free hl2) e5 hz fun z hz' => ?_
      obtain ⟨_, _, _, _, _, _, _, st, _, _⟩ := faN
      obtain ⟨x, y, h⟩ := hst (New H2) (StepsAt.mono (rst_up fun b o h e => ⟨h, s4 _ _ e⟩) st) z hz'
      refine ⟨x, y, h.mono (rst_up fun b o h e => ⟨?_, e⟩)⟩
      rcases h with h | h
      · exact s0'.free h
      · exact s04.free h
    · exact qn _ s04
end
end K86

namespace K86
open PySem PySem.Spec PyProof.Rows L2
/-! ### x in (y, z): data of any depth, a tuple -/
def rInDT (K : PySem.W.Frag) : R2 := fun x y H Q => ∃ d ds, Dp K H x d ∧ Dp K H y (.tuple ds) ∧ SeqAt.shaped d = true ∧ SeqAt.shaped (.tuple ds) = true ∧ Q (.bl (ds.any fun z => PyData.eqv z d)) H
theorem op_inDT {X : Cx} (hu : X.A.units + 65 < cLine) : OpR X (compareOp .In) (rInDT X.K) := by
  intro pins s σ H x y v u Q I rx ry h
  obtain ⟨d, ds, hd, he, sd, se, q⟩ := h
  obtain ⟨as, r1⟩ := Dp.reads I d x v hd rx
  obtain ⟨bs, r2⟩ := Dp.reads I (.tuple ds) y u he ry
  exact SeqAt.in_tuple_reads r2 r1 (SeqAt.canLay_of_shaped se) (SeqAt.canLay_of_shaped sd) (room_in_shaped sd hu) ⟨.bl _, H, I, rfl, q⟩
/-- a pair of ints as data -/
abbrev pD (x y : Int) : PyData := .tuple [.int x, .int y]
theorem pD_shaped (x y : Int) : SeqAt.shaped (pD x y) = true := by
  show ((pD x y).canLay0 && decide ((pD x y).depth ≤ 64)) = true
  simp [PyData.canLay0, PyData.canLayAll0, PyData.depth, PyData.depthAll]
theorem pDs_shaped (x y u v : Int) : SeqAt.shaped (.tuple [pD x y, pD u v]) = true := by
  show ((PyData.tuple [pD x y, pD u v]).canLay0 && decide ((PyData.tuple [pD x y, pD u v]).depth ≤ 64)) = true
  simp [PyData.canLay0, PyData.canLayAll0, PyData.depth, PyData.depthAll]
theorem pD_eqv {x y u v : Int} (h : PyData.eqv (pD x y) (pD u v) = true) : x = u ∧ y = v := by
  have e : PyData.eqv (pD x y) (pD u v) = ((x == u) && ((y == v) && true)) := by simp only [PyData.eqv, PyData.eqvAll]
  rw [e, Bool.and_true, Bool.and_eq_true] at h
  exact ⟨eq_of_beq h.1, eq_of_beq h.2⟩
theorem dp_pair {K : PySem.W.Frag} {H : Hp} {p : Addr} {x y : Int} (h : H p = some (.tup [.int x, .int y])) : Dp K H (.ref p) (pD x y) := .tup (SqT.of h) (.cons (.int x) (.cons (.int y) .nil))
theorem room65 {k : Nat} {A : Around} (r : Room k A) : A.units + 65 < cLine := by have := r.un; omega
theorem itt_go {K : PySem.W.Frag} {a : Addr} {xs : List V} {i : Nat} {H : Hp} (h : SqT K H a xs) (hi : i < xs.length) : (Itt K a).go i H := ⟨xs, xs[i], h, List.getElem?_eq_getElem hi⟩
theorem itt_st {K : PySem.W.Frag} {a : Addr} {xs : List V} {H : Hp} (h : SqT K H a xs) : (Itt K a).stop xs.length H := ⟨xs, h, Nat.le_refl _⟩
theorem itt_yl {K : PySem.W.Frag} {a : Addr} {xs : List V} {i : Nat} {x : V} {H H' : Hp} (h : SqT K H a xs) (y : (Itt K a).yld i H x H') : H' = H ∧ xs[i]? = some x := ⟨y.1, y.2 _ h⟩
theorem all_true {ys : List V} {n : Nat} (hn : ys.length = n) (hy : ∀ (i : Nat) y, ys[i]? = some y → y = .bl true) : ys = (List.replicate n true).map V.bl := by
  refine List.ext_getElem? fun i => ?_
  by_cases hi : i < n
  · obtain ⟨y, ey⟩ : ∃ y, ys[i]? = some y := ⟨ys[i], List.getElem?_eq_getElem (by omega)⟩
    rw [ey, hy i y ey, List.getElem?_map, List.getElem?_replicate, if_pos hi]
    rfl
  · rw [List.getElem?_eq_none (by omega), List.getElem?_eq_none (by rw [List.length_map, List.length_replicate]; omega)]
theorem rep_all (n : Nat) : (List.replicate n true).all id = true := by simp
section
variable {P : Program} {w : World} {K : PySem.W.Frag} {mg : Str → Option Value} {base : Heap}
/-! ### is_test -/
def spIsTest (C : Addr) : Sp := fun vs H Q _ => ∃ (t q : Addr) (R : Tab) (k : Nat) (x y a b c : Int), vs = [.ref t, .int x, .int y, .ref q] ∧ TabAt C H t R ∧ OkTab k R ∧ k ≤ 8 ∧ Col k x ∧ Col k y ∧
  H q = some (.tup [.str "test", .int a, .int b, .int c]) ∧ Col k a ∧ Col k b ∧ Col k c ∧ ∀ (r : Bool) (H' : Hp), Same H H' → (r = true → Cong k R x y) → Q (.bl r) H'
theorem ok_IsTest (T : Txt K mg) : FnOk P w K mg base CX0 6 T.IsTest.f T.IsTest.fd ["table", "one", "other", "why"] (spIsTest T.C) := by
  have GG : FnOk P w K mg base CX0 4 T.TGet.f T.TGet.fd ["self", "pair"] (spTGet T.C) := ok_TGet T
  have GZ : FnOk P w K mg base CX0 1 T.TSize.f T.TSize.fd ["self"] (spTSize T.C) := ok_TSize T
  have GC : FnOk P w K mg base CX0 2 T.IsCol.f T.IsCol.fd ["size", "value"] spIsCol := ok_IsCol T
  refine T.IsTest.F.ok scIsTest (fun vs H Q E h => ?_) (fun cdv A outer s H vs Q E hr h => ?_)
  · obtain ⟨t, q, R, k, x, y, a, b, c, rfl, _⟩ := h
    rfl
  obtain ⟨t, q0, R, k, x, y, a, b, c, rfl, hT, hk, h8, cx, cy, e0, ca, cb, cc, q⟩ := h
  have hu := room65 hr
  refine ⟨_, pss_cons (ps_if (PW.pt (pw_or (pt_cmpR op_ne (pe_callB call_len_seq rfl T.z_len b_len (pa_cons (pv 3) pa_nil)) pe_int (nomark _))
      (pw_or1 (pt_not (pt_val (pe_callB (cr_all rfl) rfl T.z_all b_all (pa_cons (pe_lc (own := [("colour", 8)]) (g := gName 8) (tt := tYes) rfl scIsTest.nd (pi_tup (pe_slice sl_tup (pv 3) (po_some pe_int) po_none))
        (blkOk_by (N := nIsTest) (sc := defScope sIsTest) (by decide +kernel)) (fun _ _ _ _ _ => pg_name (i := 8) scIsTest.nd rfl (Or.inl rfl)) (fun _ _ _ _ _ => pts_nil)
        (fun _ _ _ _ _ => pe_call GC (hr.mono (by decide)) rfl T.IsCol.g T.IsCol.F.kp T.IsCol.b .nil pass0 (pa_cons (pe_prop (pv 0) T.clC T.prSize GZ (hr.mono (by decide)) T.TSize.b .nil pass0 rfl) (pa_cons (pv 8) pa_nil)))) pa_nil)))))))
      (pss_one (ps_ret pe_bl)) pss_nil)
    (pss_cons (ps_asg (pe_slice sl_tup (pv 3) (po_some pe_int) po_none) (pg_tup rfl (pgs_cons (pg_name (i := 4) scIsTest.nd rfl (.inl rfl)) (pgs_cons (pg_name (i := 5) scIsTest.nd rfl (.inl rfl)) (pgs_cons (pg_name (i := 6) scIsTest.nd rfl (.inl rfl)) pgs_nil)))))
    (pss_cons (ps_set (i := 7) scIsTest.nd rfl (.inl rfl) (pe_tup (pa_cons (pe_getit T.clC T.getC GG hr T.TGet.b (pv 0) (pe_tup (pa_cons (pe_getit T.clC T.getC GG hr T.TGet.b (pv 0) (pe_tup (pa_cons (pv 4) (pa_cons (pv 5) pa_nil)))) (pa_cons (pv 6) pa_nil))))
        (pa_cons (pe_getit T.clC T.getC GG hr T.TGet.b (pv 0) (pe_tup (pa_cons (pv 4) (pa_cons (pe_getit T.clC T.getC GG hr T.TGet.b (pv 0) (pe_tup (pa_cons (pv 5) (pa_cons (pv 6) pa_nil)))) pa_nil)))) pa_nil))))
    (pss_one (ps_ret (pe_cmpR (op_inDT hu) (pv 7) (pe_tup (pa_cons (pe_tup (pa_cons (pv 1) (pa_cons (pv 2) pa_nil))) (pa_cons (pe_tup (pa_cons (pv 2) (pa_cons (pv 1) pa_nil))) pa_nil))) (by rfl)))))), ?_⟩
  have nw : ¬ (HT.sIx 4 0 (some 1) = 0 ∧ HT.sIx 4 4 none = 4) := by decide
  refine ⟨_, rfl, q0, _, rfl, .inr (SqT.of e0), rfl, _, rfl, iteF ?_⟩
  refine ⟨_, rfl, 1, rfl, q0, _, rfl, SqT.of e0, nw, fun p1 hp1 => ?_⟩
  have s1 := same_up (o := HO.tup (cutV [V.str "test", V.int a, V.int b, V.int c] (some 1) none)) hp1
  have e1 : (upd H p1 (HO.tup (cutV [V.str "test", V.int a, V.int b, V.int c] (some 1) none))) p1 = some (.tup ([a, b, c].map V.int)) := upd_same
  generalize upd H p1 (HO.tup (cutV [V.str "test", V.int a, V.int b, V.int c] (some 1) none)) = H1 at s1 e1 ⊢
  have hT1 := hT.mono s1
  have sq : ∀ {H' : Hp}, Same H1 H' → SqT K H' p1 ([a, b, c].map V.int) := fun z => SqT.of (z _ _ e1)
  refine ⟨p1, rfl, ⟨_, sq (Same.refl _)⟩, fun D hD => lc_map (n := 3) hD (small1000 (by decide)) (fun i z _ => ∃ n, z = .int n ∧ Col k n) (fun _ v _ => v = .bl true) (fun _ _ _ _ _ p => p)
    (fun i H' hi s => itt_go (sq s) hi) (fun i H' z H'' hi s y => ?_) (fun H' s => itt_st (sq s)) ?_ ?_⟩
  · obtain ⟨rfl, e⟩ := itt_yl (sq s) y
    obtain ⟨n, en, rfl⟩ := of_getI e
    refine ⟨Same.refl _, n, rfl, ?_⟩
    have hm := List.mem_of_getElem? en
    simp only [List.mem_cons, List.not_mem_nil, or_false] at hm
    rcases hm with rfl | rfl | rfl
    · exact ca
    · exact cb
    · exact cc
  · rintro i z H2 hi ⟨n, rfl, cn⟩ s2 nD Qe hQ
    have hT2 := hT1.mono s2
    obtain ⟨dx, l, ht, _⟩ := id hT2
    refine ⟨rfl, _, rfl, t, dx, _, rfl, ht, t, R, k, rfl, hT2, hk, _, rfl, k, n, rfl, fun r hr => ?_⟩
    obtain rfl : r = true := hr.mpr cn
    exact hQ _ _ (Same.refl _) rfl
  · intro ys H2 s2 eD hn hy
    refine ⟨D, List.replicate 3 true, rfl, SqL.of (by rw [eD, all_true hn hy]), ?_⟩
    rw [rep_all]
    refine ⟨true, rfl, iteF ?_⟩
    have s02 := s1.trans s2
    have hT2 := hT.mono s02
    refine ⟨_, rfl, 1, rfl, q0, _, rfl, SqT.of (s02 _ _ e0), nw, fun p2 hp2 => ?_⟩
    have s3 := same_up (o := HO.tup (cutV [V.str "test", V.int a, V.int b, V.int c] (some 1) none)) hp2
    have e3 : (upd H2 p2 (HO.tup (cutV [V.str "test", V.int a, V.int b, V.int c] (some 1) none))) p2 = some (.tup [V.int a, V.int b, V.int c]) := upd_same
    refine ⟨p2, _, rfl, SqT.of e3, rfl, _, _, rfl, _, _, rfl, _, _, rfl, rfl, ?_⟩
    generalize upd H2 p2 (HO.tup (cutV [V.str "test", V.int a, V.int b, V.int c] (some 1) none)) = H3 at s3 e3 ⊢
    have hT3 := hT2.mono s3
    have cab := hk.ent _ _ ca cb
    have cbc := hk.ent _ _ cb cc
    refine ⟨_, rfl, _, rfl, _, rfl, _, rfl, tab_end hT3 hk ca cb fun H4 s4 => ⟨_, rfl, tab_end (hT3.mono s4) hk cab cc fun H5 s5 => ?_⟩⟩
    have hT5 := (hT3.mono s4).mono s5
    refine ⟨_, rfl, _, rfl, _, rfl, _, rfl, _, rfl, tab_end hT5 hk cb cc fun H6 s6 => ?_⟩
    refine tab_end (hT5.mono s6) hk ca cbc fun H7 s7 => ⟨le2, fun pr hpr => ?_⟩
    have s8 := same_up (o := HO.tup [V.int (tb R (tb R a b) c), V.int (tb R a (tb R b c))]) hpr
    have e8 : (upd H7 pr (.tup [V.int (tb R (tb R a b) c), V.int (tb R a (tb R b c))])) pr = some (.tup [V.int (tb R (tb R a b) c), V.int (tb R a (tb R b c))]) := upd_same
    generalize upd H7 pr (.tup [V.int (tb R (tb R a b) c), V.int (tb R a (tb R b c))]) = H8 at s8 e8 ⊢
    refine ⟨_, rfl, _, rfl, _, rfl, le2, fun u hu' => ⟨_, rfl, _, rfl, le2, fun v hv => ⟨le2, fun uv huv => ?_⟩⟩⟩
    have t1 := same_up (o := HO.tup [V.int x, V.int y]) hu'
    have t2 := same_up (o := HO.tup [V.int y, V.int x]) hv
    have t3 := same_up (o := HO.tup [V.ref u, V.ref v]) huv
    refine ⟨pD _ _, [pD x y, pD y x], dp_pair (t3 _ _ (t2 _ _ (t1 _ _ e8))), .tup (SqT.of upd_same) (.cons (dp_pair (t3 _ _ (t2 _ _ upd_same))) (.cons (dp_pair (t3 _ _ upd_same)) .nil)), pD_shaped _ _, pDs_shaped _ _ _ _, ?_⟩
    refine q _ _ ((((((((s02.trans s3).trans s4).trans s5).trans s6).trans s7).trans s8).trans t1).trans (t2.trans t3)) fun h => ?_
    have ct := Cong.test (R := R) ca cb cc
    simp only [List.any_cons, List.any_nil, Bool.or_false, Bool.or_eq_true] at h
    rcases h with h | h
    · obtain ⟨h1, h2⟩ := pD_eqv h
      rw [h1, h2]
      exact ct
    · obtain ⟨h1, h2⟩ := pD_eqv h
      rw [h1, h2]
      exact ct.symm
end
end K86

namespace K86
open PySem PySem.Spec PyProof.Rows L2
/-! ### steps as data -/
def Lay (n : Nat) (e : PyData) : Prop := e.canLay0 = true ∧ e.depth ≤ n
theorem Lay.mono {n m : Nat} {e : PyData} (h : n ≤ m) (l : Lay n e) : Lay m e := ⟨l.1, Nat.le_trans l.2 h⟩
theorem Lay.shaped {n : Nat} {e : PyData} (h : n ≤ 64) (l : Lay n e) : SeqAt.shaped e = true := by
  show (e.canLay0 && decide (e.depth ≤ 64)) = true
  rw [Bool.and_eq_true]
  exact ⟨l.1, decide_eq_true (Nat.le_trans l.2 h)⟩
def LayAll (n : Nat) (es : List PyData) : Prop := PyData.canLayAll0 es = true ∧ PyData.depthAll es ≤ n
theorem LayAll.nil {n : Nat} : LayAll n [] := ⟨by simp [PyData.canLayAll0], by simp [PyData.depthAll]⟩
theorem LayAll.cons {n : Nat} {e : PyData} {es : List PyData} (h : Lay n e) (hs : LayAll n es) : LayAll n (e :: es) :=
  ⟨by simp [PyData.canLayAll0, h.1, hs.1], by simp only [PyData.depthAll]; exact Nat.max_le.mpr ⟨h.2, hs.2⟩⟩
theorem Lay.int {n : Nat} (i : Int) : Lay n (.int i) := ⟨by simp [PyData.canLay0], by simp [PyData.depth]⟩
theorem Lay.str {n : Nat} {x : Str} (h : PyData.strOk x = true) : Lay n (.str x) := ⟨by simp [PyData.canLay0, h], by simp [PyData.depth]⟩
theorem Lay.tup {n : Nat} {es : List PyData} (h : LayAll n es) : Lay (n + 1) (.tuple es) := ⟨by simp only [PyData.canLay0]; exact h.1, by have := h.2; simp only [PyData.depth]; omega⟩
theorem Lay.lst {n : Nat} {es : List PyData} (h : LayAll n es) : Lay (n + 1) (.list es) := ⟨by simp only [PyData.canLay0]; exact h.1, by have := h.2; simp only [PyData.depth]; omega⟩
theorem dpAll_of {K : PySem.W.Frag} {H : Hp} {n : Nat} : ∀ {vs : List V}, (∀ v ∈ vs, ∃ e, Dp K H v e ∧ Lay n e) → ∃ es, DpAll K H vs es ∧ LayAll n es
  | [], _ => ⟨[], .nil, LayAll.nil⟩
  | v :: vs, h => by
    obtain ⟨e, h1, h2⟩ := h v List.mem_cons_self
    obtain ⟨es, h3, h4⟩ := dpAll_of (vs := vs) fun w hw => h w (List.mem_cons_of_mem _ hw)
    exact ⟨e :: es, .cons h1 h3, .cons h2 h4⟩
theorem ok_test : PyData.strOk "test" = true := by decide +kernel
theorem ok_put : PyData.strOk "put" = true := by decide +kernel
theorem StepAt.dp {K : PySem.W.Frag} {k : Nat} {H : Hp} : ∀ {d : Nat} {v : V} {x y : Int}, StepAt k d H v x y →
    (∃ e, Dp K H v e ∧ Lay (3 * d) e) ∧ ∃ p q, v = .ref p ∧ H p = some (.tup [.int x, .int y, .ref q]) ∧ (∃ e es, Dp K H (.ref q) (.tuple (e :: es)) ∧ Lay (3 * d) (.tuple (e :: es)))
  | 0, _, _, _, h => h.elim
  | d + 1, v, x, y, h => by
    obtain ⟨p, q, rfl, e1, c1, c2, h⟩ := h
    have key : ∃ e es, Dp K H (.ref q) (.tuple (e :: es)) ∧ Lay (3 * d + 2) (.tuple (e :: es)) := by
      rcases h with ⟨a, b, c, e2, _⟩ | ⟨c, u, z, l, vs, e2, _, _, _, e3, _, st⟩
      · exact ⟨_, _, .tup (SqT.of e2) (.cons (.str _) (.cons (.int _) (.cons (.int _) (.cons (.int _) .nil)))), Lay.tup (.cons (Lay.str ok_test) (.cons (Lay.int _) (.cons (Lay.int _) (.cons (Lay.int _) .nil))))⟩
      · obtain ⟨es, h1, h2⟩ := dpAll_of (K := K) (n := 3 * d) (vs := vs) fun w hw => by
          obtain ⟨x', y', hs⟩ := st w hw
          exact (StepAt.dp hs).1
        exact ⟨_, _, .tup (SqT.of e2) (.cons (.str _) (.cons (.int _) (.cons (.int _) (.cons (.int _) (.cons (.lst (SqL.of e3) h1) .nil))))),
          Lay.tup (.cons (Lay.str ok_put) (.cons (Lay.int _) (.cons (Lay.int _) (.cons (Lay.int _) (.cons (Lay.lst h2) .nil)))))⟩
    obtain ⟨e, es, h1, h2⟩ := key
    exact ⟨⟨_, .tup (SqT.of e1) (.cons (.int _) (.cons (.int _) (.cons h1 .nil))), (Lay.tup (.cons (Lay.int _) (.cons (Lay.int _) (.cons h2 .nil)))).mono (by omega)⟩, p, q, rfl, e1, e, es, h1, h2.mono (by omega)⟩
theorem eqv_cons_nil (e : PyData) (es : List PyData) : PyData.eqv (.tuple (e :: es)) (.tuple []) = false := by simp only [PyData.eqv, PyData.eqvAll]
theorem pgTup {X : Cx} (K : PySem.W.Frag) (hK : X.K = K) {es : List Expr} {k : Nat} {t : TGs} {n : Nat} {pos : Pos} (hc : X.calm = true) (h : PGs X es t)
    (hn : (assignEach es X.env).length = n := by rfl) (hst : (assignEach es X.env).findIdx? (·.1) = none := by rfl) : PG X (.Tuple es k pos) (gTup K n t) := by
  subst hK
  exact pg_tup hc h hn hst
/-! ### chains of colours -/
theorem chain_cong {k : Nat} {R : Tab} : ∀ {es : List (Int × Int)} {a : Int}, (∀ (i : Nat) e, es[i]? = some e → Cong k R e.1 e.2) → (∀ (i : Nat) e c, es[i]? = some e → (a :: es.map Prod.snd)[i]? = some c → e.1 = c) →
    ∀ {b : Int}, (a :: es.map Prod.snd).getLast? = some b → Cong k R a b
  | [], a, _, _, b, h => by cases h; exact Cong.refl _
  | e :: es, a, h1, h2, b, h => by
    have e1 : e.1 = a := h2 0 e a rfl rfl
    have c1 := h1 0 e rfl
    rw [e1] at c1
    refine c1.trans (chain_cong (es := es) (a := e.2) (fun i f hf => h1 (i + 1) f hf) (fun i f c hf hc => h2 (i + 1) f c hf hc) ?_)
    rw [← h, List.map_cons, List.getLast?_cons_cons]
theorem at_end {cs : List Int} {c : Int} (h : cs.getLast? = some c) : atI (cs.map V.int) (-1) = some (.int c) := by
  obtain ⟨ys, rfl⟩ := List.getLast?_eq_some_iff.mp h
  rw [List.map_append]
  exact atI_last _ _
section
variable {P : Program} {w : World} {K : PySem.W.Frag} {mg : Str → Option Value} {base : Heap}
/-- the contracts of is_put, is_step, are_steps at depth d -/
def spIsPut (C : Addr) (d : Nat) : Sp := fun vs H Q _ => ∃ (t q l : Addr) (R : Tab) (k : Nat) (x y c u z : Int) (ws : List V), vs = [.ref t, .int x, .int y, .ref q] ∧ TabAt C H t R ∧ OkTab k R ∧ k ≤ 8 ∧ d ≤ 20 ∧ Col k x ∧ Col k y ∧
  H q = some (.tup [.str "put", .int c, .int u, .int z, .ref l]) ∧ Col k c ∧ Col k u ∧ Col k z ∧ H l = some (.lst ws) ∧ ws.length ≤ 8 ∧ (∀ w ∈ ws, ∃ x y, StepAt k d H w x y) ∧
  ∀ (r : Bool) (H' : Hp), Same H H' → (r = true → Cong k R x y) → Q (.bl r) H'
def spIsStep (C : Addr) (d : Nat) : Sp := fun vs H Q _ => ∃ (t : Addr) (v : V) (R : Tab) (k : Nat) (x y : Int), vs = [.ref t, v] ∧ TabAt C H t R ∧ OkTab k R ∧ k ≤ 8 ∧ d ≤ 20 ∧ StepAt k d H v x y ∧
  ∀ (r : Bool) (H' : Hp), Same H H' → (r = true → Cong k R x y) → Q (.bl r) H'
def spAreSteps (C : Addr) (d : Nat) : Sp := fun vs H Q _ => ∃ (t l : Addr) (R : Tab) (k : Nat) (a b : Int) (ws : List V), vs = [.ref t, .int a, .int b, .ref l] ∧ TabAt C H t R ∧ OkTab k R ∧ k ≤ 8 ∧ d ≤ 20 ∧ Col k a ∧ Col k b ∧
  H l = some (.lst ws) ∧ ws.length ≤ 8 ∧ (∀ w ∈ ws, ∃ x y, StepAt k d H w x y) ∧
  ∀ (r : Bool) (H' : Hp), Same H H' → (r = true → Cong k R a b) → Q (.bl r) H'
theorem go_Put (T : Txt K mg) (d m : Nat) (hm : 5 ≤ m) (GA : FnOk P w K mg base CX0 m T.AreSteps.f T.AreSteps.fd ["table", "start", "end", "value"] (spAreSteps T.C d)) :
    FnOk P w K mg base CX0 (m + 1) T.IsPut.f T.IsPut.fd ["table", "one", "other", "why"] (spIsPut T.C d) := by
  have GG : FnOk P w K mg base CX0 4 T.TGet.f T.TGet.fd ["self", "pair"] (spTGet T.C) := ok_TGet T
  have GZ : FnOk P w K mg base CX0 1 T.TSize.f T.TSize.fd ["self"] (spTSize T.C) := ok_TSize T
  have GC : FnOk P w K mg base CX0 2 T.IsCol.f T.IsCol.fd ["size", "value"] spIsCol := ok_IsCol T
  refine T.IsPut.F.ok scIsPut (fun vs H Q E h => ?_) (fun cdv A outer s H vs Q E hr h => ?_)
  · obtain ⟨t, q, l, R, k, x, y, c, u, z, ws, rfl, _⟩ := h
    rfl
  obtain ⟨t, q0, l, R, k, x, y, c, u, z, ws, rfl, hT, hk, h8, h20, cx, cy, e0, cc, cu, cz, el, lw, st, q⟩ := h
  refine ⟨_, pss_cons (ps_if (PW.pt (pw_or (pt_cmpR op_ne (pe_callB call_len_seq rfl T.z_len b_len (pa_cons (pv 3) pa_nil)) pe_int (nomark _))
      (pw_or1 (pt_not (pt_val (pe_callB (cr_all rfl) rfl T.z_all b_all (pa_cons (pe_lc (own := [("colour", 7)]) (g := gName 7) (tt := tYes) rfl scIsPut.nd (pi_tup (pe_slice sl_tup (pv 3) (po_some pe_int) (po_some pe_int)))
        (blkOk_by (N := nIsPut) (sc := defScope sIsPut) (by decide +kernel)) (fun _ _ _ _ _ => pg_name (i := 7) scIsPut.nd rfl (Or.inl rfl)) (fun _ _ _ _ _ => pts_nil)
        (fun _ _ _ _ _ => pe_call GC (hr.mono (by omega)) rfl T.IsCol.g T.IsCol.F.kp T.IsCol.b .nil pass0 (pa_cons (pe_prop (pv 0) T.clC T.prSize GZ (hr.mono (by omega)) T.TSize.b .nil pass0 rfl) (pa_cons (pv 7) pa_nil)))) pa_nil)))))))
      (pss_one (ps_ret pe_bl)) pss_nil)
    (pss_cons (ps_asg (pe_slice sl_tup (pv 3) (po_some pe_int) (po_some pe_int)) (pg_tup rfl (pgs_cons (pg_name (i := 4) scIsPut.nd rfl (.inl rfl)) (pgs_cons (pg_name (i := 5) scIsPut.nd rfl (.inl rfl)) (pgs_cons (pg_name (i := 6) scIsPut.nd rfl (.inl rfl)) pgs_nil)))))
    (pss_one (ps_ret (pe_and (pe_cmpR (op_eqD hr.units) (pe_tup (pa_cons (pv 1) (pa_cons (pv 2) pa_nil)))
      (pe_tup (pa_cons (pe_getit T.clC T.getC GG (hr.mono (by omega)) T.TGet.b (pv 0) (pe_tup (pa_cons (pv 5) (pa_cons (pv 4) pa_nil))))
        (pa_cons (pe_getit T.clC T.getC GG (hr.mono (by omega)) T.TGet.b (pv 0) (pe_tup (pa_cons (pv 6) (pa_cons (pv 4) pa_nil)))) pa_nil))) (nomark _))
      (pe_one (pe_call GA hr rfl T.AreSteps.g T.AreSteps.F.kp T.AreSteps.b .nil pass0 (pa_cons (pv 0) (pa_cons (pv 5) (pa_cons (pv 6) (pa_cons (pe_ix ix_tup (pv 3) pe_int (fun _ _ => rfl)) pa_nil)))))))))), ?_⟩
  have nw : ¬ (HT.sIx 5 0 (some 1) = 0 ∧ HT.sIx 5 5 (some 4) = 5) := by decide
  refine ⟨_, rfl, q0, _, rfl, .inr (SqT.of e0), rfl, _, rfl, iteF ?_⟩
  refine ⟨_, rfl, 1, rfl, 4, rfl, q0, _, rfl, SqT.of e0, nw, fun p1 hp1 => ?_⟩
  have s1 := same_up (o := HO.tup (cutV [V.str "put", V.int c, V.int u, V.int z, V.ref l] (some 1) (some 4))) hp1
  have e1 : (upd H p1 (HO.tup (cutV [V.str "put", V.int c, V.int u, V.int z, V.ref l] (some 1) (some 4)))) p1 = some (.tup ([c, u, z].map V.int)) := upd_same
  generalize upd H p1 (HO.tup (cutV [V.str "put", V.int c, V.int u, V.int z, V.ref l] (some 1) (some 4))) = H1 at s1 e1 ⊢
  have hT1 := hT.mono s1
  have sq : ∀ {H' : Hp}, Same H1 H' → SqT K H' p1 ([c, u, z].map V.int) := fun z => SqT.of (z _ _ e1)
  refine ⟨p1, rfl, ⟨_, sq (Same.refl _)⟩, fun D hD => lc_map (n := 3) hD (small1000 (by decide)) (fun i z _ => ∃ n, z = .int n ∧ Col k n) (fun _ v _ => v = .bl true) (fun _ _ _ _ _ p => p)
    (fun i H' hi s => itt_go (sq s) hi) (fun i H' z H'' hi s y => ?_) (fun H' s => itt_st (sq s)) ?_ ?_⟩
  · obtain ⟨rfl, e⟩ := itt_yl (sq s) y
    obtain ⟨n, en, rfl⟩ := of_getI e
    refine ⟨Same.refl _, n, rfl, ?_⟩
    have hm := List.mem_of_getElem? en
    simp only [List.mem_cons, List.not_mem_nil, or_false] at hm
    rcases hm with rfl | rfl | rfl
    · exact cc
    · exact cu
    · exact cz
  · rintro i z H2 hi ⟨n, rfl, cn⟩ s2 nD Qe hQ
    have hT2 := hT1.mono s2
    obtain ⟨dx, l, ht, _⟩ := id hT2
    refine ⟨rfl, _, rfl, t, dx, _, rfl, ht, t, R, k, rfl, hT2, hk, _, rfl, k, n, rfl, fun r hr => ?_⟩
    obtain rfl : r = true := hr.mpr cn
    exact hQ _ _ (Same.refl _) rfl
  · intro ys H2 s2 eD hn hy
    refine ⟨D, List.replicate 3 true, rfl, SqL.of (by rw [eD, all_true hn hy]), ?_⟩
    rw [rep_all]
    refine ⟨true, rfl, iteF ?_⟩
    have s02 := s1.trans s2
    have hT2 := hT.mono s02
    refine ⟨_, rfl, 1, rfl, 4, rfl, q0, _, rfl, SqT.of (s02 _ _ e0), nw, fun p2 hp2 => ?_⟩
    have s3 := same_up (o := HO.tup (cutV [V.str "put", V.int c, V.int u, V.int z, V.ref l] (some 1) (some 4))) hp2
    have e3 : (upd H2 p2 (HO.tup (cutV [V.str "put", V.int c, V.int u, V.int z, V.ref l] (some 1) (some 4)))) p2 = some (.tup [V.int c, V.int u, V.int z]) := upd_same
    refine ⟨p2, _, rfl, SqT.of e3, rfl, _, _, rfl, _, _, rfl, _, _, rfl, rfl, ?_⟩
    generalize upd H2 p2 (HO.tup (cutV [V.str "put", V.int c, V.int u, V.int z, V.ref l] (some 1) (some 4))) = H3 at s3 e3 ⊢
    have hT3 := hT2.mono s3
    refine ⟨_, rfl, _, rfl, le2, fun p4 hp4 => ?_⟩
    have s4 := same_up (o := HO.tup [V.int x, V.int y]) hp4
    have e4 : (upd H3 p4 (.tup [V.int x, V.int y])) p4 = some (.tup [V.int x, V.int y]) := upd_same
    generalize upd H3 p4 (.tup [V.int x, V.int y]) = H4 at s4 e4 ⊢
    have hT4 := hT3.mono s4
    refine ⟨_, rfl, _, rfl, _, rfl, tab_end hT4 hk cu cc fun H5 s5 => ⟨_, rfl, _, rfl, _, rfl, tab_end (hT4.mono s5) hk cz cc fun H6 s6 => ⟨le2, fun p7 hp7 => ?_⟩⟩⟩
    have s7 := same_up (o := HO.tup [V.int (tb R u c), V.int (tb R z c)]) hp7
    have s47 := (s5.trans s6).trans s7
    refine ⟨pD x y, pD (tb R u c) (tb R z c), dp_pair (s47 _ _ e4), dp_pair upd_same, pD_shaped _ _, pD_shaped _ _, _, rfl, ite2 (fun h => ?_) (fun h => ?_)⟩
    · obtain ⟨h1, h2⟩ := pD_eqv h
      have s07 := ((s02.trans s3).trans s4).trans s47
      refine ⟨_, rfl, _, rfl, _, rfl, _, rfl, q0, _, _, _, rfl, rfl, SqT.of (s07 _ _ e0), atI_nat (j := 4) rfl, t, l, R, k, u, z, ws, rfl, hT.mono s07, hk, h8, h20, cu, cz, s07 _ _ el, lw, fun w hw => (st w hw).elim fun x' hx => hx.elim fun y' hy => ⟨x', y', hy.mono s07⟩, fun r H8 s8 hr => ?_⟩
      refine q _ _ (s07.trans s8) fun e => ?_
      rw [h1, h2]
      exact Cong.put cu cz cc (hr e)
    · exact q _ _ (((s02.trans s3).trans s4).trans s47) (fun e => by cases e)
end
end K86

namespace K86
open PySem PySem.Spec PyProof.Rows L2
theorem paired_of {k d : Nat} {H : Hp} : ∀ {ws : List V}, (∀ w ∈ ws, ∃ x y, StepAt k d H w x y) → ∃ es, StepsAt k d H ws es
  | [], _ => ⟨[], .nil⟩
  | w :: ws, h => by
    obtain ⟨x, y, h1⟩ := h w List.mem_cons_self
    obtain ⟨es, h2⟩ := paired_of (ws := ws) fun v hv => h v (List.mem_cons_of_mem _ hv)
    exact ⟨(x, y) :: es, .cons h1 h2⟩
section
variable {P : Program} {w : World} {K : PySem.W.Frag} {mg : Str → Option Value} {base : Heap}
theorem go_Step (T : Txt K mg) (d m : Nat) (hm : 7 ≤ m) (GP : FnOk P w K mg base CX0 m T.IsPut.f T.IsPut.fd ["table", "one", "other", "why"] (spIsPut T.C d)) :
    FnOk P w K mg base CX0 (m + 1) T.IsStep.f T.IsStep.fd ["table", "step"] (spIsStep T.C (d + 1)) := by
  have GT : FnOk P w K mg base CX0 6 T.IsTest.f T.IsTest.fd ["table", "one", "other", "why"] (spIsTest T.C) := ok_IsTest T
  have GZ : FnOk P w K mg base CX0 1 T.TSize.f T.TSize.fd ["self"] (spTSize T.C) := ok_TSize T
  have GC : FnOk P w K mg base CX0 2 T.IsCol.f T.IsCol.fd ["size", "value"] spIsCol := ok_IsCol T
  refine T.IsStep.F.ok scIsStep (fun vs H Q E h => ?_) (fun cdv A outer s H vs Q E hr h => ?_)
  · obtain ⟨t, v, R, k, x, y, rfl, _⟩ := h
    rfl
  obtain ⟨t, v, R, k, x, y, rfl, hT, hk, h8, h20, hs, q⟩ := h
  have hs0 := hs
  obtain ⟨p0, q0, rfl, ep, cx, cy, hs⟩ := hs
  refine ⟨_, pss_cons (ps_if (PW.pt (pw_or (pt_not (pt_val (pe_callB call_isi rfl T.z_isinstance b_isinstance (pa_cons (pv 1) (pa_cons (pe_bltn (v := .ty "tuple") rfl T.z_tuple b_tuple rfl) pa_nil)))))
      (pw_or (pt_cmpR op_ne (pe_callB call_len_seq rfl T.z_len b_len (pa_cons (pv 1) pa_nil)) pe_int (nomark _))
      (pw_or (pt_not (pt_val (pe_callB call_isi rfl T.z_isinstance b_isinstance (pa_cons (pe_ix ix_tup (pv 1) pe_int (fun _ _ => rfl)) (pa_cons (pe_bltn (v := .ty "tuple") rfl T.z_tuple b_tuple rfl) pa_nil)))))
      (pw_or1 (pt_cmpR (op_eqD hr.units) (pe_ix ix_tup (pv 1) pe_int (fun _ _ => rfl)) (pe_tup pa_nil) (nomark _))))))) (pss_one (ps_ret pe_bl)) pss_nil)
    (pss_cons (ps_asg (pv 1) (pg_tup rfl (pgs_cons (pg_name (i := 2) scIsStep.nd rfl (.inl rfl)) (pgs_cons (pg_name (i := 3) scIsStep.nd rfl (.inl rfl)) (pgs_cons (pg_name (i := 4) scIsStep.nd rfl (.inl rfl)) pgs_nil)))))
    (pss_cons (ps_if (PW.pt (pw_or (pt_not (pt_val (pe_call GC (hr.mono (by omega)) rfl T.IsCol.g T.IsCol.F.kp T.IsCol.b .nil pass0 (pa_cons (pe_prop (pv 0) T.clC T.prSize GZ (hr.mono (by omega)) T.TSize.b .nil pass0 rfl) (pa_cons (pv 2) pa_nil)))))
      (pw_or (pt_not (pt_val (pe_call GC (hr.mono (by omega)) rfl T.IsCol.g T.IsCol.F.kp T.IsCol.b .nil pass0 (pa_cons (pe_prop (pv 0) T.clC T.prSize GZ (hr.mono (by omega)) T.TSize.b .nil pass0 rfl) (pa_cons (pv 3) pa_nil)))))
      (pw_or1 (pt_not (pt_val (pe_callB call_isi rfl T.z_isinstance b_isinstance (pa_cons (pe_ix ix_tup (pv 4) pe_int (fun _ _ => rfl)) (pa_cons (pe_bltn (v := .ty "str") rfl T.z_str b_str rfl) pa_nil))))))))) (pss_one (ps_ret pe_bl)) pss_nil)
    (pss_cons (ps_if (pt_cmpR op_eq (pe_ix ix_tup (pv 4) pe_int (fun _ _ => rfl)) pe_str (nomark _))
      (pss_one (ps_ret (pe_call GT (hr.mono (by omega)) rfl T.IsTest.g T.IsTest.F.kp T.IsTest.b .nil pass0 (pa_cons (pv 0) (pa_cons (pv 2) (pa_cons (pv 3) (pa_cons (pv 4) pa_nil))))))) pss_nil)
    (pss_one (ps_ret (pe_and (pe_cmpR op_eq (pe_ix ix_tup (pv 4) pe_int (fun _ _ => rfl)) pe_str (nomark _))
      (pe_one (pe_call GP hr rfl T.IsPut.g T.IsPut.F.kp T.IsPut.b .nil pass0 (pa_cons (pv 0) (pa_cons (pv 2) (pa_cons (pv 3) (pa_cons (pv 4) pa_nil)))))))))))), ?_⟩
  -- the shape of the step
  refine ⟨_, rfl, .ref p0, .ty "tuple", .type "tuple", .type "tuple", true, rfl, .ty _, .base (.tup ep), k_tup_tup, true, rfl, iteF ?_⟩
  refine ⟨_, rfl, p0, _, rfl, .inr (SqT.of ep), rfl, _, rfl, iteF ?_⟩
  have eq : ∃ (zs : Str) (rest : List V), H q0 = some (.tup (.str zs :: rest)) := by
    rcases hs with ⟨a, b, c, e2, _⟩ | ⟨c, u, z, l, vs, e2, _⟩
    · exact ⟨_, _, e2⟩
    · exact ⟨_, _, e2⟩
  obtain ⟨zs, rest, eq⟩ := eq
  refine ⟨_, rfl, p0, _, _, _, rfl, rfl, SqT.of ep, atI_nat (j := 2) rfl, .ref q0, .ty "tuple", .type "tuple", .type "tuple", true, rfl, .ty _, .base (.tup eq), k_tup_tup, true, rfl, iteF ?_⟩
  refine ⟨_, rfl, p0, _, _, _, rfl, rfl, SqT.of ep, atI_nat (j := 2) rfl, Nat.zero_le _, fun pe hpe => ?_⟩
  have s1 := same_up (o := HO.tup []) hpe
  obtain ⟨_, p', q', ev', ep', e0, es0, dq, ly⟩ := (hs0.mono s1).dp (K := K)
  cases ev'
  have ep1 := s1 _ _ ep
  rw [ep1] at ep'
  injection ep' with ep'
  injection ep' with ep'
  injection ep' with _ ep'
  injection ep' with _ ep'
  injection ep' with ep' _
  injection ep' with ep'
  subst ep'
  refine ⟨_, _, dq, .tup (SqT.of upd_same) .nil, ly.shaped (by omega), (Lay.tup (LayAll.nil (n := 0))).shaped (by decide), _, rfl, ?_⟩
  rw [eqv_cons_nil]
  refine iteF ?_
  have hT1 := hT.mono s1
  have eq1 := s1 _ _ eq
  have hs1 := hs0.mono s1
  generalize upd H pe (.tup []) = H1 at s1 hT1 ep1 eq1 hs1 ⊢
  -- one, other, why = step
  refine ⟨_, rfl, p0, _, rfl, SqT.of ep1, rfl, _, _, rfl, _, _, rfl, _, _, rfl, rfl, ?_⟩
  obtain ⟨dx, lt, ht, _⟩ := id hT1
  refine ⟨_, rfl, t, dx, _, rfl, ht, t, R, k, rfl, hT1, hk, _, rfl, k, x, rfl, fun r1 hr1 => ?_⟩
  obtain rfl : r1 = true := hr1.mpr cx
  refine ⟨_, rfl, iteF ⟨_, rfl, t, dx, _, rfl, ht, t, R, k, rfl, hT1, hk, _, rfl, k, y, rfl, fun r2 hr2 => ?_⟩⟩
  obtain rfl : r2 = true := hr2.mpr cy
  refine ⟨_, rfl, iteF ⟨_, rfl, q0, _, _, _, rfl, rfl, SqT.of eq1, atI_nat (j := 0) rfl, .str zs, .ty "str", .type "str", .type "str", true, rfl, .ty _, .base (.str _), k_str_str, true, rfl, iteF ?_⟩⟩
  obtain ⟨p2, q2, ev2, ep2, _, _, hs⟩ := hs1
  cases ev2
  rw [ep1] at ep2
  cases ep2
  rcases hs with ⟨a, b, c, e2, ca, cb, cc⟩ | ⟨c, u, z, l, ws, e2, cc, cu, cz, el, lw, st⟩
  · refine ⟨_, rfl, q0, _, _, _, rfl, rfl, SqT.of e2, atI_nat (j := 0) rfl, rfl, _, rfl, ?_⟩
    rw [decide_eq_true rfl]
    refine iteT ⟨_, rfl, _, rfl, _, rfl, _, rfl, t, q0, R, k, x, y, a, b, c, rfl, hT1, hk, h8, cx, cy, e2, ca, cb, cc, fun r H2 s2 hr => q _ _ (s1.trans s2) hr⟩
  · refine ⟨_, rfl, q0, _, _, _, rfl, rfl, SqT.of e2, atI_nat (j := 0) rfl, rfl, _, rfl, ?_⟩
    rw [decide_eq_false (fun z => str_ne (V.str.inj z).symm)]
    refine iteF ⟨_, rfl, q0, _, _, _, rfl, rfl, SqT.of e2, atI_nat (j := 0) rfl, rfl, _, rfl, ?_⟩
    rw [decide_eq_true rfl]
    refine iteT ⟨_, rfl, _, rfl, _, rfl, _, rfl, t, q0, l, R, k, x, y, c, u, z, ws, rfl, hT1, hk, h8, by omega, cx, cy, e2, cc, cu, cz, el, lw, st, fun r H2 s2 hr => q _ _ (s1.trans s2) hr⟩
end
end K86

namespace K86
open PySem PySem.Spec PyProof.Rows L2
theorem get_map_all {bs : List Bool} (h : bs.all id = true) {i : Nat} {b : Bool} (e : bs[i]? = some b) : b = true := List.all_eq_true.mp h b (List.mem_of_getElem? e)
theorem of_getB {bs : List Bool} {i : Nat} {v : V} (h : (bs.map V.bl)[i]? = some v) : ∃ b, bs[i]? = some b ∧ v = .bl b := by
  rw [List.getElem?_map] at h
  cases e : bs[i]? with
  | none => rw [e] at h; cases h
  | some z => rw [e] at h; exact ⟨z, rfl, (Option.some.inj h).symm⟩
section
variable {P : Program} {w : World} {K : PySem.W.Frag} {mg : Str → Option Value} {base : Heap}
theorem go_Are (T : Txt K mg) (d m : Nat) (hm : 3 ≤ m) (GS : FnOk P w K mg base CX0 m T.IsStep.f T.IsStep.fd ["table", "step"] (spIsStep T.C d)) :
    FnOk P w K mg base CX0 (m + 1) T.AreSteps.f T.AreSteps.fd ["table", "start", "end", "value"] (spAreSteps T.C d) := by
  refine T.AreSteps.F.ok scAreSteps (fun vs H Q E h => ?_) (fun cdv A outer s H vs Q E hr h => ?_)
  · obtain ⟨t, l, R, k, a, b, ws, rfl, _⟩ := h
    rfl
  obtain ⟨t, l, R, k, a, b, ws, rfl, hT, hk, h8, h20, ca, cb, el, lw, st, q⟩ := h
  refine ⟨_, pss_cons (ps_if (PW.pt (pw_or (pt_not (pt_val (pe_callB call_isi rfl T.z_isinstance b_isinstance (pa_cons (pv 3) (pa_cons (pe_bltn (v := .ty "list") rfl T.z_list b_list rfl) pa_nil)))))
      (pw_or1 (pt_not (pt_val (pe_callB (cr_all rfl) rfl T.z_all b_all (pa_cons (pe_lc (own := [("step", 5)]) (g := gName 5) (tt := tYes) rfl scAreSteps.nd (pi_list (pv 3))
        (blkOk_by (N := nAreSteps) (sc := defScope sAreSteps) (by decide +kernel)) (fun _ _ _ _ _ => pg_name (i := 5) scAreSteps.nd rfl (Or.inl rfl)) (fun _ _ _ _ _ => pts_nil)
        (fun _ _ _ _ _ => pe_call GS hr rfl T.IsStep.g T.IsStep.F.kp T.IsStep.b .nil pass0 (pa_cons (pv 0) (pa_cons (pv 5) pa_nil)))) pa_nil)))))))
      (pss_one (ps_ret pe_bl)) pss_nil)
    (pss_cons (ps_set (i := 4) scAreSteps.nd rfl (.inl rfl) (pe_op op_cat (pe_lst (pa_cons (pv 1) pa_nil)) (pe_lc (own := [("step", 5)]) (g := gName 5) (tt := tYes) rfl scAreSteps.nd (pi_list (pv 3))
        (blkOk_by (N := nAreSteps) (sc := defScope sAreSteps) (by decide +kernel)) (fun _ _ _ _ _ => pg_name (i := 5) scAreSteps.nd rfl (Or.inl rfl)) (fun _ _ _ _ _ => pts_nil)
        (fun _ _ _ _ _ => pe_ix (ixT K rfl) (pv 5) pe_int (fun _ _ => rfl)))))
    (pss_one (ps_ret (pe_and (pe_cmpR op_eq (pe_ix ix_list (pv 4) (pe_un un_neg pe_int) (fun _ _ => rfl)) (pv 2) (nomark _))
      (pe_one (pe_callB (cr_all rfl) rfl T.z_all b_all (pa_cons (pe_lc (own := [("step", 5), ("colour", 6)]) (g := gTup K 2 (gCons (gName 5) (gCons (gName 6) gNil))) (tt := tYes) rfl scAreSteps.nd (pi_zipF rfl T.z_zip (pa_cons (pv 3) (pa_cons (pv 4) pa_nil)))
        (blkOk_by (N := nAreSteps) (sc := defScope sAreSteps) (by decide +kernel)) (fun _ _ _ _ _ => pgTup K rfl rfl (pgs_cons (pg_name (i := 5) scAreSteps.nd rfl (Or.inl rfl)) (pgs_cons (pg_name (i := 6) scAreSteps.nd rfl (Or.inl rfl)) pgs_nil))) (fun _ _ _ _ _ => pts_nil)
        (fun _ _ _ _ _ => pe_cmpR op_eq (pe_ix (ixT K rfl) (pv 5) pe_int (fun _ _ => rfl)) (pv 6) (nomark _))) pa_nil))))))), ?_⟩
  obtain ⟨es, pd⟩ := paired_of st
  have le := pd_len pd
  have at_ : ∀ {i : Nat} {v : V}, ws[i]? = some v → ∃ e, es[i]? = some e ∧ StepAt k d H v e.1 e.2 := fun h => pd_get pd h
  refine ⟨_, rfl, .ref l, .ty "list", .type "list", .type "list", true, rfl, .ty _, .base (.lst el), k_list_list, true, rfl, iteF ?_⟩
  have sq : ∀ {H' : Hp}, Same H H' → SqL K H' l ws := fun z => SqL.of (z _ _ el)
  refine ⟨_, rfl, l, rfl, ⟨_, sq (Same.refl _)⟩, fun D hD => lc_map (n := ws.length) hD (small1000 (by omega)) (fun i z _ => ws[i]? = some z)
    (fun i v _ => ∃ r, v = .bl r ∧ (r = true → ∀ e, es[i]? = some e → Cong k R e.1 e.2)) (fun _ _ _ _ _ p => p)
    (fun i H' hi s => itl_go (sq s) hi) (fun i H' z H'' hi s y => by obtain ⟨e1, e2⟩ := itl_yl (sq s) y; exact ⟨by rw [e1]; exact Same.refl _, e2⟩) (fun H' s => itl_st (sq s)) ?_ ?_⟩
  · rintro i z H1 hi ez s1 nD Qe hQ
    obtain ⟨e, ee, hs⟩ := at_ ez
    refine ⟨rfl, _, rfl, _, rfl, t, z, R, k, e.1, e.2, rfl, hT.mono s1, hk, h8, h20, hs.mono s1, fun r H2 s2 hr => hQ _ _ s2 ⟨r, rfl, fun h f ef => ?_⟩⟩
    rw [ee] at ef
    cases ef
    exact hr h
  · intro ys H1 s1 eD hn hy
    obtain ⟨bs, rfl⟩ := all_bls (ys := ys) fun i y e => (hy i y e).elim fun r h => ⟨r, h.1⟩
    rw [List.length_map] at hn
    refine ⟨D, bs, rfl, SqL.of eD, _, rfl, ?_⟩
    cases hb : bs.all id with
    | false => exact iteT (q _ _ s1 fun e => by cases e)
    | true =>
      refine iteF ?_
      have hc : ∀ (i : Nat) e, es[i]? = some e → Cong k R e.1 e.2 := fun i e he => by
        have hi := (List.getElem?_eq_some_iff.mp he).1
        have hbi := List.getElem?_eq_getElem (l := bs) (i := i) (by omega)
        obtain ⟨r, h1, h2⟩ := hy i (.bl bs[i]) (by rw [List.getElem?_map, hbi]; rfl)
        cases h1
        exact h2 (get_map_all hb hbi) e he
      -- colours = [start] + [..]
      refine ⟨_, rfl, le1, fun L hL => ?_⟩
      have s2 := same_up (o := HO.lst [V.int a]) hL
      have eL : (upd H1 L (.lst [V.int a])) L = some (.lst [V.int a]) := upd_same
      generalize upd H1 L (.lst [V.int a]) = H2 at s2 eL ⊢
      have s02 := s1.trans s2
      refine ⟨_, rfl, l, rfl, ⟨_, sq s02⟩, fun D2 hD2 => lc_map (n := ws.length) hD2 (small1000 (by omega)) (fun i z _ => ws[i]? = some z)
        (fun i v _ => ∃ e, es[i]? = some e ∧ v = .int e.2) (fun _ _ _ _ _ p => p)
        (fun i H' hi s => itl_go (sq (s02.trans s)) hi) (fun i H' z H'' hi s y => by obtain ⟨e1, e2⟩ := itl_yl (sq (s02.trans s)) y; exact ⟨by rw [e1]; exact Same.refl _, e2⟩) (fun H' s => itl_st (sq (s02.trans s))) ?_ ?_⟩
      · rintro i z H3 hi ez s3 nD Qe hQ
        obtain ⟨e, ee, hs⟩ := at_ ez
        obtain ⟨p, q', rfl, ep⟩ := hs.tup
        exact ⟨rfl, _, rfl, p, _, _, _, rfl, rfl, SqT.of (s3 _ _ (s02 _ _ ep)), atI_nat (j := 1) rfl, hQ _ _ (Same.refl _) ⟨e, ee, rfl⟩⟩
      · intro zs H3 s3 eD2 hn2 hz
        have ezs : zs = (es.map Prod.snd).map V.int := by
          refine List.ext_getElem? fun i => ?_
          by_cases hi : i < ws.length
          · have e1 := List.getElem?_eq_getElem (l := zs) (i := i) (by omega)
            obtain ⟨e, h1, h2⟩ := hz i _ e1
            rw [e1, h2, List.getElem?_map, List.getElem?_map, h1]
            rfl
          · rw [List.getElem?_eq_none (by omega), List.getElem?_eq_none (by rw [List.length_map, List.length_map]; omega)]
        subst ezs
        refine ⟨L, D2, _, _, rfl, rfl, s3 _ _ eL, eD2, small8 (by rw [hn2]; show 1 + ws.length ≤ 1000; omega), fun M hM => ?_⟩
        have s4 := same_up (o := HO.lst ([V.int a] ++ (es.map Prod.snd).map V.int)) hM
        have eM : (upd H3 M (.lst ([V.int a] ++ (es.map Prod.snd).map V.int))) M = some (.lst ((a :: es.map Prod.snd).map V.int)) := upd_same
        generalize upd H3 M (.lst ([V.int a] ++ (es.map Prod.snd).map V.int)) = H4 at s4 eM ⊢
        have s04 := (s02.trans s3).trans s4
        obtain ⟨last, hlast⟩ : ∃ c, (a :: es.map Prod.snd).getLast? = some c := ⟨_, List.getLast?_eq_some_getLast (by simp)⟩
        refine ⟨_, rfl, 1, rfl, M, _, _, _, rfl, rfl, SqL.of eM, at_end hlast, _, rfl, rfl, _, rfl, ite2 (fun hl => ?_) (fun hl => ?_)⟩
        · have elast : last = b := V.int.inj (of_decide_eq_true hl)
          subst elast
          have sqM : ∀ {H' : Hp}, Same H4 H' → SqL K H' M ((a :: es.map Prod.snd).map V.int) := fun z => SqL.of (z _ _ eM)
          have lc : ((a :: es.map Prod.snd).map V.int).length = ws.length + 1 := by rw [List.length_map, List.length_cons, List.length_map, le]
          refine ⟨_, rfl, _, rfl, l, M, _, _, rfl, sq s04, sqM (Same.refl _), fun D3 hD3 => lc_map (n := ws.length) hD3 (small1000 (by omega))
            (fun i z H' => ∃ T p q' e c, z = .ref T ∧ H' T = some (.tup [.ref p, .int c]) ∧ H' p = some (.tup [.int e.1, .int e.2, .ref q']) ∧ es[i]? = some e ∧ (a :: es.map Prod.snd)[i]? = some c)
            (fun i v _ => ∃ r, v = .bl r ∧ (r = true → ∀ e c, es[i]? = some e → (a :: es.map Prod.snd)[i]? = some c → e.1 = c)) (fun _ _ _ _ _ p => p)
            (fun i H' hi s => ⟨ws, _, ws[i], _, sq (s04.trans s), sqM s, List.getElem?_eq_getElem hi, List.getElem?_eq_getElem (by omega)⟩) (fun i H' z H'' hi s y => ?_)
            (fun H' s => ⟨ws, _, sq (s04.trans s), sqM s, .inl (Nat.le_refl _)⟩) ?_ ?_⟩
          · obtain ⟨T', x', y', rfl, hT', rfl, hx, hy'⟩ := y
            have e1 := hx _ (sq (s04.trans s))
            have e2 := hy' _ (sqM s)
            obtain ⟨e, ee, hs⟩ := at_ e1
            obtain ⟨p, q', rfl, ep⟩ := hs.tup
            obtain ⟨c, ec, rfl⟩ := of_getI e2
            exact ⟨same_up hT', T', p, q', e, c, rfl, upd_same, same_up hT' _ _ (s _ _ (s04 _ _ ep)), ee, ec⟩
          · rintro i z H5 hi ⟨T', p, q', e, c, rfl, eT, ep, ee, ec⟩ s5 nD Qe hQ
            refine ⟨T', _, rfl, SqT.of eT, rfl, _, _, rfl, _, _, rfl, rfl, rfl, ?_⟩
            refine ⟨_, rfl, p, _, _, _, rfl, rfl, SqT.of ep, atI_nat (j := 0) rfl, _, rfl, rfl, hQ _ _ (Same.refl _) ⟨_, rfl, fun h f g ef eg => ?_⟩⟩
            rw [ee] at ef
            cases ef
            rw [ec] at eg
            cases eg
            exact V.int.inj (of_decide_eq_true h)
          · intro us H5 s5 eD3 hn3 hu
            obtain ⟨cs, rfl⟩ := all_bls (ys := us) fun i y e => (hu i y e).elim fun r h => ⟨r, h.1⟩
            rw [List.length_map] at hn3
            refine ⟨D3, cs, rfl, SqL.of eD3, q _ _ (s04.trans s5) fun hcs => ?_⟩
            refine chain_cong hc (fun i e c he hc' => ?_) hlast
            have hi := (List.getElem?_eq_some_iff.mp he).1
            have hbi := List.getElem?_eq_getElem (l := cs) (i := i) (by omega)
            obtain ⟨r, h1, h2⟩ := hu i (.bl cs[i]) (by rw [List.getElem?_map, hbi]; rfl)
            cases h1
            exact h2 (get_map_all hcs hbi) e c he hc'
        · exact q _ _ s04 fun e => by cases e
theorem ok_IsStep0 (T : Txt K mg) (m : Nat) : FnOk P w K mg base CX0 m T.IsStep.f T.IsStep.fd ["table", "step"] (spIsStep T.C 0) := by
  have no : ∀ vs H Q E, ¬ spIsStep T.C 0 vs H Q E := fun vs H Q E h => by
    obtain ⟨t, v, R, k, x, y, _, _, _, _, _, hs, _⟩ := h
    exact hs
  exact ⟨fun vs H Q E h => absurd h (no vs H Q E), fun A outer s H args us vs Q E _ _ _ _ h => absurd h (no vs H Q E)⟩
theorem ok_Are (T : Txt K mg) : ∀ d : Nat, FnOk P w K mg base CX0 (3 * d + 9) T.AreSteps.f T.AreSteps.fd ["table", "start", "end", "value"] (spAreSteps T.C d)
  | 0 => go_Are T 0 8 (by decide) (ok_IsStep0 T 8)
  | d + 1 => go_Are T (d + 1) (3 * d + 11) (by omega) (go_Step T d (3 * d + 10) (by omega) (go_Put T d (3 * d + 9) (by omega) (ok_Are T d)))
/-! ### is_reason -/
theorem ok_IsReason (T : Txt K mg) (d : Nat) : FnOk P w K mg base CX0 (3 * d + 10) T.IsReason.f T.IsReason.fd ["table", "start", "end", "value"] (spAreSteps T.C d) := by
  have GV : FnOk P w K mg base CX0 3 T.TVal.f T.TVal.fd ["self", "value"] (spTVal T.C) := ok_TVal T
  have GA : FnOk P w K mg base CX0 (3 * d + 9) T.AreSteps.f T.AreSteps.fd ["table", "start", "end", "value"] (spAreSteps T.C d) := ok_Are T d
  refine T.IsReason.F.ok scIsReason (fun vs H Q E h => ?_) (fun cdv A outer s H vs Q E hr h => ?_)
  · obtain ⟨t, l, R, k, a, b, ws, rfl, _⟩ := h
    rfl
  obtain ⟨t, l, R, k, a, b, ws, rfl, hT, hk, h8, h20, ca, cb, el, lw, st, q⟩ := h
  refine ⟨_, pss_cons (ps_for PassesOwn.never rfl (pi_tup (pe_tup (pa_cons (pv 1) (pa_cons (pv 2) pa_nil)))) (pg_name (i := 4) scIsReason.nd rfl (.inl rfl))
      (pss_one (ps_expr (pe_meth (pv 0) T.clC T.mVal GV (hr.mono (by omega)) T.TVal.b .nil pass0 (pa_cons (pv 4) pa_nil)))))
    (pss_one (ps_ret (pe_call GA (hr.mono (by omega)) rfl T.AreSteps.g T.AreSteps.F.kp T.AreSteps.b .nil pass0 (pa_cons (pv 0) (pa_cons (pv 1) (pa_cons (pv 2) (pa_cons (pv 3) pa_nil))))))), ?_⟩
  refine ⟨_, rfl, _, rfl, le2, fun tp htp => ?_⟩
  have s0' := same_up (o := HO.tup [V.int a, V.int b]) htp
  have et : (upd H tp (.tup [V.int a, V.int b])) tp = some (.tup [V.int a, V.int b]) := upd_same
  generalize upd H tp (.tup [V.int a, V.int b]) = H1 at s0' et ⊢
  have hT1 := hT.mono s0'
  obtain ⟨dx, lt, ht, _⟩ := id hT1
  refine ⟨tp, rfl, ⟨_, SqT.of et⟩, for_tup (K := K) (a := tp) (xs := [.int a, .int b]) (fun i σ H2 => ∃ v, σ = [some (V.ref t), some (V.int a), some (V.int b), some (V.ref l), v] ∧ H2 = H1) ⟨none, rfl, rfl⟩ (fun i σ H2 _ ⟨_, _, e⟩ => by rw [e]; exact SqT.of et) ?_ ?_⟩
  · rintro i z σ H2 hz ⟨v, rfl, rfl⟩
    have hz' : ∃ n, z = .int n ∧ Col k n := by
      match i, hz with
      | 0, hz => cases hz; exact ⟨a, rfl, ca⟩
      | 1, hz => cases hz; exact ⟨b, rfl, cb⟩
      | i + 2, hz => simp at hz
    obtain ⟨n, rfl, cn⟩ := hz'
    exact ⟨_, rfl, t, dx, _, rfl, ht, tfs_no _ (by decide +kernel), _, rfl, t, R, k, n, rfl, hT1, hk, cn, _, rfl, rfl⟩
  · rintro σ H2 ⟨v, rfl, rfl⟩
    exact ⟨_, rfl, _, rfl, _, rfl, _, rfl, t, l, R, k, a, b, ws, rfl, hT1, hk, h8, h20, ca, cb, s0' _ _ el, lw, fun w hw => (st w hw).elim fun x h => h.elim fun y h => ⟨x, y, h.mono s0'⟩, fun r H3 s3 hr => q _ _ (s0'.trans s3) hr⟩
end
end K86

namespace K86
open PySem PySem.Spec PyProof.Rows L2
/-! ### the pool: a list of two ints, written anew at each draw -/
def Pl (H : Hp) (p : Addr) : Prop := ∃ c s : Int, H p = some (.lst [.int c, .int s]) ∧ 0 ≤ s ∧ s < 2147483647
/-- all but the pool stands, and the pool is a pool -/
def Mv (p : Addr) (H H' : Hp) : Prop := SameBut p H H' ∧ Pl H' p
theorem Pl.ne {H : Hp} {p : Addr} (h : Pl H p) : H p ≠ none := fun z => by
  obtain ⟨c, s, e, _⟩ := h
  rw [z] at e
  cases e
theorem Pl.mono {H H' : Hp} {p : Addr} (s : Same H H') (h : Pl H p) : Pl H' p := by
  obtain ⟨c, z, e, r⟩ := h
  exact ⟨c, z, s _ _ e, r⟩
theorem Mv.refl {p : Addr} {H : Hp} (h : Pl H p) : Mv p H H := ⟨fun _ _ e _ => e, h⟩
theorem Mv.same {p : Addr} {H H' : Hp} (h : Pl H p) (s : Same H H') : Mv p H H' := ⟨SameBut.same s, h.mono s⟩
theorem Mv.trans {p : Addr} {H H1 H2 : Hp} (a : Mv p H H1) (b : Mv p H1 H2) : Mv p H H2 := ⟨a.1.trans b.1, b.2⟩
theorem Mv.go {p : Addr} {H H1 H2 : Hp} (a : Mv p H H1) (s : Same H1 H2) : Mv p H H2 := a.trans (Mv.same a.2 s)
theorem Mv.free {p b : Addr} {H H' : Hp} (a : Mv p H H') (h : H' b = none) : H b = none := by
  cases e : H b with
  | none => rfl
  | some o =>
    by_cases hb : b = p
    · rw [hb] at h
      exact (a.2.ne h).elim
    · rw [a.1 _ _ e hb] at h
      cases h
theorem Mv.not {p : Addr} {H H' : Hp} (a : Mv p H H') : Same (rst (Not p) H) (rst (Not p) H') := not_but a.1
/-- what was new since H0 stands -/
theorem Mv.new {p : Addr} {H0 H H' : Hp} (hp : H0 p ≠ none) (a : Mv p H H') : Same (rst (New H0) H) (rst (New H0) H') := rst_up fun b o h e => ⟨h, a.1 _ _ e fun z => hp (by rw [← z]; exact h)⟩
theorem pl_not {H : Hp} {p b : Addr} {o : HO} (h : Pl H p) (e : H b = some o) (ne : ∀ xs, o = .lst xs → xs.length ≠ 2) : b ≠ p := fun z => by
  obtain ⟨c, s, e', _⟩ := h
  rw [z, e'] at e
  injection e with e
  exact ne _ e.symm rfl
section
variable {P : Program} {w : World} {K : PySem.W.Frag} {mg : Str → Option Value} {base : Heap}
/-! ### _law_pool -/
def spPool (K : PySem.W.Frag) : Sp := fun vs H Q _ => ∃ (a : Addr) (ns : List Int) (n : Nat), vs = [.ref a, .int n] ∧ SqL K H a (ns.map V.int) ∧ n ≤ 4 ∧ ∀ (p : Addr) (H' : Hp), Same H H' → H p = none → Pl H' p → Q (.ref p) H'
theorem ok_Pool (T : Txt K mg) : FnOk P w K mg base CX0 1 T.Pool.f T.Pool.fd ["_law_script", "_law_k"] (spPool K) := by
  refine T.Pool.F.ok scPool (fun vs H Q E h => ?_) (fun cdv A outer s H vs Q E hr h => ?_)
  · obtain ⟨a, ns, n, rfl, _⟩ := h
    rfl
  obtain ⟨a, ns, n, rfl, ha, h4, q⟩ := h
  refine ⟨_, pss_cons (ps_set (i := 2) scPool.nd rfl (.inl rfl) pe_int)
    (pss_cons (ps_if (pt_cmpR op_lt (pv 1) (pe_callB call_len_seq rfl T.z_len b_len (pa_cons (pv 0) pa_nil)) (nomark _))
      (pss_one (ps_set (i := 2) scPool.nd rfl (.inl rfl) (pe_ix ix_list (pv 0) (pv 1) (fun _ _ => rfl)))) pss_nil)
    (pss_cons (ps_set (i := 3) scPool.nd rfl (.inl rfl) (pe_op op_mod (pe_op op_pow (pe_op op_add (pe_op op_add (pe_op op_mod (pv 2) pe_int) (pe_op op_mul (pe_op op_mul pe_int (pv 1)) (pv 1))) pe_int) pe_int) pe_int))
    (pss_cons (ps_if (pt_cmpR op_lt (pv 2) (pe_op op_pow pe_int pe_int) (nomark _)) (pss_one (ps_set (i := 2) scPool.nd rfl (.inl rfl) pe_int)) pss_nil)
    (pss_one (ps_ret (pe_lst (pa_cons (pv 2) (pa_cons (pv 3) pa_nil)))))))), ?_⟩
  have hm : 0 ≤ 7919 * (n : Int) * n ∧ 7919 * (n : Int) * n ≤ 126704 := by
    match n, h4 with
    | 0, _ => decide
    | 1, _ => decide
    | 2, _ => decide
    | 3, _ => decide
    | 4, _ => decide
  have hn : 0 ≤ (n : Int) ∧ (n : Int) ≤ 4 := ⟨by omega, by omega⟩
  have fin : ∀ (c c' : Int) (p : Addr), H p = none → Q (.ref p) (upd H p (.lst [.int c', .int ((c % 2147483629 + 7919 * (n : Int) * n + 31) ^ (3 : Int).toNat % 2147483647)])) := fun c c' p hp =>
    q p _ (same_up hp) hp ⟨_, _, upd_same, Int.emod_nonneg _ (by decide), Int.emod_lt_of_pos _ (by decide)⟩
  have hb : ∀ c : Int, (c % 2147483629 + 7919 * (n : Int) * n + 31).natAbs < 2 ^ 64 := fun c => by
    have h1 := Int.emod_nonneg c (b := 2147483629) (by decide)
    have h2 := Int.emod_lt_of_pos c (b := 2147483629) (by decide)
    omega
  refine ⟨_, rfl, _, rfl, a, _, rfl, .inl ha, _, _, rfl, rfl, _, rfl, ite2 (fun h => ?_) (fun h => ?_)⟩
  · have hl : (n : Int) < (ns.map V.int).length := of_decide_eq_true h
    rw [List.length_map] at hl
    have hl : n < ns.length := by omega
    refine ⟨_, rfl, _, rfl, a, _, _, _, rfl, rfl, ha, atI_nat (getI (List.getElem?_eq_getElem hl)), ?_⟩
    exact ⟨_, rfl, _, _, rfl, rfl, (show (0:Int) < 2147483629 by decide), _, rfl, _, _, rfl, rfl, .inl ⟨by decide, by decide⟩, _, rfl, _, _, rfl, rfl, .inr ⟨by omega, by omega⟩, _, _, rfl, rfl, _, _, rfl, rfl, _, _, rfl, rfl, ⟨by decide, by decide, hb _⟩, _, _, rfl, rfl, (show (0:Int) < 2147483647 by decide),
      _, rfl, _, _, rfl, rfl, ⟨by decide, by decide, by decide⟩, _, _, rfl, rfl, _, rfl, ite2 (fun _ => ⟨_, rfl, _, rfl, le2, fun p hp => fin _ _ p hp⟩) (fun _ => ⟨_, rfl, _, rfl, le2, fun p hp => fin _ _ p hp⟩)⟩
  · exact ⟨_, rfl, _, _, rfl, rfl, (show (0:Int) < 2147483629 by decide), _, rfl, _, _, rfl, rfl, .inl ⟨by decide, by decide⟩, _, rfl, _, _, rfl, rfl, .inr ⟨by omega, by omega⟩, _, _, rfl, rfl, _, _, rfl, rfl, _, _, rfl, rfl, ⟨by decide, by decide, hb _⟩, _, _, rfl, rfl, (show (0:Int) < 2147483647 by decide),
      _, rfl, _, _, rfl, rfl, ⟨by decide, by decide, by decide⟩, _, _, rfl, rfl, _, rfl, ite2 (fun _ => ⟨_, rfl, _, rfl, le2, fun p hp => fin _ _ p hp⟩) (fun _ => ⟨_, rfl, _, rfl, le2, fun p hp => fin _ _ p hp⟩)⟩
end
end K86

namespace K86
open PySem PySem.Spec PyProof.Rows L2
section
variable {P : Program} {w : World} {K : PySem.W.Frag} {mg : Str → Option Value} {base : Heap}
/-! ### _law_draw, _law_choose -/
def spDraw : Sp := fun vs H Q _ => ∃ (p : Addr) (m : Int), vs = [.ref p, .int m] ∧ Pl H p ∧ 0 < m ∧ m < 1073741824 ∧ ∀ (d : Int) (H' : Hp), Mv p H H' → 0 ≤ d → d < m → Q (.int d) H'
theorem ok_Draw (T : Txt K mg) : FnOk P w K mg base CX0 1 T.Draw.f T.Draw.fd ["_law_pool_here", "_law_many"] spDraw := by
  refine T.Draw.F.ok scDraw (fun vs H Q E h => ?_) (fun cdv A outer s H vs Q E hr h => ?_)
  · obtain ⟨p, m, rfl, _⟩ := h
    rfl
  obtain ⟨p, m, rfl, ⟨c, z, hp, z0, z1⟩, m0, m1, q⟩ := h
  refine ⟨_, pss_cons (ps_if (pt_cmpR op_gt (pe_ix ix_list (pv 0) pe_int (fun _ _ => rfl)) pe_int (nomark _))
      (pss_cons (ps_set (i := 2) scDraw.nd rfl (.inl rfl) (pe_op op_mod (pe_ix ix_list (pv 0) pe_int (fun _ _ => rfl)) (pv 1)))
      (pss_cons (ps_asg (pe_op op_fdiv (pe_ix ix_list (pv 0) pe_int (fun _ _ => rfl)) (pv 1)) (pg_sub (pv 0) pe_int set_list))
      (pss_one (ps_ret (pv 2))))) pss_nil)
    (pss_cons (ps_asg (pe_op op_mod (pe_op op_add (pe_op op_mul (pe_ix ix_list (pv 0) pe_int (fun _ _ => rfl)) pe_int) pe_int) pe_int) (pg_sub (pv 0) pe_int set_list))
    (pss_one (ps_ret (pe_op op_mod (pe_op op_fdiv (pe_op op_mod (pe_op op_mul (pe_ix ix_list (pv 0) pe_int (fun _ _ => rfl)) (pe_ix ix_list (pv 0) pe_int (fun _ _ => rfl))) pe_int) pe_int) (pv 1))))), ?_⟩
  refine ⟨_, rfl, p, _, _, _, rfl, rfl, SqL.of hp, atI_nat (j := 0) rfl, _, _, rfl, rfl, _, rfl, ite2 (fun h => ?_) (fun h => ?_)⟩
  · refine ⟨_, rfl, p, _, _, _, rfl, rfl, SqL.of hp, atI_nat (j := 0) rfl, _, rfl, _, _, rfl, rfl, m0, ?_⟩
    refine ⟨_, rfl, p, _, _, _, rfl, rfl, SqL.of hp, atI_nat (j := 0) rfl, _, rfl, _, _, rfl, rfl, ⟨m0, m1⟩, _, rfl, p, _, 0, 0, rfl, rfl, hp, rfl, _, rfl, ?_⟩
    exact q _ _ ⟨SameBut.up, c / m, z, upd_same, z0, z1⟩ (Int.emod_nonneg _ (by omega)) (Int.emod_lt_of_pos _ m0)
  · have e1 := Int.emod_nonneg (z * 48271 + 11) (b := 2147483647) (by decide)
    have e2 := Int.emod_lt_of_pos (z * 48271 + 11) (b := 2147483647) (by decide)
    refine ⟨_, rfl, p, _, _, _, rfl, rfl, SqL.of hp, atI_nat (j := 1) rfl, _, _, rfl, rfl, .inr ⟨by decide, by decide⟩, _, _, rfl, rfl, _, _, rfl, rfl, (show (0:Int) < 2147483647 by decide), _, rfl, p, _, 1, 1, rfl, rfl, hp, rfl, ?_⟩
    have hp2 : (upd H p (.lst ([V.int c, V.int z].set 1 (.int ((z * 48271 + 11) % 2147483647))))) p = some (.lst [.int c, .int ((z * 48271 + 11) % 2147483647)]) := upd_same
    have sb : SameBut p H (upd H p (.lst ([V.int c, V.int z].set 1 (.int ((z * 48271 + 11) % 2147483647))))) := SameBut.up
    refine ⟨_, rfl, p, _, _, _, rfl, rfl, SqL.of hp2, atI_nat (j := 1) rfl, _, rfl, p, _, _, _, rfl, rfl, SqL.of hp2, atI_nat (j := 1) rfl, _, _, rfl, rfl, (.inr ⟨Int.lt_of_lt_of_le (by decide) e1, Int.lt_trans e2 (by decide)⟩), _, _, rfl, rfl, (show (0:Int) < 2147483629 by decide),
      _, _, rfl, rfl, ⟨by decide, by decide⟩, _, rfl, _, _, rfl, rfl, m0, ?_⟩
    exact q _ _ ⟨sb, c, _, hp2, e1, e2⟩ (Int.emod_nonneg _ (by omega)) (Int.emod_lt_of_pos _ m0)
def spChoose : Sp := fun vs H Q _ => ∃ (p l : Addr) (xs : List V), vs = [.ref p, .ref l] ∧ Pl H p ∧ l ≠ p ∧ H l = some (.lst xs) ∧ 0 < xs.length ∧ xs.length ≤ 1000 ∧ ∀ (v : V) (H' : Hp), Mv p H H' → v ∈ xs → Q v H'
theorem ok_Choose (T : Txt K mg) : FnOk P w K mg base CX0 2 T.Choose.f T.Choose.fd ["_law_pool_here", "_law_items"] spChoose := by
  have GD : FnOk P w K mg base CX0 1 T.Draw.f T.Draw.fd ["_law_pool_here", "_law_many"] spDraw := ok_Draw T
  refine T.Choose.F.ok scChoose (fun vs H Q E h => ?_) (fun cdv A outer s H vs Q E hr h => ?_)
  · obtain ⟨p, l, xs, rfl, _⟩ := h
    rfl
  obtain ⟨p, l, xs, rfl, hP, lp, el, l0, l1, q⟩ := h
  refine ⟨_, pss_one (ps_ret (pe_ix ix_list (pv 1) (pe_call GD hr rfl T.Draw.g T.Draw.F.kp T.Draw.b .nil pass0 (pa_cons (pv 0) (pa_cons (pe_callB call_len_seq rfl T.z_len b_len (pa_cons (pv 1) pa_nil)) pa_nil))) (fun _ _ => rfl))), ?_⟩
  refine ⟨_, rfl, _, rfl, _, rfl, l, _, rfl, .inl (SqL.of el), p, _, rfl, hP, by omega, by omega, fun d H' mv d0 d1 => ?_⟩
  have hd : d.toNat < xs.length := by omega
  have e := List.getElem?_eq_getElem hd
  exact ⟨l, _, _, _, rfl, rfl, SqL.of (mv.1 _ _ el lp), at_of (j := d.toNat) (by omega) e, q _ _ mv (List.mem_of_getElem? e)⟩
end
end K86

namespace K86
open PySem PySem.Spec PyProof.Rows L2
/-! ### one entry of a table written -/
def putN (R : Tab) (i j : Nat) (c : Int) : Tab := R.set i ((R.getD i []).set j c)
theorem tb_putN {R : Tab} {i j : Nat} {c x y : Int} (hi : i < R.length) (hj : j < (R.getD i []).length) : tb (putN R i j c) x y = if x.toNat = i ∧ y.toNat = j then c else tb R x y := by
  unfold tb putN
  rw [List.getD_eq_getElem?_getD (l := R.set i _), List.getElem?_set]
  by_cases h1 : i = x.toNat
  · rw [if_pos h1, if_pos hi, Option.getD_some, List.getD_eq_getElem?_getD, List.getElem?_set]
    by_cases h2 : j = y.toNat
    · rw [if_pos h2, if_pos hj, if_pos ⟨h1.symm, h2.symm⟩, Option.getD_some]
    · rw [if_neg h2, if_neg (fun z => h2 z.2.symm), ← List.getD_eq_getElem?_getD, h1]
  · rw [if_neg h1, if_neg (fun z => h1 z.1.symm), ← List.getD_eq_getElem?_getD]
theorem putN_len {R : Tab} {i j : Nat} {c : Int} : (putN R i j c).length = R.length := List.length_set
theorem putN_rows {k : Nat} {R : Tab} {i j : Nat} {c : Int} (hi : i < R.length) (h : ∀ (a : Nat) (r : List Int), R[a]? = some r → r.length = k) : ∀ (a : Nat) (r : List Int), (putN R i j c)[a]? = some r → r.length = k := by
  intro a r e
  unfold putN at e
  rw [List.getElem?_set] at e
  by_cases h1 : i = a
  · rw [if_pos h1, if_pos hi] at e
    cases e
    rw [List.length_set, List.getD_eq_getElem?_getD, List.getElem?_eq_getElem hi, Option.getD_some]
    exact h i _ (List.getElem?_eq_getElem hi)
  · rw [if_neg h1] at e
    exact h a r e
theorem getD_len {k : Nat} {R : Tab} {i : Nat} (hi : i < R.length) (h : ∀ (a : Nat) (r : List Int), R[a]? = some r → r.length = k) : (R.getD i []).length = k := by
  rw [List.getD_eq_getElem?_getD, List.getElem?_eq_getElem hi, Option.getD_some]
  exact h i _ (List.getElem?_eq_getElem hi)
theorem OkTab.put2 {k : Nat} {R : Tab} (h : OkTab k R) {i j : Nat} {c : Int} (hi : i < k) (hj : j < k) (hc : Col k c) : OkTab k (putN (putN R i j c) j i c) := by
  have l1 := h.len
  have r1 := putN_rows (j := j) (c := c) (by omega : i < R.length) h.rows
  have l2 : (putN R i j c).length = k := putN_len.trans l1
  have e : ∀ x y, tb (putN (putN R i j c) j i c) x y = if x.toNat = j ∧ y.toNat = i then c else if x.toNat = i ∧ y.toNat = j then c else tb R x y := fun x y => by
    rw [tb_putN (by omega) (by rw [getD_len (by omega) r1]; exact hi), tb_putN (by omega) (by rw [getD_len (by omega) h.rows]; exact hj)]
  refine ⟨putN_len.trans l2, putN_rows (by omega) r1, fun a b ha hb => ?_, fun a b ha hb => ?_⟩
  · rw [e]
    split
    · exact hc
    · split
      · exact hc
      · exact h.ent a b ha hb
  · rw [e, e]
    by_cases h1 : a.toNat = j ∧ b.toNat = i
    · rw [if_pos h1]
      split
      · rfl
      · rw [if_pos ⟨h1.2, h1.1⟩]
    · rw [if_neg h1]
      by_cases h2 : a.toNat = i ∧ b.toNat = j
      · rw [if_pos h2, if_pos ⟨h2.2, h2.1⟩]
      · rw [if_neg h2, if_neg (fun z => h2 ⟨z.2, z.1⟩), if_neg (fun z => h1 ⟨z.2, z.1⟩), h.sym a b ha hb]
theorem zeros_ok (k : Nat) : OkTab k (List.replicate k (List.replicate k 0)) := by
  have e : ∀ a b, Col k a → Col k b → tb (List.replicate k (List.replicate k 0)) a b = 0 := fun a b ha hb => by
    have h1 : a.toNat < k := by have := ha.1; have := ha.2; omega
    have h2 : b.toNat < k := by have := hb.1; have := hb.2; omega
    unfold tb
    rw [List.getD_eq_getElem?_getD (l := List.replicate k (List.replicate k 0)), List.getElem?_replicate, if_pos h1, Option.getD_some, List.getD_eq_getElem?_getD, List.getElem?_replicate, if_pos h2, Option.getD_some]
  refine ⟨List.length_replicate, fun i r h => ?_, fun a b ha hb => by rw [e a b ha hb]; exact ⟨by omega, by have := ha.1; have := ha.2; omega⟩, fun a b ha hb => by rw [e a b ha hb, e b a hb ha]⟩
  rw [List.getElem?_replicate] at h
  split at h
  · cases h
    exact List.length_replicate
  · cases h
/-! ### rows at addresses of their own -/
structure RowsD (H : Hp) (l : Addr) (R : Tab) (as : List Addr) : Prop where
  top : H l = some (.lst (as.map V.ref))
  len : as.length = R.length
  row : ∀ (i : Nat) (r : Addr) (w : List Int), as[i]? = some r → R[i]? = some w → Ints H r w
  nd : as.Nodup
  off : l ∉ as
theorem RowsD.mono {H H' : Hp} {l : Addr} {R : Tab} {as : List Addr} (h : RowsD H l R as) (s : ∀ b o, H b = some o → (b = l ∨ b ∈ as) → H' b = some o) : RowsD H' l R as :=
  ⟨s _ _ h.top (.inl rfl), h.len, fun i r w e1 e2 => s _ _ (h.row i r w e1 e2) (.inr (List.mem_of_getElem? e1)), h.nd, h.off⟩
theorem RowsD.put {H : Hp} {l : Addr} {R : Tab} {as : List Addr} (h : RowsD H l R as) {i j : Nat} {c : Int} {r : Addr} {w : List Int} (e1 : as[i]? = some r) (e2 : R[i]? = some w) :
    RowsD (upd H r (.lst ((w.map V.int).set j (.int c)))) l (putN R i j c) as := by
  have hi := (List.getElem?_eq_some_iff.mp e1).1
  have hl := h.len
  refine ⟨?_, h.len.trans putN_len.symm, fun a q u g1 g2 => ?_, h.nd, h.off⟩
  · rw [upd_ne (fun z => h.off (by rw [z]; exact List.mem_of_getElem? e1))]
    exact h.top
  · unfold putN at g2
    rw [List.getElem?_set] at g2
    by_cases ha : i = a
    · subst ha
      rw [if_pos rfl, if_pos (by omega)] at g2
      cases g2
      rw [e1] at g1
      cases g1
      rw [Ints, upd_same, List.getD_eq_getElem?_getD, e2, Option.getD_some, List.map_set]
    · rw [if_neg ha] at g2
      have hne : q ≠ r := fun z => by
        rw [z] at g1
        have ha' := (List.getElem?_eq_some_iff.mp g1).1
        have x1 := (List.getElem?_eq_some_iff.mp e1).2
        have x2 := (List.getElem?_eq_some_iff.mp g1).2
        exact ha ((List.getElem_inj h.nd).mp (x1.trans x2.symm))
      rw [Ints, upd_ne hne]
      exact h.row a q u g1 g2
theorem RowsD.at {H : Hp} {l : Addr} {R : Tab} {as : List Addr} (h : RowsD H l R as) (A : Addr → Prop) (hl : A l) (ha : ∀ r ∈ as, A r) : RowsAt (rst A H) l R :=
  ⟨as, rst_mk hl h.top, h.len, fun i r w e1 e2 => rst_mk (ha r (List.mem_of_getElem? e1)) (h.row i r w e1 e2)⟩
end K86

namespace K86
open PySem PySem.Spec PyProof.Rows L2
theorem flat_rep {v : V} : ∀ n : Nat, (List.replicate n [v]).flatten = List.replicate n v
  | 0 => rfl
  | n + 1 => by rw [List.replicate_succ, List.flatten_cons, flat_rep n]; rfl
theorem ixN_nat {n j : Nat} (h : j < n) : ixN n (j : Int) = some j := by
  unfold ixN
  rw [if_pos (by omega), if_pos (by omega), Int.toNat_natCast]
theorem Mv.upd {p r : Addr} {H H' : Hp} {o : HO} (m : Mv p H H') (hr : H r = none) (rp : r ≠ p) : Mv p H (L2.upd H' r o) := by
  refine ⟨fun b x e ne => by rw [upd_ne (ne_of_none e hr)]; exact m.1 _ _ e ne, ?_⟩
  obtain ⟨c, z, e, h⟩ := m.2
  exact ⟨c, z, by rw [upd_ne rp.symm]; exact e, h⟩
section
variable {P : Program} {w : World} {K : PySem.W.Frag} {mg : Str → Option Value} {base : Heap}
/-! ### _law_rows -/
def spLRows : Sp := fun vs H Q _ => ∃ (p : Addr) (k : Nat), vs = [.ref p, .int k] ∧ Pl H p ∧ 1 ≤ k ∧ k ≤ 8 ∧
  ∀ (l : Addr) (R : Tab) (H' : Hp), Mv p H H' → H l = none → RowsAt (rst (New H) H') l R → OkTab k R → Q (.ref l) H'
theorem ok_LRows (T : Txt K mg) : FnOk P w K mg base CX0 2 T.LRows.f T.LRows.fd ["_law_pool_here", "_law_size"] spLRows := by
  have GD : FnOk P w K mg base CX0 1 T.Draw.f T.Draw.fd ["_law_pool_here", "_law_many"] spDraw := ok_Draw T
  refine T.LRows.F.ok scLRows (fun vs H Q E h => ?_) (fun cdv A outer s H vs Q E hr h => ?_)
  · obtain ⟨p, k, rfl, _⟩ := h
    rfl
  obtain ⟨p, k, rfl, hP, h1, h8, q⟩ := h
  refine ⟨_, pss_cons (ps_setLc (i := 2) (own := [("_law_a", 3)]) (g := gName 3) (tt := tYes) rfl scLRows.nd rfl rfl (sw_true rfl rfl rfl (by decide +kernel)) (pi_range1 rfl T.z_range (pa_cons (pv 1) pa_nil))
        (blkOk_by (N := nLRows) (sc := defScope sLRows) (by decide +kernel)) (fun _ _ _ _ _ => pg_name (i := 3) scLRows.nd rfl (Or.inl rfl)) (fun _ _ _ _ _ => pts_nil)
        (fun _ _ _ _ _ => pe_op op_rep (pe_lst (pa_cons pe_int pa_nil)) (pv 1)))
    (pss_cons (ps_for PassesOwn.never rfl (pi_range1 rfl T.z_range (pa_cons (pv 1) pa_nil)) (pg_name (i := 3) scLRows.nd rfl (.inl rfl))
      (pss_one (ps_for PassesOwn.never rfl (pi_range2 rfl T.z_range (pa_cons (pv 3) (pa_cons (pv 1) pa_nil))) (pg_name (i := 4) scLRows.nd rfl (.inl rfl))
        (pss_cons (ps_set (i := 5) scLRows.nd rfl (.inl rfl) (pe_call GD hr rfl T.Draw.g T.Draw.F.kp T.Draw.b .nil pass0 (pa_cons (pv 0) (pa_cons (pv 1) pa_nil))))
        (pss_cons (ps_asg (pv 5) (pg_sub (pe_ix ix_list (pv 2) (pv 3) (fun _ _ => rfl)) (pv 4) set_list))
        (pss_one (ps_asg (pv 5) (pg_sub (pe_ix ix_list (pv 2) (pv 4) (fun _ _ => rfl)) (pv 3) set_list))))))))
    (pss_one (ps_ret (pv 2)))), ?_⟩
  have hp := hP.ne
  refine ⟨_, rfl, k, rfl, (range_ok h8).1, (range_ok h8).2, fun D hD => ?_⟩
  rw [Int.toNat_natCast]
  refine cl_it (n := k) (fun i H' => Same H H' ∧ ∃ as : List Addr, H' D = some (.lst (as.map V.ref)) ∧ as.length = i ∧ as.Nodup ∧ ∀ r ∈ as, r ≠ D ∧ H r = none ∧ Ints H' r (List.replicate k 0))
    ⟨same_up hD, [], upd_same, rfl, .nil, fun r hr => by cases hr⟩ (fun i H' hi _ => hi) (fun H' _ => Nat.le_refl _) ?_ ?_
  · rintro i x H1 H2 hi ⟨s1, as, eD, la, nd, ha⟩ ⟨rfl, rfl⟩
    refine ⟨rfl, le1, fun z hz => ?_⟩
    have t1 := same_up (o := HO.lst [V.int 0]) hz
    refine ⟨_, rfl, z, k, _, rfl, rfl, upd_same, by omega, by omega, by rw [Int.toNat_natCast, List.length_singleton, Nat.one_mul]; exact small8 (by omega), fun r hr => ?_⟩
    rw [Int.toNat_natCast]
    have er : (List.replicate k [V.int 0]).flatten = (List.replicate k (0 : Int)).map V.int := by rw [List.map_replicate, flat_rep]
    have t2 := same_up (o := HO.lst (List.replicate k [V.int 0]).flatten) hr
    have t := t1.trans t2
    have rD : r ≠ D := fun e => by rw [e, t1 _ _ eD] at hr; cases hr
    refine ⟨as.map V.ref, t _ _ eD, by rw [List.length_map]; exact small1000 (by omega), fun b o e => by rw [upd_ne (ne_of_none e hD)]; exact t _ _ (s1 _ _ e), as ++ [r], by rw [upd_same, List.map_append]; rfl, by rw [List.length_append, la]; rfl, ?_, fun q hq => ?_⟩
    · rw [List.nodup_append]
      refine ⟨nd, by simp, fun a ha' b hb => ?_⟩
      rw [List.mem_singleton.mp hb]
      rintro rfl
      have := t1 _ _ (ha a ha').2.2
      rw [this] at hr
      cases hr
    · rcases List.mem_append.mp hq with hq | hq
      · obtain ⟨g1, g2, g3⟩ := ha q hq
        exact ⟨g1, g2, by rw [Ints, upd_ne g1]; exact t _ _ g3⟩
      · rw [List.mem_singleton.mp hq]
        exact ⟨rD, s1.free (t1.free hr), by rw [Ints, upd_ne rD, upd_same, er]⟩
  · rintro H1 ⟨s1, as, eD, la, nd, ha⟩
    have rd : RowsD H1 D (List.replicate k (List.replicate k 0)) as := ⟨eD, by rw [la, List.length_replicate], (fun i r u e1 e2 => by
      rw [List.getElem?_replicate] at e2
      split at e2
      · cases e2
        exact (ha r (List.mem_of_getElem? e1)).2.2
      · cases e2), nd, fun hm => (ha D hm).1 rfl⟩
    have nD : H D = none := hD
    have nas : ∀ r ∈ as, H r = none := fun r hr => (ha r hr).2.1
    have notp : ∀ b, (b = D ∨ b ∈ as) → b ≠ p := fun b hb z => hp (by rw [← z]; rcases hb with e | e; rw [e]; exact nD; exact nas _ e)
    have mv1 := Mv.same hP s1
    refine ⟨_, rfl, k, rfl, (range_ok h8).1, (range_ok h8).2, ?_⟩
    rw [Int.toNat_natCast]
    refine for_range (n := k) (fun i σ H2 => ∃ v3 v4 v5 R, σ = [some (V.ref p), some (V.int k), some (V.ref D), v3, v4, v5] ∧ Mv p H H2 ∧ RowsD H2 D R as ∧ OkTab k R) ⟨_, _, _, _, rfl, mv1, rd, zeros_ok k⟩ ?_ ?_
    · rintro i σ H2 hi ⟨v3, v4, v5, R, rfl, mv2, rd2, ok2⟩
      refine ⟨_, rfl, _, rfl, _, _, rfl, ⟨by omega, by omega, by omega, by omega⟩, ?_⟩
      refine for_range (n := ((k : Int) - (0 + (i : Int))).toNat) (fun j σ H3 => ∃ v4 v5 R, σ = [some (V.ref p), some (V.int k), some (V.ref D), some (V.int (0 + (i : Int))), v4, v5] ∧ Mv p H H3 ∧ RowsD H3 D R as ∧ OkTab k R) ⟨_, _, _, rfl, mv2, rd2, ok2⟩ ?_ ?_
      · rintro j σ H3 hj ⟨v4, v5, R3, rfl, mv3, rd3, ok3⟩
        obtain ⟨a, ea⟩ : ∃ a : Nat, (0 + (i : Int)) = a := ⟨i, by omega⟩
        obtain ⟨b, eb⟩ : ∃ b : Nat, (0 + (i : Int)) + (j : Int) = b := ⟨i + j, by omega⟩
        have hak : a < k := by omega
        have hbk : b < k := by omega
        rw [eb, ea]
        refine ⟨_, rfl, _, rfl, p, k, rfl, mv3.2, by omega, by omega, fun d H4 mv4 d0 d1 => ?_⟩
        have rd4 := rd3.mono fun x o e hx => mv4.1 _ _ e (notp x hx)
        have la4 := rd4.len.trans ok3.len
        have ea1 := List.getElem?_eq_getElem (l := as) (i := a) (by omega)
        have eb1 := List.getElem?_eq_getElem (l := as) (i := b) (by omega)
        have ea2 := List.getElem?_eq_getElem (l := R3) (i := a) (by rw [ok3.len]; exact hak)
        have wl := ok3.rows _ _ ea2
        have rd5 := rd4.put (c := d) (j := b) ea1 ea2
        have gb : b < (putN R3 a b d).length := by rw [putN_len, ok3.len]; exact hbk
        have eb2 := List.getElem?_eq_getElem gb
        have wl2 := putN_rows (j := b) (c := d) (by rw [ok3.len]; exact hak) ok3.rows _ _ eb2
        have rd6 := rd5.put (c := d) (j := a) eb1 eb2
        have cd : Col k d := ⟨d0, d1⟩
        refine ⟨_, rfl, _, rfl, _, rfl, D, _, _, _, rfl, rfl, SqL.of rd4.top, atI_nat (getR ea1), _, rfl, _, _, _, b, rfl, rfl, rd4.row _ _ _ ea1 ea2, ixN_nat (by rw [List.length_map, wl]; exact hbk), ?_⟩
        refine ⟨_, rfl, _, rfl, _, rfl, D, _, _, _, rfl, rfl, SqL.of rd5.top, atI_nat (getR eb1), _, rfl, _, _, _, a, rfl, rfl, rd5.row _ _ _ eb1 eb2, ixN_nat (by rw [List.length_map, wl2]; exact hak), ?_⟩
        refine ⟨_, _, _, rfl, ?_, rd6, ok3.put2 hak hbk cd⟩
        have m1 := List.mem_of_getElem? ea1
        have m2 := List.mem_of_getElem? eb1
        exact ((mv3.trans mv4).upd (nas _ m1) (notp _ (.inr m1))).upd (nas _ m2) (notp _ (.inr m2))
      · rintro σ H3 ⟨v4, v5, R3, rfl, mv3, rd3, ok3⟩
        exact ⟨_, _, _, _, rfl, mv3, rd3, ok3⟩
    · rintro σ H2 ⟨v3, v4, v5, R, rfl, mv2, rd2, ok2⟩
      exact ⟨_, rfl, q D R H2 mv2 nD (rd2.at _ nD nas) ok2⟩
end
end K86

namespace K86
open PySem PySem.Spec PyProof.Rows L2
/-! ### tables told by a function -/
def rowF (k : Nat) (f : Int → Int → Int) (i : Int) : List Int := (List.range k).map fun j => f i ((j : Nat) : Int)
def tabF (k : Nat) (f : Int → Int → Int) : Tab := (List.range k).map fun i => rowF k f ((i : Nat) : Int)
theorem rowF_len {k : Nat} {f : Int → Int → Int} {i : Int} : (rowF k f i).length = k := by rw [rowF, List.length_map, List.length_range]
theorem tabF_get {k : Nat} {f : Int → Int → Int} {i : Nat} (h : i < k) : (tabF k f)[i]? = some (rowF k f (i : Int)) := by
  rw [tabF, List.getElem?_map, List.getElem?_range h]
  rfl
theorem rowF_get {k : Nat} {f : Int → Int → Int} {i : Int} {j : Nat} (h : j < k) : (rowF k f i)[j]? = some (f i (j : Int)) := by
  rw [rowF, List.getElem?_map, List.getElem?_range h]
  rfl
theorem tabF_tb {k : Nat} {f : Int → Int → Int} {a b : Int} (ha : Col k a) (hb : Col k b) : tb (tabF k f) a b = f a b := by
  have h1 : a.toNat < k := by have := ha.1; have := ha.2; omega
  have h2 : b.toNat < k := by have := hb.1; have := hb.2; omega
  have ea : ((a.toNat : Nat) : Int) = a := by have := ha.1; omega
  have eb : ((b.toNat : Nat) : Int) = b := by have := hb.1; omega
  unfold tb
  rw [List.getD_eq_getElem?_getD (l := tabF k f), tabF_get h1, Option.getD_some, List.getD_eq_getElem?_getD, rowF_get h2, Option.getD_some, ea, eb]
theorem tabF_ok {k : Nat} {f : Int → Int → Int} (hc : ∀ a b, Col k a → Col k b → Col k (f a b)) (hs : ∀ a b, Col k a → Col k b → f a b = f b a) : OkTab k (tabF k f) := by
  refine ⟨by rw [tabF, List.length_map, List.length_range], fun i r h => ?_, fun a b ha hb => by rw [tabF_tb ha hb]; exact hc a b ha hb, fun a b ha hb => by rw [tabF_tb ha hb, tabF_tb hb ha, hs a b ha hb]⟩
  have hi := (List.getElem?_eq_some_iff.mp h).1
  rw [tabF, List.length_map, List.length_range] at hi
  rw [tabF_get hi] at h
  cases h
  exact rowF_len
theorem kind_go {te : TE} {p : Addr} {k : Nat} {way : Int} {H : Hp} {Q : VK} (f : Int → Int → Int) (h8 : k ≤ 8)
    (hte : ∀ (a b : Int) (H' : Hp) (Q' : VK), Col k a → Col k b → Q' (.int (f a b)) H' → te [some (.ref p), some (.int k), some (.int way), some (.int a), some (.int b)] H' Q')
    (q : ∀ (l : Addr) (H' : Hp), Same H H' → H l = none → RowsAt (rst (New H) H') l (tabF k f) → Q (.ref l) H') :
    tLc (iRng1 (tCons (tVar 1) tNil)) (gName 3) tYes (tLc (iRng1 (tCons (tVar 1) tNil)) (gName 4) tYes te [4]) [3] [some (.ref p), some (.int k), some (.int way), none, none] H Q := by
  have hk : k < sizeLine := Nat.lt_of_le_of_lt h8 (small1000 (by decide))
  refine ⟨_, rfl, k, rfl, (range_ok h8).1, (range_ok h8).2, fun D hD => ?_⟩
  rw [Int.toNat_natCast]
  refine lc_map (n := k) hD hk (fun i z _ => z = .int i) (fun i v H' => ∃ r, v = .ref r ∧ r ≠ D ∧ H r = none ∧ Ints H' r (rowF k f (i : Int)))
    (fun i v H' H'' sb ⟨r, e1, e2, e3, e4⟩ => ⟨r, e1, e2, e3, sb _ _ e4 e2⟩) (fun i H' hi _ => hi) (fun i H' z H'' hi s ⟨e1, e2⟩ => ⟨by rw [e1]; exact Same.refl _, by rw [e2, Int.zero_add]⟩) (fun H' _ => Nat.le_refl _) ?_ ?_
  · rintro i z H1 hi rfl s1 nD Qe hQ
    refine ⟨rfl, _, rfl, k, rfl, (range_ok h8).1, (range_ok h8).2, fun D2 hD2 => ?_⟩
    rw [Int.toNat_natCast]
    refine lc_map (n := k) hD2 hk (fun j z _ => z = .int j) (fun j v _ => v = .int (f i j)) (fun _ _ _ _ _ h => h)
      (fun i H' hi _ => hi) (fun i H' z H'' hi s ⟨e1, e2⟩ => ⟨by rw [e1]; exact Same.refl _, by rw [e2, Int.zero_add]⟩) (fun H' _ => Nat.le_refl _) ?_ ?_
    · rintro j z H2 hj rfl s2 nD2 Qf hF
      exact ⟨rfl, hte i j H2 Qf ⟨by omega, by omega⟩ ⟨by omega, by omega⟩ (hF _ _ (Same.refl _) rfl)⟩
    · intro ys H2 s2 eD2 hn hy
      have ey : ys = (rowF k f (i : Int)).map V.int := by
        refine List.ext_getElem? fun j => ?_
        by_cases hj : j < k
        · have e := List.getElem?_eq_getElem (l := ys) (i := j) (by omega)
          rw [getI (rowF_get hj), e, hy j _ e]
        · rw [List.getElem?_eq_none (by omega), List.getElem?_eq_none (by rw [List.length_map, rowF_len]; omega)]
      subst ey
      exact hQ _ _ s2 ⟨D2, rfl, fun z => nD (by rw [← z]; exact hD2), s1.free hD2, eD2⟩
  · intro ys H1 s1 eD hn hy
    obtain ⟨as, rfl, ha, hp⟩ := choose_list (tabF k f) (fun r row => H r = none ∧ Ints H1 r row) ys (by rw [hn, tabF, List.length_map, List.length_range]) fun i y e => by
      obtain ⟨r, e1, e2, e3, e4⟩ := hy i y e
      exact ⟨r, _, e1, tabF_get (by rw [← hn]; exact (List.getElem?_eq_some_iff.mp e).1), e3, e4⟩
    refine q D H1 s1 hD ⟨as, rst_mk hD eD, ha, fun i r row e1 e2 => ?_⟩
    obtain ⟨g1, g2⟩ := hp i r row e1 e2
    exact rst_mk g1 g2
section
variable {P : Program} {w : World} {K : PySem.W.Frag} {mg : Str → Option Value} {base : Heap}
/-! ### _law_kind -/
theorem ok_Kind (T : Txt K mg) : FnOk P w K mg base CX0 3 T.Kind.f T.Kind.fd ["_law_pool_here", "_law_size"] spLRows := by
  have GD : FnOk P w K mg base CX0 1 T.Draw.f T.Draw.fd ["_law_pool_here", "_law_many"] spDraw := ok_Draw T
  have GR : FnOk P w K mg base CX0 2 T.LRows.f T.LRows.fd ["_law_pool_here", "_law_size"] spLRows := ok_LRows T
  refine T.Kind.F.ok scKind (fun vs H Q E h => ?_) (fun cdv A outer s H vs Q E hr h => ?_)
  · obtain ⟨p, k, rfl, _⟩ := h
    rfl
  obtain ⟨p, k, rfl, hP, h1, h8, q⟩ := h
  refine ⟨_, pss_cons (ps_set (i := 2) scKind.nd rfl (.inl rfl) (pe_call GD (hr.mono (by decide)) rfl T.Draw.g T.Draw.F.kp T.Draw.b .nil pass0 (pa_cons (pv 0) (pa_cons pe_int pa_nil))))
    (pss_cons (ps_if (pt_cmpR op_eq (pv 2) pe_int (nomark _)) (pss_one (ps_ret (pe_lc (own := [("_law_a", 3)]) (g := gName 3) (tt := tYes) rfl scKind.nd (pi_range1 rfl T.z_range (pa_cons (pv 1) pa_nil))
        (blkOk_by (N := nKind) (sc := defScope sKind) (by decide +kernel)) (fun _ _ _ _ _ => pg_name (i := 3) scKind.nd rfl (Or.inr rfl)) (fun _ _ _ _ _ => pts_nil)
        (fun _ _ _ _ _ => pe_lc (own := [("_law_b", 4)]) (g := gName 4) (tt := tYes) rfl scKind.nd (pi_range1 rfl T.z_range (pa_cons (pv 1) pa_nil)) (blkOk_by (N := nKind) (by kernel_rfl)) (fun _ _ _ _ _ => pg_name (i := 4) scKind.nd rfl (Or.inl rfl)) (fun _ _ _ _ _ => pts_nil)
          (fun _ _ _ _ _ => pe_op op_mod (pe_op op_add (pv 3) (pv 4)) (pv 1)))))) pss_nil)
    (pss_cons (ps_if (pt_cmpR op_eq (pv 2) pe_int (nomark _)) (pss_one (ps_ret (pe_lc (own := [("_law_a", 3)]) (g := gName 3) (tt := tYes) rfl scKind.nd (pi_range1 rfl T.z_range (pa_cons (pv 1) pa_nil))
        (blkOk_by (N := nKind) (sc := defScope sKind) (by decide +kernel)) (fun _ _ _ _ _ => pg_name (i := 3) scKind.nd rfl (Or.inr rfl)) (fun _ _ _ _ _ => pts_nil)
        (fun _ _ _ _ _ => pe_lc (own := [("_law_b", 4)]) (g := gName 4) (tt := tYes) rfl scKind.nd (pi_range1 rfl T.z_range (pa_cons (pv 1) pa_nil)) (blkOk_by (N := nKind) (by kernel_rfl)) (fun _ _ _ _ _ => pg_name (i := 4) scKind.nd rfl (Or.inl rfl)) (fun _ _ _ _ _ => pts_nil)
          (fun _ _ _ _ _ => pe_callB (call_max2 rfl) rfl T.z_max b_max (pa_cons (pv 3) (pa_cons (pv 4) pa_nil))))))) pss_nil)
    (pss_cons (ps_if (pt_cmpR op_eq (pv 2) pe_int (nomark _)) (pss_one (ps_ret (pe_lc (own := [("_law_a", 3)]) (g := gName 3) (tt := tYes) rfl scKind.nd (pi_range1 rfl T.z_range (pa_cons (pv 1) pa_nil))
        (blkOk_by (N := nKind) (sc := defScope sKind) (by decide +kernel)) (fun _ _ _ _ _ => pg_name (i := 3) scKind.nd rfl (Or.inr rfl)) (fun _ _ _ _ _ => pts_nil)
        (fun _ _ _ _ _ => pe_lc (own := [("_law_b", 4)]) (g := gName 4) (tt := tYes) rfl scKind.nd (pi_range1 rfl T.z_range (pa_cons (pv 1) pa_nil)) (blkOk_by (N := nKind) (by kernel_rfl)) (fun _ _ _ _ _ => pg_name (i := 4) scKind.nd rfl (Or.inl rfl)) (fun _ _ _ _ _ => pts_nil)
          (fun _ _ _ _ _ => pe_callB (call_min2 rfl) rfl T.z_min b_min (pa_cons (pe_op op_add (pv 3) (pv 4)) (pa_cons (pe_op op_sub (pv 1) pe_int) pa_nil))))))) pss_nil)
    (pss_cons (ps_if (pt_cmpR op_eq (pv 2) pe_int (nomark _)) (pss_one (ps_ret (pe_lc (own := [("_law_a", 3)]) (g := gName 3) (tt := tYes) rfl scKind.nd (pi_range1 rfl T.z_range (pa_cons (pv 1) pa_nil))
        (blkOk_by (N := nKind) (sc := defScope sKind) (by decide +kernel)) (fun _ _ _ _ _ => pg_name (i := 3) scKind.nd rfl (Or.inr rfl)) (fun _ _ _ _ _ => pts_nil)
        (fun _ _ _ _ _ => pe_lc (own := [("_law_b", 4)]) (g := gName 4) (tt := tYes) rfl scKind.nd (pi_range1 rfl T.z_range (pa_cons (pv 1) pa_nil)) (blkOk_by (N := nKind) (by kernel_rfl)) (fun _ _ _ _ _ => pg_name (i := 4) scKind.nd rfl (Or.inl rfl)) (fun _ _ _ _ _ => pts_nil)
          (fun _ _ _ _ _ => pe_op op_mod (pe_op op_mul (pv 3) (pv 4)) (pv 1)))))) pss_nil)
    (pss_one (ps_ret (pe_call GR hr rfl T.LRows.g T.LRows.F.kp T.LRows.b .nil pass0 (pa_cons (pv 0) (pa_cons (pv 1) pa_nil))))))))), ?_⟩
  have kp : (0 : Int) < k := by omega
  refine ⟨_, rfl, p, 6, rfl, hP, by decide, by decide, fun way H1 mv w0 w1 => ?_⟩
  have hp := hP.ne
  have fin : ∀ f : Int → Int → Int, (∀ a b, Col k a → Col k b → Col k (f a b)) → (∀ a b, Col k a → Col k b → f a b = f b a) → ∀ (l : Addr) (H' : Hp), Same H1 H' → H1 l = none → RowsAt (rst (New H1) H') l (tabF k f) → Q (.ref l) H' :=
    fun f hc hs l H' s nl ra => q l _ H' (mv.go s) (mv.free nl) (ra.mono (rst_up fun b o h e => ⟨mv.free h, e⟩)) (tabF_ok hc hs)
  have em : ∀ z : Int, Col k (z % k) := fun z => ⟨Int.emod_nonneg _ (by omega), Int.emod_lt_of_pos _ kp⟩
  refine ⟨_, rfl, rfl, _, rfl, ite2 (fun _ => kind_go (fun a b => (a + b) % k) h8 (fun a b H' Q' ca cb z => ?_) (fin _ (fun a b _ _ => em _) fun a b _ _ => by rw [Int.add_comm])) (fun _ => ?_)⟩
  · exact ⟨_, rfl, _, rfl, _, _, rfl, rfl, _, rfl, _, _, rfl, rfl, kp, z⟩
  refine ⟨_, rfl, rfl, _, rfl, ite2 (fun _ => kind_go (fun a b => if b > a then b else a) h8 (fun a b H' Q' ca cb z => ?_) (fin _ (fun a b ha hb => ?_) fun a b _ _ => ?_)) (fun _ => ?_)⟩
  · exact ⟨_, rfl, _, rfl, _, _, rfl, z⟩
  · show Col k (if b > a then b else a)
    split
    · exact hb
    · exact ha
  · show (if b > a then b else a) = (if a > b then a else b)
    split <;> split <;> omega
  refine ⟨_, rfl, rfl, _, rfl, ite2 (fun _ => kind_go (fun a b => if (k : Int) - 1 < a + b then (k : Int) - 1 else a + b) h8 (fun a b H' Q' ca cb z => ?_) (fin _ (fun a b ha hb => ?_) fun a b _ _ => ?_)) (fun _ => ?_)⟩
  · exact ⟨_, rfl, _, rfl, _, _, rfl, rfl, _, rfl, _, _, rfl, rfl, _, _, rfl, z⟩
  · have := ha.1; have := hb.1
    show Col k (if (k : Int) - 1 < a + b then (k : Int) - 1 else a + b)
    split
    · exact ⟨by omega, by omega⟩
    · exact ⟨by omega, by omega⟩
  · show (if (k : Int) - 1 < a + b then (k : Int) - 1 else a + b) = (if (k : Int) - 1 < b + a then (k : Int) - 1 else b + a)
    rw [Int.add_comm]
  refine ⟨_, rfl, rfl, _, rfl, ite2 (fun _ => kind_go (fun a b => a * b % k) h8 (fun a b H' Q' ca cb z => ?_) (fin _ (fun a b _ _ => em _) fun a b _ _ => by rw [Int.mul_comm])) (fun _ => ?_)⟩
  · have := ca.1; have := ca.2
    exact ⟨_, rfl, _, rfl, _, _, rfl, rfl, .inl ⟨by omega, by omega⟩, _, rfl, _, _, rfl, rfl, kp, z⟩
  exact ⟨_, rfl, _, rfl, p, k, rfl, mv.2, h1, h8, fun l R H' mv2 nl ra ok => q l R H' (mv.trans mv2) (mv.free nl) (ra.mono (rst_up fun b o h e => ⟨mv.free h, e⟩)) ok⟩
end
end K86

namespace K86
open PySem PySem.Spec PyProof.Rows L2
/-- a division: a list of n names, each below n -/
def DivAt (H : Hp) (n : Nat) (v : V) : Prop := ∃ (r : Addr) (ns : List Int), v = .ref r ∧ Ints H r ns ∧ ns.length = n ∧ ∀ z ∈ ns, 0 ≤ z ∧ z < (n : Int)
theorem DivAt.mono {H H' : Hp} {n : Nat} {v : V} (s : Same H H') (h : DivAt H n v) : DivAt H' n v := by
  obtain ⟨r, ns, e1, e2, e3⟩ := h
  exact ⟨r, ns, e1, s _ _ e2, e3⟩
theorem le_max_of {n : Nat} : ∀ {ns : List Int}, 0 < ns.length → ∃ m, m ∈ ns ∧ ∀ y ∈ ns, y ≤ m
  | [z], _ => ⟨z, List.mem_cons_self, fun y hy => by rw [List.mem_singleton.mp hy]; exact Int.le_refl _⟩
  | z :: w :: r, _ => by
    obtain ⟨m, h1, h2⟩ := le_max_of (n := n) (ns := w :: r) (by rw [List.length_cons]; omega)
    by_cases h : m ≤ z
    · refine ⟨z, List.mem_cons_self, fun y hy => ?_⟩
      rcases List.mem_cons.mp hy with e | e
      · rw [e]; exact Int.le_refl _
      · exact Int.le_trans (h2 y e) h
    · refine ⟨m, List.mem_cons_of_mem _ h1, fun y hy => ?_⟩
      rcases List.mem_cons.mp hy with e | e
      · rw [e]; omega
      · exact h2 y e
section
variable {P : Program} {w : World} {K : PySem.W.Frag} {mg : Str → Option Value} {base : Heap}
/-! ### _law_divisions -/
def spDivs : Sp := fun vs H Q _ => ∃ k : Nat, vs = [.int k] ∧ 1 ≤ k ∧ k ≤ 4 ∧ ∀ (l : Addr) (ys : List V) (H' : Hp), Same H H' → H l = none → H' l = some (.lst ys) → ys.length ≤ 64 → (∀ y ∈ ys, DivAt (rst (New H) H') k y) → Q (.ref l) H'
theorem ok_Divs (T : Txt K mg) : FnOk P w K mg base CX0 1 T.Divs.f T.Divs.fd ["_law_size"] spDivs := by
  refine T.Divs.F.ok scDivs (fun vs H Q E h => ?_) (fun cdv A outer s H vs Q E hr h => ?_)
  · obtain ⟨k, rfl, _⟩ := h
    rfl
  obtain ⟨k, rfl, h1, h4, q⟩ := h
  refine ⟨_, pss_cons (ps_set (i := 1) scDivs.nd rfl (.inl rfl) (pe_lst (pa_cons (pe_lst (pa_cons pe_int pa_nil)) pa_nil)))
    (pss_cons (ps_for PassesOwn.never rfl (pi_range2 rfl T.z_range (pa_cons pe_int (pa_cons (pv 0) pa_nil))) (pg_name (i := 2) scDivs.nd rfl (.inl rfl))
      (pss_cons (ps_set (i := 3) scDivs.nd rfl (.inl rfl) (pe_lst pa_nil))
      (pss_cons (ps_for PassesOwn.never rfl (pi_list (pv 1)) (pg_name (i := 4) scDivs.nd rfl (.inr rfl))
        (pss_one (ps_set (i := 3) scDivs.nd rfl (.inl rfl) (pe_op op_cat (pv 3) (pe_lc (own := [("_law_name", 5)]) (g := gName 5) (tt := tYes) rfl scDivs.nd
          (pi_range1 rfl T.z_range (pa_cons (pe_op op_add (pe_callB (cr_max rfl) rfl T.z_max b_max (pa_cons (pv 4) pa_nil)) pe_int) pa_nil))
          (blkOk_by (N := nDivs) (sc := defScope sDivs) (by decide +kernel)) (fun _ _ _ _ _ => pg_name (i := 5) scDivs.nd rfl (Or.inl rfl)) (fun _ _ _ _ _ => pts_nil)
          (fun _ _ _ _ _ => pe_op op_cat (pv 4) (pe_lst (pa_cons (pv 5) pa_nil))))))))
      (pss_one (ps_set (i := 1) scDivs.nd rfl (.inl rfl) (pv 3))))))
    (pss_one (ps_ret (pv 1)))), ?_⟩
  refine ⟨le1, fun r hr' => ⟨le1, fun F hF => ?_⟩⟩
  have t1 := same_up (o := HO.lst [V.int 0]) hr'
  have t2 := same_up (o := HO.lst [V.ref r]) hF
  have nr : H r = none := hr'
  refine ⟨_, rfl, 1, k, rfl, ⟨by omega, by omega, by omega, by omega⟩, ?_⟩
  refine for_range (n := ((k : Int) - 1).toNat) (fun i σ H1 => ∃ L v2 v3 v4 v5 ys, σ = [some (V.int k), some (V.ref L), v2, v3, v4, v5] ∧ Same H H1 ∧ H L = none ∧ H1 L = some (.lst ys) ∧ ys.length ≤ 4 ^ i ∧ ∀ y ∈ ys, DivAt (rst (New H) H1) (i + 1) y)
    ⟨F, _, _, _, _, [.ref r], rfl, t1.trans t2, t1.free hF, upd_same, Nat.le_refl _, fun y hy => ?_⟩ ?_ ?_
  · rw [List.mem_singleton.mp hy]
    exact ⟨r, [0], rfl, rst_mk nr (t2 _ _ upd_same), rfl, fun z hz => by rw [List.mem_singleton.mp hz]; exact ⟨by decide, by decide⟩⟩
  · rintro i σ H1 hi ⟨L, v2, v3, v4, v5, ys, rfl, s1, nL, eL, ly, hy⟩
    have i2 : i ≤ 2 := by omega
    have p4 : 4 ^ i ≤ 16 := by
      match i, i2 with
      | 0, _ => decide
      | 1, _ => decide
      | 2, _ => decide
    refine ⟨Nat.zero_le _, fun M hM => ⟨_, rfl, L, rfl, ⟨_, SqL.of (same_up hM _ _ eL)⟩, ?_⟩⟩
    have u1 := same_up (o := HO.lst []) hM
    refine for_list (K := K) (a := L) (xs := ys) (fun j σ H2 => ∃ M v4 v5 zs, σ = [some (V.int k), some (V.ref L), some (V.int (1 + (i : Int))), some (V.ref M), v4, v5] ∧ Same H1 H2 ∧ H1 M = none ∧ H2 M = some (.lst zs) ∧ zs.length ≤ j * 4 ∧ ∀ y ∈ zs, DivAt (rst (New H) H2) (i + 2) y)
      ⟨M, _, _, [], rfl, u1, hM, upd_same, Nat.le_refl _, fun y hy => by cases hy⟩ (fun j σ H2 _ ⟨_, _, _, _, _, s2, _⟩ => SqL.of (s2 _ _ eL)) ?_ ?_
    · rintro j y σ H2 hyj ⟨M, v4, v5, zs, rfl, s2, nM, eM, lz, hz⟩
      obtain ⟨r, ns, rfl, er, ln, hns⟩ := hy y (List.mem_of_getElem? hyj)
      have er2 : Ints H2 r ns := s2 _ _ (of_rst er).2
      have hj := (List.getElem?_eq_some_iff.mp hyj).1
      refine ⟨_, rfl, _, rfl, r, ns, rfl, SqL.of er2, by omega, fun m hm hmm => ?_⟩
      have m0 := hns m hm
      refine ⟨_, _, rfl, rfl, m + 2, rfl, by omega, by omega, fun D hD => ?_⟩
      refine lc_map (n := (m + 2).toNat) hD (small1000 (by omega)) (fun a z _ => z = .int a)
        (fun a v H' => ∃ q, v = .ref q ∧ q ≠ D ∧ H q = none ∧ Ints H' q (ns ++ [(a : Int)])) (fun a v H' H'' sb ⟨q, e1, e2, e3, e4⟩ => ⟨q, e1, e2, e3, sb _ _ e4 e2⟩)
        (fun a H' ha _ => ha) (fun a H' z H'' ha s ⟨e1, e2⟩ => ⟨by rw [e1]; exact Same.refl _, by rw [e2, Int.zero_add]⟩) (fun H' _ => Nat.le_refl _) ?_ ?_
      · rintro a z H3 ha rfl s3 nD Qe hQ
        refine ⟨rfl, _, rfl, _, rfl, le1, fun b hb => ?_⟩
        have w1 := same_up (o := HO.lst [V.int a]) hb
        refine ⟨r, b, _, _, rfl, rfl, w1 _ _ (s3 _ _ er2), upd_same, by rw [List.length_map, ln]; exact small8 (by show i + 1 + 1 ≤ 1000; omega), fun q hq => ?_⟩
        have w2 := same_up (o := HO.lst (ns.map V.int ++ [V.int a])) hq
        refine hQ _ _ (w1.trans w2) ⟨q, rfl, fun z => nD (w1.free (by rw [← z]; exact hq)), s1.free (s2.free (s3.free (w1.free hq))), ?_⟩
        rw [Ints, upd_same, List.map_append]
        rfl
      · intro us H3 s3 eD hn hu
        have lu : us.length ≤ 4 := by omega
        refine ⟨M, D, zs, us, rfl, rfl, s3 _ _ eM, eD, small8 (by omega), fun M2 hM2 => ?_⟩
        have w3 := same_up (o := HO.lst (zs ++ us)) hM2
        refine ⟨M2, _, _, zs ++ us, rfl, (s2.trans s3).trans w3, s2.free (s3.free hM2), upd_same, by rw [List.length_append]; omega, fun y hy' => ?_⟩
        rcases List.mem_append.mp hy' with hy' | hy'
        · exact (hz y hy').mono (rst_up fun b o h e => ⟨h, w3 _ _ (s3 _ _ e)⟩)
        · obtain ⟨a, ha, rfl⟩ := List.getElem_of_mem hy'
          obtain ⟨q, e1, e2, e3, e4⟩ := hu a _ (List.getElem?_eq_getElem ha)
          refine ⟨q, _, e1, rst_mk e3 (w3 _ _ e4), by rw [List.length_append, ln]; rfl, fun z hz' => ?_⟩
          rcases List.mem_append.mp hz' with h | h
          · have := hns z h
            omega
          · rw [List.mem_singleton.mp h]
            omega
    · rintro σ H2 ⟨M, v4, v5, zs, rfl, s2, nM, eM, lz, hz⟩
      exact ⟨_, rfl, M, _, _, _, _, zs, rfl, s1.trans s2, s1.free nM, eM, by rw [Nat.pow_succ]; omega, hz⟩
  · rintro σ H1 ⟨L, v2, v3, v4, v5, ys, rfl, s1, nL, eL, ly, hy⟩
    have e : ((k : Int) - 1).toNat + 1 = k := by omega
    rw [e] at hy
    have p4 : 4 ^ ((k : Int) - 1).toNat ≤ 64 := by
      match k, h1, h4 with
      | 1, _, _ => decide
      | 2, _, _ => decide
      | 3, _, _ => decide
      | 4, _, _ => decide
    exact ⟨_, rfl, q L ys H1 s1 nL eL (by omega) hy⟩
end
end K86

namespace K86
open PySem PySem.Spec PyProof.Rows L2
/-- what _law_is_right looks at for three colours -/
def Good (R : Tab) (ns : List Int) (a b c : Int) : Prop := nm ns (tb R (tb R a b) c) = nm ns (tb R a (tb R b c)) ∧ (nm ns a = nm ns b → nm ns (tb R a c) = nm ns (tb R b c))
theorem good_right {k : Nat} {R : Tab} {ns : List Int} (h : ∀ a b c : Nat, a < k → b < k → c < k → Good R ns a b c) : Right k R (nm ns) := by
  have g : ∀ a b c, Col k a → Col k b → Col k c → Good R ns a b c := fun a b c ha hb hc => by
    have e := h a.toNat b.toNat c.toNat (by have := ha.1; have := ha.2; omega) (by have := hb.1; have := hb.2; omega) (by have := hc.1; have := hc.2; omega)
    rw [Int.toNat_of_nonneg ha.1, Int.toNat_of_nonneg hb.1, Int.toNat_of_nonneg hc.1] at e
    exact e
  exact ⟨fun a b c ha hb hc => (g a b c ha hb hc).1, fun a b c ha hb hc e => (g a b c ha hb hc).2 e⟩
section
variable {P : Program} {w : World} {K : PySem.W.Frag} {mg : Str → Option Value} {base : Heap}
/-! ### _law_is_right -/
def spIsRight : Sp := fun vs H Q _ => ∃ (l n : Addr) (R : Tab) (k : Nat) (ns : List Int), vs = [.ref l, .ref n] ∧ RowsAt H l R ∧ OkTab k R ∧ k ≤ 8 ∧ Ints H n ns ∧ ns.length = k ∧ ∀ b : Bool, (b = true → Right k R (nm ns)) → Q (.bl b) H
theorem ok_IsRight (T : Txt K mg) : FnOk P w K mg base CX0 1 T.IsRight.f T.IsRight.fd ["_law_rows_here", "_law_names"] spIsRight := by
  refine T.IsRight.F.ok scIsRight (fun vs H Q E h => ?_) (fun cdv A outer s H vs Q E hr h => ?_)
  · obtain ⟨l, n, R, k, ns, rfl, _⟩ := h
    rfl
  obtain ⟨l, n, R, k, ns, rfl, hR, hk, h8, en, ln, q⟩ := h
  refine ⟨_, pss_cons (ps_set (i := 2) scIsRight.nd rfl (.inl rfl) (pe_callB call_len_seq rfl T.z_len b_len (pa_cons (pv 0) pa_nil)))
    (pss_cons (ps_for PassesOwn.never rfl (pi_range1 rfl T.z_range (pa_cons (pv 2) pa_nil)) (pg_name (i := 3) scIsRight.nd rfl (.inl rfl))
      (pss_one (ps_for PassesOwn.never rfl (pi_range1 rfl T.z_range (pa_cons (pv 2) pa_nil)) (pg_name (i := 4) scIsRight.nd rfl (.inl rfl))
      (pss_one (ps_for PassesOwn.never rfl (pi_range1 rfl T.z_range (pa_cons (pv 2) pa_nil)) (pg_name (i := 5) scIsRight.nd rfl (.inl rfl))
        (pss_cons (ps_par (i := 6) (j := 7) rfl scIsRight.nd rfl rfl (by decide) rfl rfl
          (pa_cons (pe_ix ix_list (pe_ix ix_list (pv 0) (pv 3) (fun _ _ => rfl)) (pv 4) (fun _ _ => rfl)) (pa_cons (pe_ix ix_list (pe_ix ix_list (pv 0) (pv 4) (fun _ _ => rfl)) (pv 5) (fun _ _ => rfl)) pa_nil)) (by rfl))
        (pss_cons (ps_if (pt_cmpR op_ne (pe_ix ix_list (pv 1) (pe_ix ix_list (pe_ix ix_list (pv 0) (pv 6) (fun _ _ => rfl)) (pv 5) (fun _ _ => rfl)) (fun _ _ => rfl))
            (pe_ix ix_list (pv 1) (pe_ix ix_list (pe_ix ix_list (pv 0) (pv 3) (fun _ _ => rfl)) (pv 7) (fun _ _ => rfl)) (fun _ _ => rfl)) (nomark _)) (pss_one (ps_ret pe_bl)) pss_nil)
        (pss_one (ps_if (PW.pt (pw_and (pt_cmpR op_eq (pe_ix ix_list (pv 1) (pv 3) (fun _ _ => rfl)) (pe_ix ix_list (pv 1) (pv 4) (fun _ _ => rfl)) (nomark _))
            (pw_and1 (pt_cmpR op_ne (pe_ix ix_list (pv 1) (pe_ix ix_list (pe_ix ix_list (pv 0) (pv 3) (fun _ _ => rfl)) (pv 5) (fun _ _ => rfl)) (fun _ _ => rfl))
              (pe_ix ix_list (pv 1) (pe_ix ix_list (pe_ix ix_list (pv 0) (pv 4) (fun _ _ => rfl)) (pv 5) (fun _ _ => rfl)) (fun _ _ => rfl)) (nomark _))))) (pss_one (ps_ret pe_bl)) pss_nil)))))))))
    (pss_one (ps_ret pe_bl))), ?_⟩
  obtain ⟨as, ha, hl, hrow⟩ := id hR
  have hlen : ((as.map V.ref).length : Int) = k := by rw [List.length_map, hl, hk.len]
  have rowAt : ∀ {u v : Int}, Col k u → Col k v → ∃ r row, atI (as.map V.ref) u = some (.ref r) ∧ Ints H r row ∧ atI (row.map V.int) v = some (.int (tb R u v)) := fun cu cv => by
    obtain ⟨r, row, e1, e2, _, e3⟩ := RowsAt.row (H := H) hk cu hl hrow
    exact ⟨r, row, e1, e2, e3 _ cv⟩
  have nmAt : ∀ {u : Int}, Col k u → atI (ns.map V.int) u = some (.int (nm ns u)) := fun {u} cu => at_of (j := u.toNat) (by have := cu.1; omega) (getI (nm_get ln cu))
  refine ⟨_, rfl, l, _, rfl, .inl (SqL.of ha), ?_⟩
  rw [hlen]
  have rg : ∀ {σ : L2.St} {R' : It → Hp → Prop}, R' (Itr 0 (k : Int).toNat) H → ∃ j : Int, [V.int k] = [.int j] ∧ -(2 ^ 62) ≤ j ∧ j < 2 ^ 62 ∧ R' (Itr 0 j.toNat) H := fun h => ⟨k, rfl, (range_ok h8).1, (range_ok h8).2, h⟩
  refine ⟨_, rfl, k, rfl, (range_ok h8).1, (range_ok h8).2, ?_⟩
  rw [Int.toNat_natCast]
  refine for_range (n := k) (fun i σ H1 => H1 = H ∧ (∃ v3 v4 v5 v6 v7, σ = [some (V.ref l), some (V.ref n), some (V.int k), v3, v4, v5, v6, v7]) ∧ ∀ a b c : Nat, a < i → b < k → c < k → Good R ns a b c) ⟨rfl, ⟨_, _, _, _, _, rfl⟩, fun a b c h => absurd h (Nat.not_lt_zero _)⟩ ?_ ?_
  · rintro i σ H1 hi ⟨rfl, ⟨v3, v4, v5, v6, v7, rfl⟩, g1⟩
    refine ⟨_, rfl, k, rfl, (range_ok h8).1, (range_ok h8).2, ?_⟩
    rw [Int.toNat_natCast, Int.zero_add]
    refine for_range (n := k) (fun j σ H1' => H1' = H1 ∧ (∃ v4 v5 v6 v7, σ = [some (V.ref l), some (V.ref n), some (V.int k), some (V.int (i : Int)), v4, v5, v6, v7]) ∧ ∀ b c : Nat, b < j → c < k → Good R ns i b c) ⟨rfl, ⟨_, _, _, _, rfl⟩, fun b c h => absurd h (Nat.not_lt_zero _)⟩ ?_ ?_
    · rintro j σ H1' hj ⟨rfl, ⟨v4, v5, v6, v7, rfl⟩, g2⟩
      refine ⟨_, rfl, k, rfl, (range_ok h8).1, (range_ok h8).2, ?_⟩
      rw [Int.toNat_natCast, Int.zero_add]
      refine for_range (n := k) (fun m σ H2' => H2' = H1' ∧ (∃ v5 v6 v7, σ = [some (V.ref l), some (V.ref n), some (V.int k), some (V.int (i : Int)), some (V.int (j : Int)), v5, v6, v7]) ∧ ∀ c : Nat, c < m → Good R ns i j c) ⟨rfl, ⟨_, _, _, rfl⟩, fun c h => absurd h (Nat.not_lt_zero _)⟩ ?_ ?_
      · rintro m σ H2' hm ⟨rfl, ⟨v5, v6, v7, rfl⟩, g3⟩
        rw [Int.zero_add]
        have ci : Col k (i : Int) := ⟨by omega, by omega⟩
        have cj : Col k (j : Int) := ⟨by omega, by omega⟩
        have cm : Col k (m : Int) := ⟨by omega, by omega⟩
        have cij := hk.ent _ _ ci cj
        have cjm := hk.ent _ _ cj cm
        have cim := hk.ent _ _ ci cm
        have c1 := hk.ent _ _ cij cm
        have c2 := hk.ent _ _ ci cjm
        obtain ⟨r1, w1, a1, a2, a3⟩ := rowAt ci cj
        obtain ⟨r2, w2, b1, b2, b3⟩ := rowAt cj cm
        obtain ⟨r3, w3, x1, x2, x3⟩ := rowAt cij cm
        obtain ⟨r4, w4, y1, y2, y3⟩ := rowAt ci cjm
        obtain ⟨r5, w5, z1, z2, z3⟩ := rowAt ci cm
        refine ⟨_, rfl, _, rfl, l, _, _, _, rfl, rfl, SqL.of ha, a1, _, rfl, r1, _, _, _, rfl, rfl, SqL.of a2, a3, _, rfl, _, rfl, l, _, _, _, rfl, rfl, SqL.of ha, b1, _, rfl, r2, _, _, _, rfl, rfl, SqL.of b2, b3, _, _, rfl, ?_⟩
        refine ⟨_, rfl, _, rfl, _, rfl, l, _, _, _, rfl, rfl, SqL.of ha, x1, _, rfl, r3, _, _, _, rfl, rfl, SqL.of x2, x3, n, _, _, _, rfl, rfl, SqL.of en, nmAt c1,
          _, rfl, _, rfl, _, rfl, l, _, _, _, rfl, rfl, SqL.of ha, y1, _, rfl, r4, _, _, _, rfl, rfl, SqL.of y2, y3, n, _, _, _, rfl, rfl, SqL.of en, nmAt c2, rfl, _, rfl, ite2 (fun _ => q _ fun e => by cases e) (fun h1 => ?_)⟩
        have e1 : nm ns (tb R (tb R i j) m) = nm ns (tb R i (tb R j m)) := by
          by_cases h : nm ns (tb R (tb R i j) m) = nm ns (tb R i (tb R j m))
          · exact h
          · exact (h1 (by rw [decide_eq_false (fun z => h (V.int.inj z))]; rfl)).elim
        have next : (nm ns i = nm ns j → nm ns (tb R i m) = nm ns (tb R j m)) → ∀ c : Nat, c < m + 1 → Good R ns i j c := fun e2 c hc => by
          by_cases h : c = m
          · rw [h]; exact ⟨e1, e2⟩
          · exact g3 c (by omega)
        refine ⟨_, rfl, _, rfl, n, _, _, _, rfl, rfl, SqL.of en, nmAt ci, _, rfl, _, rfl, n, _, _, _, rfl, rfl, SqL.of en, nmAt cj, rfl, _, rfl, ite2 (fun h2 => ?_) (fun h2 => iteF ⟨rfl, ⟨_, _, _, rfl⟩, next fun z => (h2 (decide_eq_true (by rw [z]))).elim⟩)⟩
        refine ⟨_, rfl, _, rfl, _, rfl, l, _, _, _, rfl, rfl, SqL.of ha, z1, _, rfl, r5, _, _, _, rfl, rfl, SqL.of z2, z3, n, _, _, _, rfl, rfl, SqL.of en, nmAt cim,
          _, rfl, _, rfl, _, rfl, l, _, _, _, rfl, rfl, SqL.of ha, b1, _, rfl, r2, _, _, _, rfl, rfl, SqL.of b2, b3, n, _, _, _, rfl, rfl, SqL.of en, nmAt cjm, rfl, _, rfl, ite2 (fun _ => q _ fun e => by cases e) (fun h3 => ?_)⟩
        refine ⟨rfl, ⟨_, _, _, rfl⟩, next fun _ => ?_⟩
        by_cases h : nm ns (tb R i m) = nm ns (tb R j m)
        · exact h
        · exact (h3 (by rw [decide_eq_false (fun z => h (V.int.inj z))]; rfl)).elim
      · rintro σ H2' ⟨rfl, ⟨v5, v6, v7, rfl⟩, g3⟩
        refine ⟨rfl, ⟨_, _, _, _, rfl⟩, fun b c hb hc => ?_⟩
        by_cases h : b = j
        · rw [h]; exact g3 c hc
        · exact g2 b c (by omega) hc
    · rintro σ H1' ⟨rfl, ⟨v4, v5, v6, v7, rfl⟩, g2⟩
      refine ⟨rfl, ⟨_, _, _, _, _, rfl⟩, fun a b c ha' hb hc => ?_⟩
      by_cases h : a = i
      · rw [h]; exact g2 b c hb hc
      · exact g1 a b c (by omega) hb hc
  · rintro σ H1 ⟨rfl, ⟨v3, v4, v5, v6, v7, rfl⟩, g1⟩
    exact q _ fun _ => good_right g1
end
end K86

namespace K86
open PySem PySem.Spec PyProof.Rows L2
/-- a list of steps, new since H0 -/
def Ls (k : Nat) (H0 H : Hp) (v : V) : Prop := ∃ (q : Addr) (zs : List V), v = .ref q ∧ H0 q = none ∧ H q = some (.lst zs) ∧ zs.length ≤ 8 ∧ ∀ z ∈ zs, ∃ x y, StepAt k 7 (rst (New H0) H) z x y
theorem Ls.mono {k : Nat} {H0 H H' : Hp} {v : V} (s : ∀ b o, H0 b = none → H b = some o → H' b = some o) (h : Ls k H0 H v) : Ls k H0 H' v := by
  obtain ⟨q, zs, e, n, e2, l, st⟩ := h
  exact ⟨q, zs, e, n, s _ _ n e2, l, fun z hz => (st z hz).elim fun x h => h.elim fun y h => ⟨x, y, h.mono (rst_up fun b o h e => ⟨h, s _ _ h e⟩)⟩⟩
section
variable {P : Program} {w : World} {K : PySem.W.Frag} {mg : Str → Option Value} {base : Heap}
/-! ### _law_step -/
def spLStep : Sp := fun vs H Q _ => ∃ (p l : Addr) (R : Tab) (k : Nat), vs = [.ref p, .ref l] ∧ Pl H p ∧ RowsAt (rst (Not p) H) l R ∧ OkTab k R ∧ 1 ≤ k ∧ k ≤ 4 ∧
  ∀ (v : V) (x y : Int) (H' : Hp), Mv p H H' → StepAt k 8 (rst (New H) H') v x y → Q v H'
theorem ok_LStep (T : Txt K mg) : FnOk P w K mg base CX0 10 T.LStep.f T.LStep.fd ["_law_pool_here", "_law_rows_here"] spLStep := by
  have GD : FnOk P w K mg base CX0 1 T.Draw.f T.Draw.fd ["_law_pool_here", "_law_many"] spDraw := ok_Draw T
  have GC : FnOk P w K mg base CX0 2 T.Choose.f T.Choose.fd ["_law_pool_here", "_law_items"] spChoose := ok_Choose T
  have GT : FnOk P w K mg base CX0 4 T.TInit.f T.TInit.fd ["self", "rows"] (spTInit T.C) := ok_TInit T
  have GR : FnOk P w K mg base CX0 9 T.Reason.f T.Reason.fd ["table", "start", "end"] (spReason T.C) := ok_Reason T
  refine T.LStep.F.ok scLStep (fun vs H Q E h => ?_) (fun cdv A outer s H vs Q E hr h => ?_)
  · obtain ⟨p, l, R, k, rfl, _⟩ := h
    rfl
  obtain ⟨p, l, R, k, rfl, hP, hR, hk, h1, h4, q⟩ := h
  refine ⟨_, pss_cons (ps_set (i := 2) scLStep.nd rfl (.inl rfl) (pe_callB call_len_seq rfl T.z_len b_len (pa_cons (pv 1) pa_nil)))
    (pss_cons (ps_par3 (i := 3) (j := 4) (l := 5) rfl scLStep.nd rfl rfl rfl (by decide) (by decide) (by decide) rfl rfl rfl
      (pa_cons (pe_call GD (hr.mono (by decide)) rfl T.Draw.g T.Draw.F.kp T.Draw.b .nil pass0 (pa_cons (pv 0) (pa_cons (pv 2) pa_nil)))
        (pa_cons (pe_call GD (hr.mono (by decide)) rfl T.Draw.g T.Draw.F.kp T.Draw.b .nil pass0 (pa_cons (pv 0) (pa_cons (pv 2) pa_nil)))
        (pa_cons (pe_call GD (hr.mono (by decide)) rfl T.Draw.g T.Draw.F.kp T.Draw.b .nil pass0 (pa_cons (pv 0) (pa_cons (pv 2) pa_nil))) pa_nil))) (by rfl))
    (pss_cons (ps_if (pt_cmpR op_eq (pe_call GD (hr.mono (by decide)) rfl T.Draw.g T.Draw.F.kp T.Draw.b .nil pass0 (pa_cons (pv 0) (pa_cons pe_int pa_nil))) pe_int (nomark _))
      (pss_one (ps_ret (pe_tup (pa_cons (pe_ix ix_list (pe_ix ix_list (pv 1) (pe_ix ix_list (pe_ix ix_list (pv 1) (pv 3) (fun _ _ => rfl)) (pv 4) (fun _ _ => rfl)) (fun _ _ => rfl)) (pv 5) (fun _ _ => rfl))
        (pa_cons (pe_ix ix_list (pe_ix ix_list (pv 1) (pv 3) (fun _ _ => rfl)) (pe_ix ix_list (pe_ix ix_list (pv 1) (pv 4) (fun _ _ => rfl)) (pv 5) (fun _ _ => rfl)) (fun _ _ => rfl))
        (pa_cons (pe_tup (pa_cons pe_str (pa_cons (pv 3) (pa_cons (pv 4) (pa_cons (pv 5) pa_nil))))) pa_nil)))))) pss_nil)
    (pss_cons (ps_set (i := 6) scLStep.nd rfl (.inl rfl) (pe_lst (pa_cons (pe_tup (pa_cons (pv 3) (pa_cons (pv 4) (pa_cons (pe_tup (pa_cons pe_str
        (pa_cons (pe_call GD (hr.mono (by decide)) rfl T.Draw.g T.Draw.F.kp T.Draw.b .nil pass0 (pa_cons (pv 0) (pa_cons (pv 2) pa_nil)))
        (pa_cons (pe_call GD (hr.mono (by decide)) rfl T.Draw.g T.Draw.F.kp T.Draw.b .nil pass0 (pa_cons (pv 0) (pa_cons (pv 2) pa_nil)))
        (pa_cons (pe_call GD (hr.mono (by decide)) rfl T.Draw.g T.Draw.F.kp T.Draw.b .nil pass0 (pa_cons (pv 0) (pa_cons (pv 2) pa_nil))) pa_nil))))) pa_nil)))) pa_nil)))
    (pss_cons (ps_set (i := 7) scLStep.nd rfl (.inl rfl) (pe_call GC (hr.mono (by decide)) rfl T.Choose.g T.Choose.F.kp T.Choose.b .nil pass0 (pa_cons (pv 0)
        (pa_cons (pe_lst (pa_cons (pv 6) (pa_cons (pe_orT (pe_call GR hr rfl T.Reason.g T.Reason.F.kp T.Reason.b .nil pass0
          (pa_cons (pe_make T.mkC GT (hr.mono (by decide)) rfl T.gC T.TInit.b .nil pass0 (pa_cons (pv 1) pa_nil)) (pa_cons (pv 3) (pa_cons (pv 4) pa_nil)))) (pe_one (pe_lst pa_nil))) (pa_cons (pe_lst pa_nil) pa_nil)))) pa_nil))))
    (pss_one (ps_ret (pe_tup (pa_cons (pe_ix ix_list (pe_ix ix_list (pv 1) (pv 3) (fun _ _ => rfl)) (pv 5) (fun _ _ => rfl)) (pa_cons (pe_ix ix_list (pe_ix ix_list (pv 1) (pv 4) (fun _ _ => rfl)) (pv 5) (fun _ _ => rfl))
      (pa_cons (pe_tup (pa_cons pe_str (pa_cons (pv 5) (pa_cons (pv 3) (pa_cons (pv 4) (pa_cons (pv 7) pa_nil)))))) pa_nil)))))))))), ?_⟩
  have hp := hP.ne
  have kp : (0 : Int) < k := by omega
  have kb : (k : Int) < 1073741824 := by omega
  obtain ⟨as, ha, hl, hrow⟩ := id hR
  have hlen : ((as.map V.ref).length : Int) = k := by rw [List.length_map, hl, hk.len]
  -- the rows in a later heap
  have la : ∀ {H' : Hp}, Mv p H H' → SqL K H' l (as.map V.ref) := fun m => SqL.of (rst_le _ _ (m.not _ _ ha))
  have rowAt : ∀ {H' : Hp} {u v : Int}, Mv p H H' → Col k u → Col k v → ∃ r row, atI (as.map V.ref) u = some (.ref r) ∧ Ints H' r row ∧ atI (row.map V.int) v = some (.int (tb R u v)) := fun {H' u v} m cu cv => by
    obtain ⟨r, row, e1, e2, _, e3⟩ := RowsAt.row (H := H') hk cu hl (fun i r row e1 e2 => rst_le _ _ (m.not _ _ (hrow i r row e1 e2)))
    exact ⟨r, row, e1, e2, e3 _ cv⟩
  refine ⟨_, rfl, l, _, rfl, .inl (la (Mv.refl hP)), ?_⟩
  rw [hlen]
  refine ⟨_, rfl, _, rfl, p, k, rfl, hP, kp, kb, fun a H1 m1 a0 a1 => ⟨_, rfl, _, rfl, p, k, rfl, m1.2, kp, kb, fun b H2 m2 b0 b1 => ⟨_, rfl, _, rfl, p, k, rfl, m2.2, kp, kb, fun c H3 m3 c0 c1 => ⟨_, _, _, rfl, ?_⟩⟩⟩⟩
  have ca : Col k a := ⟨a0, a1⟩
  have cb : Col k b := ⟨b0, b1⟩
  have cc : Col k c := ⟨c0, c1⟩
  have m03 := (m1.trans m2).trans m3
  refine ⟨_, rfl, p, 2, rfl, m03.2, by decide, by decide, fun d H4 m4 d0 d1 => ⟨rfl, _, rfl, ite2 (fun _ => ?_) (fun _ => ?_)⟩⟩
  · -- a test
    have m04 := m03.trans m4
    have cab := hk.ent _ _ ca cb
    have cbc := hk.ent _ _ cb cc
    obtain ⟨r1, w1, a1, a2, a3⟩ := rowAt m04 ca cb
    obtain ⟨r2, w2, b1, b2, b3⟩ := rowAt m04 cb cc
    obtain ⟨r3, w3, x1, x2, x3⟩ := rowAt m04 cab cc
    obtain ⟨r4, w4, y1, y2, y3⟩ := rowAt m04 ca cbc
    refine ⟨_, rfl, _, rfl, _, rfl, l, _, _, _, rfl, rfl, la m04, a1, _, rfl, r1, _, _, _, rfl, rfl, SqL.of a2, a3, l, _, _, _, rfl, rfl, la m04, x1, _, rfl, r3, _, _, _, rfl, rfl, SqL.of x2, x3, ?_⟩
    refine ⟨_, rfl, _, rfl, l, _, _, _, rfl, rfl, la m04, y1, _, rfl, _, rfl, l, _, _, _, rfl, rfl, la m04, b1, _, rfl, r2, _, _, _, rfl, rfl, SqL.of b2, b3, r4, _, _, _, rfl, rfl, SqL.of y2, y3, ?_⟩
    refine ⟨_, rfl, _, rfl, _, rfl, le4, fun q1 hq1 => ⟨le3, fun p1 hp1 => ?_⟩⟩
    have t1 := same_up (o := HO.tup [V.str "test", V.int a, V.int b, V.int c]) hq1
    have t2 := same_up (o := HO.tup [V.int (tb R (tb R a b) c), V.int (tb R a (tb R b c)), V.ref q1]) hp1
    exact q _ _ _ _ (m04.go (t1.trans t2)) ⟨p1, q1, rfl, rst_mk (m04.free (t1.free hp1)) upd_same, hk.ent _ _ cab cc, hk.ent _ _ ca cbc, .inl ⟨a, b, c, rst_mk (m04.free hq1) (t2 _ _ upd_same), ca, cb, cc⟩⟩
  · -- a put
    have m04 := m03.trans m4
    refine ⟨_, rfl, _, rfl, _, rfl, _, rfl, p, k, rfl, m04.2, kp, kb, fun t1 H5 m5 t10 t11 => ⟨_, rfl, _, rfl, p, k, rfl, m5.2, kp, kb, fun t2 H6 m6 t20 t21 => ⟨_, rfl, _, rfl, p, k, rfl, m6.2, kp, kb, fun t3 H7 m7 t30 t31 => ⟨le4, fun q1 hq1 => ⟨le3, fun q2 hq2 => ⟨le1, fun q3 hq3 => ?_⟩⟩⟩⟩⟩⟩
    have m07 := ((m04.trans m5).trans m6).trans m7
    have u1 := same_up (o := HO.tup [V.str "test", V.int t1, V.int t2, V.int t3]) hq1
    have u2 := same_up (o := HO.tup [V.int a, V.int b, V.ref q1]) hq2
    have u3 := same_up (o := HO.lst [V.ref q2]) hq3
    have LI : Ls k H (upd (upd (upd H7 q1 (HO.tup [V.str "test", V.int t1, V.int t2, V.int t3])) q2 (HO.tup [V.int a, V.int b, V.ref q1])) q3 (HO.lst [V.ref q2])) (.ref q3) := by
      refine ⟨q3, _, rfl, m07.free (u1.free (u2.free hq3)), upd_same, (by decide : 1 ≤ 8), fun z hz => ?_⟩
      rw [List.mem_singleton.mp hz]
      exact ⟨a, b, q2, q1, rfl, rst_mk (m07.free (u1.free hq2)) (u3 _ _ upd_same), ca, cb, .inl ⟨t1, t2, t3, rst_mk (m07.free hq1) (u3 _ _ (u2 _ _ upd_same)), ⟨t10, t11⟩, ⟨t20, t21⟩, ⟨t30, t31⟩⟩⟩
    have m08 := m07.go ((u1.trans u2).trans u3)
    generalize upd (upd (upd H7 q1 (HO.tup [V.str "test", V.int t1, V.int t2, V.int t3])) q2 (HO.tup [V.int a, V.int b, V.ref q1])) q3 (HO.lst [V.ref q2]) = H8 at LI m08 ⊢
    refine ⟨_, rfl, _, rfl, _, rfl, fun t dx ht hdx _ => ⟨t, l, dx, R, k, rfl, upd_same, ?_, hk, h1, by omega, fun H9 sb ta => ⟨rfl, ?_⟩⟩⟩
    · exact (hR.mono ((m08.not).trans rst_le)).mono (same_two ht hdx)
    have s9 := same_made ht hdx sb
    refine ⟨_, rfl, _, rfl, t, R, k, a, b, rfl, ta.mono rst_le, hk, h4, ca, cb, fun H10 s10 => ⟨false, rfl, ?_⟩, fun zl zs H10 s10 nzl ezl lzs st => ⟨_, .inl ⟨zs, SqL.of ezl, rfl⟩, ite2 (fun _ => ?_) (fun _ => ?_)⟩⟩
    · refine iteF ⟨Nat.zero_le _, fun e1 he1 => ?_⟩
      have w1 := same_up (o := HO.lst []) he1
      have SZ := (s9.trans s10).trans w1
      have MZ := m08.go SZ
      have LZ : Ls k H (upd H10 e1 (.lst [])) (.ref e1) := ⟨e1, [], rfl, m08.free ((s9.trans s10).free he1), upd_same, (by decide), fun z hz => by cases hz⟩
      refine ⟨Nat.zero_le _, fun e he => ⟨le3, fun big hbig => ?_⟩⟩
      have f1 := same_up (o := HO.lst []) he
      have f2 := same_up (o := HO.lst [V.ref q3, V.ref e1, V.ref e]) hbig
      have MB := MZ.go (f1.trans f2)
      refine ⟨p, big, _, rfl, MB.2, fun z => (MZ.go f1).2.ne (by rw [← z]; exact hbig), upd_same, (by decide : 0 < 3), (by decide : 3 ≤ 1000), fun v H' mv hv => ?_⟩
      have M1 := MB.trans mv
      have keep : ∀ b o, H b = none → (upd H10 e1 (.lst [])) b = some o → H' b = some o := fun b o n e => mv.1 _ _ (f2 _ _ (f1 _ _ e)) (fun z => hp (by rw [← z]; exact n))
      have LE : Ls k H H' v := by
        simp only [List.mem_cons, List.not_mem_nil, or_false] at hv
        rcases hv with rfl | rfl | rfl
        · exact LI.mono fun b o n e' => keep _ _ n (SZ _ _ e')
        · exact LZ.mono keep
        · have ne := MZ.free he
          exact ⟨e, [], rfl, ne, mv.1 _ _ (f2 _ _ upd_same) (fun z => hp (by rw [← z]; exact ne)), (by decide), fun z hz => by cases hz⟩
      obtain ⟨qv, zs', rfl, nqv, eqv, lqv, sqv⟩ := LE
      obtain ⟨r1, w1', x1, x2, x3⟩ := rowAt M1 ca cc
      obtain ⟨r2, w2', y1, y2, y3⟩ := rowAt M1 cb cc
      refine ⟨_, rfl, _, rfl, l, _, _, _, rfl, rfl, la M1, x1, _, rfl, r1, _, _, _, rfl, rfl, SqL.of x2, x3, ?_⟩
      refine ⟨_, rfl, _, rfl, l, _, _, _, rfl, rfl, la M1, y1, _, rfl, r2, _, _, _, rfl, rfl, SqL.of y2, y3, ?_⟩
      refine ⟨_, rfl, _, rfl, _, rfl, _, rfl, le5, fun g1 hg1 => ⟨le3, fun g2 hg2 => ?_⟩⟩
      have z1 := same_up (o := HO.tup [V.str "put", V.int c, V.int a, V.int b, V.ref qv]) hg1
      have z2 := same_up (o := HO.tup [V.int (tb R a c), V.int (tb R b c), V.ref g1]) hg2
      exact q _ _ _ _ (M1.go (z1.trans z2)) ⟨g2, g1, rfl, rst_mk (M1.free (z1.free hg2)) upd_same, hk.ent _ _ ca cc, hk.ent _ _ cb cc, .inr ⟨c, a, b, qv, zs', rst_mk (M1.free hg1) (z2 _ _ upd_same), cc, ca, cb, rst_mk nqv (z2 _ _ (z1 _ _ eqv)), lqv,
        fun w hw => (sqv w hw).elim fun x h => h.elim fun y h => ⟨x, y, h.mono (rst_up fun b o n e => ⟨n, z2 _ _ (z1 _ _ e)⟩)⟩⟩⟩
    · have SZ := s9.trans s10
      have MZ := m08.go SZ
      have LZ : Ls k H H10 (.ref zl) := ⟨zl, zs, rfl, m08.free (s9.free nzl), ezl, lzs, fun z hz => (st z hz).elim fun x h => h.elim fun y h => ⟨x, y, h.mono (rst_up fun b o h e => ⟨m08.free (s9.free h), e⟩)⟩⟩
      refine ⟨Nat.zero_le _, fun e he => ⟨le3, fun big hbig => ?_⟩⟩
      have f1 := same_up (o := HO.lst []) he
      have f2 := same_up (o := HO.lst [V.ref q3, V.ref zl, V.ref e]) hbig
      have MB := MZ.go (f1.trans f2)
      refine ⟨p, big, _, rfl, MB.2, fun z => (MZ.go f1).2.ne (by rw [← z]; exact hbig), upd_same, (by decide : 0 < 3), (by decide : 3 ≤ 1000), fun v H' mv hv => ?_⟩
      have M1 := MB.trans mv
      have keep : ∀ b o, H b = none → H10 b = some o → H' b = some o := fun b o n e => mv.1 _ _ (f2 _ _ (f1 _ _ e)) (fun z => hp (by rw [← z]; exact n))
      have LE : Ls k H H' v := by
        simp only [List.mem_cons, List.not_mem_nil, or_false] at hv
        rcases hv with rfl | rfl | rfl
        · exact LI.mono fun b o n e' => keep _ _ n (SZ _ _ e')
        · exact LZ.mono keep
        · have ne := MZ.free he
          exact ⟨e, [], rfl, ne, mv.1 _ _ (f2 _ _ upd_same) (fun z => hp (by rw [← z]; exact ne)), (by decide), fun z hz => by cases hz⟩
      obtain ⟨qv, zs', rfl, nqv, eqv, lqv, sqv⟩ := LE
      obtain ⟨r1, w1', x1, x2, x3⟩ := rowAt M1 ca cc
      obtain ⟨r2, w2', y1, y2, y3⟩ := rowAt M1 cb cc
      refine ⟨_, rfl, _, rfl, l, _, _, _, rfl, rfl, la M1, x1, _, rfl, r1, _, _, _, rfl, rfl, SqL.of x2, x3, ?_⟩
      refine ⟨_, rfl, _, rfl, l, _, _, _, rfl, rfl, la M1, y1, _, rfl, r2, _, _, _, rfl, rfl, SqL.of y2, y3, ?_⟩
      refine ⟨_, rfl, _, rfl, _, rfl, _, rfl, le5, fun g1 hg1 => ⟨le3, fun g2 hg2 => ?_⟩⟩
      have z1 := same_up (o := HO.tup [V.str "put", V.int c, V.int a, V.int b, V.ref qv]) hg1
      have z2 := same_up (o := HO.tup [V.int (tb R a c), V.int (tb R b c), V.ref g1]) hg2
      exact q _ _ _ _ (M1.go (z1.trans z2)) ⟨g2, g1, rfl, rst_mk (M1.free (z1.free hg2)) upd_same, hk.ent _ _ ca cc, hk.ent _ _ cb cc, .inr ⟨c, a, b, qv, zs', rst_mk (M1.free hg1) (z2 _ _ upd_same), cc, ca, cb, rst_mk nqv (z2 _ _ (z1 _ _ eqv)), lqv,
        fun w hw => (sqv w hw).elim fun x h => h.elim fun y h => ⟨x, y, h.mono (rst_up fun b o n e => ⟨n, z2 _ _ (z1 _ _ e)⟩)⟩⟩⟩
    · refine ⟨Nat.zero_le _, fun e1 he1 => ?_⟩
      have w1 := same_up (o := HO.lst []) he1
      have SZ := (s9.trans s10).trans w1
      have MZ := m08.go SZ
      have LZ : Ls k H (upd H10 e1 (.lst [])) (.ref e1) := ⟨e1, [], rfl, m08.free ((s9.trans s10).free he1), upd_same, (by decide), fun z hz => by cases hz⟩
      refine ⟨Nat.zero_le _, fun e he => ⟨le3, fun big hbig => ?_⟩⟩
      have f1 := same_up (o := HO.lst []) he
      have f2 := same_up (o := HO.lst [V.ref q3, V.ref e1, V.ref e]) hbig
      have MB := MZ.go (f1.trans f2)
      refine ⟨p, big, _, rfl, MB.2, fun z => (MZ.go f1).2.ne (by rw [← z]; exact hbig), upd_same, (by decide : 0 < 3), (by decide : 3 ≤ 1000), fun v H' mv hv => ?_⟩
      have M1 := MB.trans mv
      have keep : ∀ b o, H b = none → (upd H10 e1 (.lst [])) b = some o → H' b = some o := fun b o n e => mv.1 _ _ (f2 _ _ (f1 _ _ e)) (fun z => hp (by rw [← z]; exact n))
      have LE : Ls k H H' v := by
        simp only [List.mem_cons, List.not_mem_nil, or_false] at hv
        rcases hv with rfl | rfl | rfl
        · exact LI.mono fun b o n e' => keep _ _ n (SZ _ _ e')
        · exact LZ.mono keep
        · have ne := MZ.free he
          exact ⟨e, [], rfl, ne, mv.1 _ _ (f2 _ _ upd_same) (fun z => hp (by rw [← z]; exact ne)), (by decide), fun z hz => by cases hz⟩
      obtain ⟨qv, zs', rfl, nqv, eqv, lqv, sqv⟩ := LE
      obtain ⟨r1, w1', x1, x2, x3⟩ := rowAt M1 ca cc
      obtain ⟨r2, w2', y1, y2, y3⟩ := rowAt M1 cb cc
      refine ⟨_, rfl, _, rfl, l, _, _, _, rfl, rfl, la M1, x1, _, rfl, r1, _, _, _, rfl, rfl, SqL.of x2, x3, ?_⟩
      refine ⟨_, rfl, _, rfl, l, _, _, _, rfl, rfl, la M1, y1, _, rfl, r2, _, _, _, rfl, rfl, SqL.of y2, y3, ?_⟩
      refine ⟨_, rfl, _, rfl, _, rfl, _, rfl, le5, fun g1 hg1 => ⟨le3, fun g2 hg2 => ?_⟩⟩
      have z1 := same_up (o := HO.tup [V.str "put", V.int c, V.int a, V.int b, V.ref qv]) hg1
      have z2 := same_up (o := HO.tup [V.int (tb R a c), V.int (tb R b c), V.ref g1]) hg2
      exact q _ _ _ _ (M1.go (z1.trans z2)) ⟨g2, g1, rfl, rst_mk (M1.free (z1.free hg2)) upd_same, hk.ent _ _ ca cc, hk.ent _ _ cb cc, .inr ⟨c, a, b, qv, zs', rst_mk (M1.free hg1) (z2 _ _ upd_same), cc, ca, cb, rst_mk nqv (z2 _ _ (z1 _ _ eqv)), lqv,
        fun w hw => (sqv w hw).elim fun x h => h.elim fun y h => ⟨x, y, h.mono (rst_up fun b o n e => ⟨n, z2 _ _ (z1 _ _ e)⟩)⟩⟩⟩
end
end K86

namespace K86
open PySem PySem.Spec PyProof.Rows L2
/-! ### what law holds between two turns of its inner loop -/
def Rt (k : Nat) (R : Tab) (H : Hp) (v : V) : Prop := ∃ (r : Addr) (ns : List Int), v = .ref r ∧ Ints H r ns ∧ ns.length = k ∧ Right k R (nm ns)
theorem Rt.mono {k : Nat} {R : Tab} {H H' : Hp} {v : V} (s : Same H H') (h : Rt k R H v) : Rt k R H' v := by
  obtain ⟨r, ns, e1, e2, e3⟩ := h
  exact ⟨r, ns, e1, s _ _ e2, e3⟩
structure Wd (C l t pt rt : Addr) (k : Nat) (R ps : Tab) (rs : List V) (H : Hp) : Prop where
  rows : RowsAt H l R
  tab : TabAt C H t R
  parts : RowsAt H pt ps
  top : H rt = some (.lst rs)
  rights : ∀ y ∈ rs, Rt k R H y
theorem Wd.mono {C l t pt rt : Addr} {k : Nat} {R ps : Tab} {rs : List V} {H H' : Hp} (s : Same H H') (h : Wd C l t pt rt k R ps rs H) : Wd C l t pt rt k R ps rs H' :=
  ⟨h.rows.mono s, h.tab.mono s, h.parts.mono s, s _ _ h.top, fun y hy => (h.rights y hy).mono s⟩
theorem seq_cut {t u : TS} {D : Ends} {σ : L2.St} {H : Hp} (I : L2.St → Hp → Prop) (h1 : ∀ σ H, I σ H → u D σ H) (h2 : ∀ N : L2.St → Hp → Prop, (∀ σ H, I σ H → N σ H) → t { D with nx := N } σ H) : tSeq t u D σ H := h2 _ h1
theorem nx_red {nx bk ct : L2.St → Hp → Prop} {rt : VK} {σ : L2.St} {H : Hp} (h : nx σ H) : (Ends.mk nx rt bk ct).nx σ H := h
theorem mem_filt {os : List (Option V)} {y : V} (h : y ∈ os.filterMap id) : ∃ i : Nat, os[i]? = some (some y) := by
  obtain ⟨o, ho, e⟩ := List.mem_filterMap.mp h
  obtain ⟨i, hi, rfl⟩ := List.getElem_of_mem ho
  exact ⟨i, by rw [List.getElem?_eq_getElem hi]; exact congrArg some e⟩
theorem filt_mem {os : List (Option V)} {y : V} {i : Nat} (h : os[i]? = some (some y)) : y ∈ os.filterMap id := List.mem_filterMap.mpr ⟨some y, List.mem_of_getElem? h, rfl⟩
/-! ### data -/
theorem dp_ints {K : PySem.W.Frag} {H : Hp} : ∀ ns : List Int, DpAll K H (ns.map V.int) (ns.map PyData.int) ∧ LayAll 0 (ns.map PyData.int)
  | [] => ⟨.nil, LayAll.nil⟩
  | n :: ns => by
    obtain ⟨h1, h2⟩ := dp_ints (K := K) (H := H) ns
    exact ⟨.cons (.int n) h1, LayAll.cons (Lay.int n) h2⟩
theorem dp_list {K : PySem.W.Frag} {H : Hp} {r : Addr} {ns : List Int} (h : Ints H r ns) : ∃ e, Dp K H (.ref r) e ∧ Lay 1 e := by
  obtain ⟨h1, h2⟩ := dp_ints (K := K) (H := H) ns
  exact ⟨_, .lst (SqL.of h) h1, Lay.lst h2⟩
theorem eqvL_nil (es : List PyData) : PyData.eqv (.list es) (.list []) = es.isEmpty := by
  cases es with
  | nil => simp only [PyData.eqv, PyData.eqvAll, List.isEmpty]
  | cons e es => simp only [PyData.eqv, PyData.eqvAll, List.isEmpty]
theorem dp_empty {K : PySem.W.Frag} {H : Hp} {vs : List V} {es : List PyData} (h : DpAll K H vs es) : es.isEmpty = vs.isEmpty := by
  cases h <;> rfl
theorem in_row {a : Int} {row : List Int} (h : a ∈ row) : inV (.int a) (row.map V.int) = true := List.any_eq_true.mpr ⟨.int a, List.mem_map.mpr ⟨a, h, rfl⟩, by show (a == a) = true; simp⟩
theorem flat_row (row : List Int) : (row.map V.int).all flatV = true := List.all_eq_true.mpr fun y hy => by
  obtain ⟨z, _, rfl⟩ := List.mem_map.mp hy
  rfl
section
variable {P : Program} {w : World} {K : PySem.W.Frag} {mg : Str → Option Value} {base : Heap}
/-! ### law -/
def spLaw (K : PySem.W.Frag) : Sp := fun vs H Q _ => ∃ (a : Addr) (ns : List Int), vs = [.ref a] ∧ SqL K H a (ns.map V.int) ∧ ∀ H', Q (.bl true) H'
theorem ok_Law (T : Txt K mg) {fl : Addr} {fdl : FuncData} (F : Fun K "law" "law" sLaw fl fdl) : FnOk P w K mg base CX0 35 fl fdl ["_law_script"] (spLaw K) := by
  have GP : FnOk P w K mg base CX0 1 T.Pool.f T.Pool.fd ["_law_script", "_law_k"] (spPool K) := ok_Pool T
  have GD : FnOk P w K mg base CX0 1 T.Draw.f T.Draw.fd ["_law_pool_here", "_law_many"] spDraw := ok_Draw T
  have GK : FnOk P w K mg base CX0 3 T.Kind.f T.Kind.fd ["_law_pool_here", "_law_size"] spLRows := ok_Kind T
  have GT : FnOk P w K mg base CX0 4 T.TInit.f T.TInit.fd ["self", "rows"] (spTInit T.C) := ok_TInit T
  have GG : FnOk P w K mg base CX0 10 T.Groups.f T.Groups.fd ["table"] (spGroups T.C) := ok_Groups T
  have GV : FnOk P w K mg base CX0 1 T.Divs.f T.Divs.fd ["_law_size"] spDivs := ok_Divs T
  have GR : FnOk P w K mg base CX0 1 T.IsRight.f T.IsRight.fd ["_law_rows_here", "_law_names"] spIsRight := ok_IsRight T
  have GS : FnOk P w K mg base CX0 10 T.LStep.f T.LStep.fd ["_law_pool_here", "_law_rows_here"] spLStep := ok_LStep T
  have GI : FnOk P w K mg base CX0 34 T.IsReason.f T.IsReason.fd ["table", "start", "end", "value"] (spAreSteps T.C 8) := ok_IsReason T 8
  refine F.ok scLaw (fun vs H Q E h => ?_) (fun cdv A outer s H vs Q E hr h => ?_)
  · obtain ⟨a, ns, rfl, _⟩ := h
    rfl
  obtain ⟨a, ns, rfl, hS, q⟩ := h
  refine ⟨_, pss_cons (ps_for PassesOwn.never rfl (pi_range1 rfl T.z_range (pa_cons (pe_callB (call_max2 rfl) rfl T.z_max b_max (pa_cons pe_int (pa_cons
        (pe_callB (call_min2 rfl) rfl T.z_min b_min (pa_cons (pe_callB call_len_seq rfl T.z_len b_len (pa_cons (pv 0) pa_nil)) (pa_cons pe_int pa_nil))) pa_nil))) pa_nil)) (pg_name (i := 1) scLaw.nd rfl (.inl rfl))
      (pss_cons (ps_set (i := 2) scLaw.nd rfl (.inr rfl) (pe_call GP (hr.mono (by decide)) rfl T.Pool.g T.Pool.F.kp T.Pool.b .nil pass0 (pa_cons (pv 0) (pa_cons (pv 1) pa_nil))))
      (pss_cons (ps_set (i := 3) scLaw.nd rfl (.inl rfl) (pe_op op_add pe_int (pe_call GD (hr.mono (by decide)) rfl T.Draw.g T.Draw.F.kp T.Draw.b .nil pass0 (pa_cons (pv 2) (pa_cons pe_int pa_nil)))))
      (pss_cons (ps_set (i := 4) scLaw.nd rfl (.inr rfl) (pe_call GK (hr.mono (by decide)) rfl T.Kind.g T.Kind.F.kp T.Kind.b .nil pass0 (pa_cons (pv 2) (pa_cons (pv 3) pa_nil))))
      (pss_cons (ps_par (i := 5) (j := 6) rfl scLaw.nd rfl rfl (by decide) rfl rfl (pa_cons (pe_make T.mkC GT (hr.mono (by decide)) rfl T.gC T.TInit.b .nil pass0 (pa_cons (pv 4) pa_nil))
          (pa_cons (pe_call GG (hr.mono (by decide)) rfl T.Groups.g T.Groups.F.kp T.Groups.b .nil pass0 (pa_cons (pe_make T.mkC GT (hr.mono (by decide)) rfl T.gC T.TInit.b .nil pass0 (pa_cons (pv 4) pa_nil)) pa_nil)) pa_nil)) (by rfl))
      (pss_cons (ps_setLc (i := 7) (own := [("_law_names", 12)]) (g := gName 12) rfl scLaw.nd rfl rfl (sw_true rfl rfl rfl (by decide +kernel)) (pi_list (pe_call GV (hr.mono (by decide)) rfl T.Divs.g T.Divs.F.kp T.Divs.b .nil pass0 (pa_cons (pv 3) pa_nil)))
          (blkOk_by (N := nLaw) (sc := defScope sLaw) (by decide +kernel)) (fun _ _ _ _ _ => pg_name (i := 12) scLaw.nd rfl (Or.inl rfl))
          (fun _ _ _ _ _ => pts_one (pt_val (pe_call GR (hr.mono (by decide)) rfl T.IsRight.g T.IsRight.F.kp T.IsRight.b .nil pass0 (pa_cons (pv 4) (pa_cons (pv 12) pa_nil))))) (fun _ _ _ _ _ => pv 12))
      (pss_one (ps_for PassesOwn.never rfl (pi_range1 rfl T.z_range (pa_cons pe_int pa_nil)) (pg_name (i := 8) scLaw.nd rfl (.inl rfl))
        (pss_cons (ps_setLc (i := 9) (own := [("_law_place", 13)]) (g := gName 13) (tt := tYes) rfl scLaw.nd rfl rfl (sw_true rfl rfl rfl (by decide +kernel))
            (pi_range1 rfl T.z_range (pa_cons (pe_call GD (hr.mono (by decide)) rfl T.Draw.g T.Draw.F.kp T.Draw.b .nil pass0 (pa_cons (pv 2) (pa_cons pe_int pa_nil))) pa_nil))
            (blkOk_by (N := nLaw) (sc := defScope sLaw) (by decide +kernel)) (fun _ _ _ _ _ => pg_name (i := 13) scLaw.nd rfl (Or.inl rfl)) (fun _ _ _ _ _ => pts_nil)
            (fun _ _ _ _ _ => pe_call GS (hr.mono (by decide)) rfl T.LStep.g T.LStep.F.kp T.LStep.b .nil pass0 (pa_cons (pv 2) (pa_cons (pv 4) pa_nil))))
        (pss_cons (ps_asg (pe_tup (pa_cons (pe_call GD (hr.mono (by decide)) rfl T.Draw.g T.Draw.F.kp T.Draw.b .nil pass0 (pa_cons (pv 2) (pa_cons (pv 3) pa_nil)))
            (pa_cons (pe_call GD (hr.mono (by decide)) rfl T.Draw.g T.Draw.F.kp T.Draw.b .nil pass0 (pa_cons (pv 2) (pa_cons (pv 3) pa_nil))) pa_nil)))
            (pg_tup rfl (pgs_cons (pg_name (i := 10) scLaw.nd rfl (.inr rfl)) (pgs_cons (pg_name (i := 11) scLaw.nd rfl (.inr rfl)) pgs_nil))))
        (pss_cons (ps_if (PW.pt (pw_and (pt_cmpR (op_neD hr.units) (pv 9) (pe_lst pa_nil) (nomark _)) (pw_and1 (pt_cmpR op_gt (pe_call GD (hr.mono (by decide)) rfl T.Draw.g T.Draw.F.kp T.Draw.b .nil pass0 (pa_cons (pv 2) (pa_cons pe_int pa_nil))) pe_int (nomark _)))))
          (pss_one (ps_asg (pe_tup (pa_cons (pe_ix ix_tup (pe_ix ix_list (pv 9) pe_int (fun _ _ => rfl)) pe_int (fun _ _ => rfl)) (pa_cons (pe_ix ix_tup (pe_ix ix_list (pv 9) (pe_un un_neg pe_int) (fun _ _ => rfl)) pe_int (fun _ _ => rfl)) pa_nil)))
            (pg_tup rfl (pgs_cons (pg_name (i := 10) scLaw.nd rfl (.inr rfl)) (pgs_cons (pg_name (i := 11) scLaw.nd rfl (.inr rfl)) pgs_nil))))) pss_nil)
        (pss_one (ps_if (pt_val (pe_call GI hr rfl T.IsReason.g T.IsReason.F.kp T.IsReason.b .nil pass0 (pa_cons (pv 5) (pa_cons (pv 10) (pa_cons (pv 11) (pa_cons (pv 9) pa_nil))))))
          (pss_cons (ps_if (pt_cmpR (op_neD hr.units) (pe_lc (own := [("_law_names", 12)]) (g := gName 12) rfl scLaw.nd (pi_list (pv 7)) (blkOk_by (N := nLaw) (sc := defScope sLaw) (by decide +kernel))
              (fun _ _ _ _ _ => pg_name (i := 12) scLaw.nd rfl (Or.inl rfl)) (fun _ _ _ _ _ => pts_one (pt_cmpR op_ne (pe_ix (ixL K rfl) (pv 12) (pv 10) (fun _ _ => rfl)) (pe_ix (ixL K rfl) (pv 12) (pv 11) (fun _ _ => rfl)) (nomark _))) (fun _ _ _ _ _ => pv 12)) (pe_lst pa_nil) (nomark _))
              (pss_one (ps_ret pe_bl)) pss_nil)
          (pss_one (ps_if (pt_cmpR (op_eqD hr.units) (pe_lc (own := [("_law_part", 14)]) (g := gName 14) rfl scLaw.nd (pi_list (pv 6)) (blkOk_by (N := nLaw) (sc := defScope sLaw) (by decide +kernel))
              (fun _ _ _ _ _ => pg_name (i := 14) scLaw.nd rfl (Or.inl rfl)) (fun _ _ _ _ _ => pts_one (PW.pt (pw_and (pt_cmpR (oIn K rfl) (pv 10) (pv 14) (by rfl)) (pw_and1 (pt_cmpR (oIn K rfl) (pv 11) (pv 14) (by rfl)))))) (fun _ _ _ _ _ => pv 14)) (pe_lst pa_nil) (nomark _))
              (pss_one (ps_ret pe_bl)) pss_nil))) pss_nil)))))))))))) )
    (pss_one (ps_ret pe_bl)), ?_⟩
  have hm : ∀ z : Int, (if (if (4 : Int) < z then 4 else z) > 1 then (if (4 : Int) < z then 4 else z) else 1) ≤ 4 ∧ 1 ≤ (if (if (4 : Int) < z then 4 else z) > 1 then (if (4 : Int) < z then 4 else z) else 1) := fun z => by
    by_cases h : (4 : Int) < z
    · rw [if_pos h]; decide
    · rw [if_neg h]
      by_cases h2 : z > 1
      · rw [if_pos h2]; omega
      · rw [if_neg h2]; omega
  have hm2 := hm ((ns.map V.int).length : Int)
  refine ⟨_, rfl, a, _, rfl, .inl hS, _, _, rfl, _, _, rfl, _, rfl, by omega, by omega, ?_⟩
  generalize (if (if (4 : Int) < ((ns.map V.int).length : Int) then 4 else ((ns.map V.int).length : Int)) > 1 then (if (4 : Int) < ((ns.map V.int).length : Int) then 4 else ((ns.map V.int).length : Int)) else 1) = m at hm2 ⊢
  refine for_range (n := m.toNat) (fun i σ H' => Same H H' ∧ ∃ v1 v2 v3 v4 v5 v6 v7 v8 v9 v10 v11 v12 v13 v14, σ = [some (V.ref a), v1, v2, v3, v4, v5, v6, v7, v8, v9, v10, v11, v12, v13, v14])
    ⟨Same.refl _, _, _, _, _, _, _, _, _, _, _, _, _, _, _, rfl⟩ ?_ (fun σ H' _ => q _)
  rintro i σ H1 hi ⟨s1, v1, v2, v3, v4, v5, v6, v7, v8, v9, v10, v11, v12, v13, v14, rfl⟩
  refine ⟨_, rfl, _, rfl, a, ns, i, by rw [Int.zero_add]; rfl, s1.seq hS, by omega, fun p H2 s2 np hP => ?_⟩
  refine ⟨_, rfl, p, 3, rfl, hP, by decide, by decide, fun d H3 m3 d0 d1 => ⟨_, _, rfl, rfl, ?_⟩⟩
  obtain ⟨k, hk⟩ : ∃ k : Nat, 2 + d = k := ⟨(2 + d).toNat, by omega⟩
  show gName 3 (V.int (2 + d)) _ _ _
  rw [hk]
  have k1 : 2 ≤ k := by omega
  have k4 : k ≤ 4 := by omega
  have kp : (0 : Int) < k := by omega
  have kb : (k : Int) < 1073741824 := by omega
  refine ⟨_, rfl, _, rfl, p, k, rfl, m3.2, by omega, by omega, fun l R H4 m4 nl ra ok => ?_⟩
  have raP := ra.mono (new_not m3.2.ne)
  have m24 := m3.trans m4
  -- the table, the groups
  refine ⟨_, rfl, fun t dx ht hdx _ => ⟨t, l, dx, R, k, rfl, upd_same, (raP.mono rst_le).mono (same_two ht hdx), ok, by omega, by omega, fun H5 sb ta => ⟨rfl, ?_⟩⟩⟩
  have s5 := same_made ht hdx sb
  have m25 := m24.go s5
  have taP := (ta.mono (new_made ht hdx)).mono (new_not m24.2.ne)
  have raP5 := raP.mono (Mv.same m24.2 s5).not
  refine ⟨_, rfl, fun t2 dx2 ht2 hdx2 _ => ⟨t2, l, dx2, R, k, rfl, upd_same, (raP5.mono rst_le).mono (same_two ht2 hdx2), ok, by omega, by omega, fun H6 sb2 ta2 => ⟨rfl, ?_⟩⟩⟩
  have s6 := same_made ht2 hdx2 sb2
  have m26 := m25.go s6
  refine ⟨t2, R, k, rfl, ta2.mono rst_le, ok, k4, fun pt ps H7 s7 npt rp lps cov => ⟨_, _, rfl, ?_⟩⟩
  have m27 := m26.go s7
  have rpP := rp.mono (new_not m26.2.ne)
  have m57 := Mv.same m25.2 (s6.trans s7)
  -- the right divisions
  refine ⟨_, rfl, k, rfl, by omega, k4, fun dl ys H8 s8 ndl edl lys hys => ?_⟩
  have m28 := m27.go s8
  have m78 := Mv.same m27.2 s8
  have hyP : ∀ y ∈ ys, DivAt (rst (Not p) H8) k y := fun y hy => (hys y hy).mono (new_not m27.2.ne)
  have sqd : ∀ {H' : Hp}, Same H8 H' → SqL K H' dl ys := fun z => SqL.of (z _ _ edl)
  have raP8 := (raP5.mono m57.not).mono m78.not
  refine ⟨dl, rfl, ⟨_, sqd (Same.refl _)⟩, fun rt hrt => lc_filt (n := ys.length) hrt (small1000 (by omega)) (fun i z _ => ys[i]? = some z) (fun i o _ => ∀ y, o = some y → Rt k R (rst (Not p) H8) y) (fun _ _ _ _ _ h => h)
    (fun i H' hi s => itl_go (sqd s) hi) (fun i H' z H'' hi s y => by obtain ⟨e1, e2⟩ := itl_yl (sqd s) y; exact ⟨by rw [e1]; exact Same.refl _, e2⟩) (fun H' s => itl_st (sqd s)) ?_ ?_⟩
  · rintro j z H' hj ez s' nD Qe Qn hQ hN
    obtain ⟨r, xs, rfl, er, lx, _⟩ := hyP z (List.mem_of_getElem? ez)
    refine ⟨rfl, _, rfl, _, rfl, l, r, R, k, xs, rfl, (raP8.mono rst_le).mono s', ok, by omega, s' _ _ (of_rst er).2, lx, fun b hb => ⟨b, rfl, ite2 (fun h => ⟨_, rfl, hQ _ _ (Same.refl _) fun y ey => ?_⟩) (fun h => hN _ (Same.refl _) fun y ey => by cases ey)⟩⟩
    cases ey
    exact ⟨r, xs, rfl, er, lx, hb h⟩
  · intro os H9 s9 ert los hos
    have m29 := m28.go s9
    have m89 := Mv.same m28.2 s9
    have rtp : rt ≠ p := fun z => m28.2.ne (by rw [← z]; exact hrt)
    have WD : Wd T.C l t pt rt k R ps (os.filterMap id) (rst (Not p) H9) := ⟨raP8.mono m89.not, ((taP.mono m57.not).mono m78.not).mono m89.not, (rpP.mono m78.not).mono m89.not, rst_mk rtp ert, fun y hy => by
      obtain ⟨j, hj⟩ := mem_filt hy
      exact (hos j _ hj y rfl).mono m89.not⟩
    have lrs : (os.filterMap id).length ≤ 64 := Nat.le_trans (List.length_filterMap_le _ _) (by omega)
    generalize os.filterMap id = rs at WD lrs
    refine ⟨_, rfl, by decide, by decide, ?_⟩
    refine for_range (n := 30) (fun j σ H' => Mv p H2 H' ∧ Wd T.C l t pt rt k R ps rs (rst (Not p) H') ∧ ∃ v8 v9 v10 v11 v12 v13 v14, σ = [some (V.ref a), some (V.int (0 + (i : Int))), some (V.ref p), some (V.int k), some (V.ref l), some (V.ref t), some (V.ref pt), some (V.ref rt), v8, v9, v10, v11, v12, v13, v14])
      ⟨m29, WD, _, _, _, _, _, _, _, rfl⟩ ?_ ?_
    · rintro j σ H10 hj ⟨m10, WD10, v8, v9, v10, v11, v12, v13, v14, rfl⟩
      -- the value
      refine ⟨_, rfl, p, 4, rfl, m10.2, by decide, by decide, fun c H11 m11 c0 c1 => ⟨_, rfl, by omega, by omega, fun Vl hVl => ?_⟩⟩
      have Vp : Vl ≠ p := fun z => m11.2.ne (by rw [← z]; exact hVl)
      have WD11 := WD10.mono m11.not
      refine cl_it (n := c.toNat) (fun i H' => Mv p H11 H' ∧ ∃ ys, H' Vl = some (.lst ys) ∧ ys.length = i ∧ ∀ y ∈ ys, ∃ x y', StepAt k 8 (rst (fun b => H11 b = none ∧ b ≠ Vl) H') y x y')
        ⟨Mv.same m11.2 (same_up hVl), [], upd_same, rfl, fun y hy => by cases hy⟩ (fun i H' hi _ => hi) (fun H' _ => Nat.le_refl _) ?_ ?_
      · rintro e z H12 H13 he ⟨m12, ys, eV, ly, hy⟩ ⟨rfl, rfl⟩
        refine ⟨rfl, _, rfl, _, rfl, p, l, R, k, rfl, m12.2, WD11.rows.mono m12.not, ok, by omega, k4, fun v x y' H14 m14 st => ?_⟩
        have eV4 := m14.1 _ _ eV Vp
        refine ⟨ys, eV4, small1000 (by omega), (m12.trans m14).upd hVl Vp, ys ++ [v], upd_same, by rw [List.length_append, ly]; rfl, fun u hu => ?_⟩
        rcases List.mem_append.mp hu with hu | hu
        · obtain ⟨x1, y1, h⟩ := hy u hu
          exact ⟨x1, y1, h.mono (rst_up fun b o n e => ⟨n, by rw [upd_ne n.2]; exact m14.1 _ _ e fun z => m11.2.ne (by rw [← z]; exact n.1)⟩)⟩
        · rw [List.mem_singleton.mp hu]
          refine ⟨x, y', st.mono (rst_up fun b o n e => ?_)⟩
          have nb : b ≠ Vl := fun z => by
            rw [show New H13 b = (H13 b = none) from rfl, z, eV] at n
            cases n
          exact ⟨⟨m12.free n, nb⟩, by rw [upd_ne nb]; exact e⟩
      · rintro H15 ⟨m15, ys, eV, ly, hy⟩
        have st15 : ∀ y ∈ ys, ∃ x y', StepAt k 8 (rst (Not p) H15) y x y' := fun y hm => (hy y hm).elim fun x h => h.elim fun y' h => ⟨x, y', h.mono (rst_up fun b o n e => ⟨fun z => m11.2.ne (by rw [← z]; exact n.1), e⟩)⟩
        have lys4 : ys.length ≤ 4 := by omega
        -- start, end
        refine ⟨_, rfl, _, rfl, p, k, rfl, m15.2, kp, kb, fun a1 H16 m16 a10 a11 => ⟨_, rfl, _, rfl, p, k, rfl, m16.2, kp, kb, fun b1 H17 m17 b10 b11 => ⟨le2, fun tp htp => ⟨tp, _, rfl, SqT.of upd_same, rfl, _, _, rfl, _, _, rfl, rfl, ?_⟩⟩⟩⟩
        have s18 := same_up (o := HO.tup [V.int a1, V.int b1]) htp
        have m18 := (m16.trans m17).go s18
        generalize upd H17 tp (.tup [V.int a1, V.int b1]) = H18 at m18 ⊢
        have eV8 : rst (Not p) H18 Vl = some (.lst ys) := m18.not _ _ (rst_mk Vp eV)
        have st8 : ∀ y ∈ ys, ∃ x y', StepAt k 8 (rst (Not p) H18) y x y' := fun y hm => (st15 y hm).elim fun x h => h.elim fun y' h => ⟨x, y', h.mono m18.not⟩
        have WD18 := (WD11.mono m15.not).mono m18.not
        have m218 := ((m10.trans m11).trans m15).trans m18
        refine nx_red ?_
        refine seq_cut (I := fun σ H' => ∃ a' b', Col k a' ∧ Col k b' ∧ Mv p H18 H' ∧ ∃ v12 v13 v14, σ = [some (V.ref a), some (V.int (0 + (i : Int))), some (V.ref p), some (V.int k), some (V.ref l), some (V.ref t), some (V.ref pt), some (V.ref rt), some (V.int (0 + (j : Int))), some (V.ref Vl), some (V.int a'), some (V.int b'), v12, v13, v14]) ?_ ?_
        · rintro σ H19 ⟨a', b', ca, cb, m19, v12, v13, v14, rfl⟩
          have WD19 := WD18.mono m19.not
          have eV9 := m19.not _ _ eV8
          have m219 := m218.trans m19
          refine ⟨_, rfl, _, rfl, _, rfl, _, rfl, t, Vl, R, k, a', b', ys, rfl, WD19.tab.mono rst_le, ok, by omega, by decide, ca, cb, rst_le _ _ eV9, by omega, fun w hw => (st8 w hw).elim fun x h => h.elim fun y' h => ⟨x, y', (h.mono m19.not).mono rst_le⟩, fun r H20 s20 hr => ⟨r, rfl, ite2 (fun h => ?_) (fun _ => ?_)⟩⟩
          · have hc := hr h
            have m1920 := Mv.same m19.2 s20
            have WD20 := WD19.mono m1920.not
            have sqr : ∀ {H' : Hp}, Same H20 H' → SqL K H' rt rs := fun z => SqL.of (z _ _ (rst_le _ _ WD20.top))
            refine ⟨_, rfl, rt, rfl, ⟨_, sqr (Same.refl _)⟩, fun D hD => lc_filt (n := rs.length) hD (small1000 (by omega)) (fun i z _ => rs[i]? = some z) (fun i o _ => o = none) (fun _ _ _ _ _ h => h)
              (fun i H' hi s => itl_go (sqr s) hi) (fun i H' z H'' hi s y => by obtain ⟨e1, e2⟩ := itl_yl (sqr s) y; exact ⟨by rw [e1]; exact Same.refl _, e2⟩) (fun H' s => itl_st (sqr s)) ?_ ?_⟩
            · rintro e z H' he ez s' nD Qe Qn hQ hN
              obtain ⟨q1, xs, rfl, eq1, lx, rx⟩ := WD20.rights z (List.mem_of_getElem? ez)
              have eq' := s' _ _ (rst_le _ _ eq1)
              have nmAt : ∀ {u : Int}, Col k u → atI (xs.map V.int) u = some (.int (nm xs u)) := fun {u} cu => at_of (j := u.toNat) (by have := cu.1; omega) (getI (nm_get lx cu))
              refine ⟨rfl, _, rfl, _, rfl, q1, _, _, _, rfl, rfl, SqL.of eq', nmAt ca, _, rfl, _, rfl, q1, _, _, _, rfl, rfl, SqL.of eq', nmAt cb, rfl, _, rfl, ?_⟩
              rw [hc _ rx, decide_eq_true rfl]
              exact iteF (hN _ (Same.refl _) rfl)
            · intro os2 H21 s21 eD los2 hos2
              have e0 : os2.filterMap id = [] := by
                cases h : os2.filterMap id with
                | nil => rfl
                | cons y r =>
                  obtain ⟨i', hi'⟩ := mem_filt (os := os2) (y := y) (by rw [h]; exact List.mem_cons_self)
                  cases hos2 i' _ hi'
              rw [e0] at eD
              refine ⟨Nat.zero_le _, fun e he => ?_⟩
              have f1 := same_up (o := HO.lst []) he
              refine ⟨.list [], .list [], .lst (SqL.of (f1 _ _ eD)) .nil, .lst (SqL.of upd_same) .nil, (Lay.lst (LayAll.nil (n := 0))).shaped (by decide), (Lay.lst (LayAll.nil (n := 0))).shaped (by decide), _, rfl, ?_⟩
              rw [eqvL_nil]
              refine iteF ?_
              have s22 := s21.trans f1
              generalize upd H21 e (.lst []) = H22 at s22 ⊢
              have m1922 := m1920.go s22
              have WD22 := WD19.mono m1922.not
              obtain ⟨as, epa, lpa, rpa⟩ := WD22.parts
              have las : (as.map V.ref).length = ps.length := by rw [List.length_map, lpa]
              have sqp : ∀ {H' : Hp}, Same H22 H' → SqL K H' pt (as.map V.ref) := fun z => SqL.of (z _ _ (rst_le _ _ epa))
              refine ⟨_, rfl, pt, rfl, ⟨_, sqp (Same.refl _)⟩, fun D2 hD2 => lc_filt (n := ps.length) hD2 (small1000 (by omega)) (fun i z _ => ∃ q1 row, z = .ref q1 ∧ as[i]? = some q1 ∧ ps[i]? = some row ∧ Ints H22 q1 row)
                (fun i o _ => (∀ row, ps[i]? = some row → a' ∈ row → b' ∈ row → o ≠ none) ∧ ∀ y, o = some y → ∃ q1 row, y = .ref q1 ∧ Ints H22 q1 row) (fun _ _ _ _ _ h => h)
                (fun i H' hi s => itl_go (sqp s) (by omega)) (fun i H' z H'' hi s y => ?_) (fun H' s => by have z := itl_st (sqp s); rw [las] at z; exact z) ?_ ?_⟩
              · obtain ⟨e1, e2⟩ := itl_yl (sqp s) y
                obtain ⟨q1, eq1, rfl⟩ := of_getR e2
                have ep := List.getElem?_eq_getElem (l := ps) (i := i) hi
                exact ⟨by rw [e1]; exact Same.refl _, q1, _, rfl, eq1, ep, rst_le _ _ (rpa i q1 _ eq1 ep)⟩
              · rintro e z H' he ⟨q1, row, rfl, eq1, ep, er⟩ s' nD Qe Qn hQ hN
                have er' := s' _ _ er
                refine ⟨rfl, _, rfl, _, rfl, q1, _, rfl, .inl (SqL.of er'), rfl, flat_row row, _, rfl, ite2 (fun h1 => ?_) (fun h1 => ?_)⟩
                · refine ⟨_, rfl, _, rfl, q1, _, rfl, .inl (SqL.of er'), rfl, flat_row row, _, rfl, ite2 (fun h2 => ?_) (fun h2 => ?_)⟩
                  · exact ⟨_, rfl, hQ _ _ (Same.refl _) ⟨(fun _ _ _ _ z => by cases z), fun y ey => by cases ey; exact ⟨q1, row, rfl, er⟩⟩⟩
                  · refine hN _ (Same.refl _) ⟨fun row' er2 _ hb => ?_, fun y ey => by cases ey⟩
                    rw [ep] at er2
                    cases er2
                    exact (h2 (in_row hb)).elim
                · refine iteF (hN _ (Same.refl _) ⟨fun row' er2 ha _ => ?_, fun y ey => by cases ey⟩)
                  rw [ep] at er2
                  cases er2
                  exact (h1 (in_row ha)).elim
              · intro os3 H23 s23 eD3 los3 hos3
                obtain ⟨row, hrow, har, hbr⟩ := cov a' b' ca cb hc
                obtain ⟨i3, hi3, rfl⟩ := List.getElem_of_mem hrow
                have e3 := List.getElem?_eq_getElem (l := os3) (i := i3) (by omega)
                have hne := (hos3 i3 _ e3).1 _ (List.getElem?_eq_getElem hi3) har hbr
                have hex : ∃ y, y ∈ os3.filterMap id := by
                  cases ho : os3[i3] with
                  | none => exact (hne ho).elim
                  | some y => exact ⟨y, filt_mem (by rw [e3, ho])⟩
                obtain ⟨y, hy3⟩ := hex
                refine ⟨Nat.zero_le _, fun e he => ?_⟩
                have f3 := same_up (o := HO.lst []) he
                obtain ⟨es, de, le⟩ := dpAll_of (K := K) (H := upd H23 e (.lst [])) (n := 1) (vs := os3.filterMap id) fun w hw => by
                  obtain ⟨j3, hj3⟩ := mem_filt hw
                  obtain ⟨q1, row, rfl, er⟩ := (hos3 j3 _ hj3).2 w rfl
                  exact dp_list (f3 _ _ (s23 _ _ er))
                refine ⟨.list es, .list [], .lst (SqL.of (f3 _ _ eD3)) de, .lst (SqL.of upd_same) .nil, (Lay.lst le).shaped (by decide), (Lay.lst (LayAll.nil (n := 0))).shaped (by decide), _, rfl, ?_⟩
                rw [eqvL_nil, dp_empty de]
                have hemp : (os3.filterMap id).isEmpty = false := by
                  cases h : os3.filterMap id with
                  | nil => rw [h] at hy3; cases hy3
                  | cons _ _ => rfl
                rw [hemp]
                have mf := m1922.go (s23.trans f3)
                exact iteF ⟨m219.trans mf, WD19.mono mf.not, _, _, _, _, _, _, _, rfl⟩
          · have mf := Mv.same m19.2 s20
            exact ⟨m219.trans mf, WD19.mono mf.not, _, _, _, _, _, _, _, rfl⟩
        · intro N hN
          have skip : ∀ H', Mv p H18 H' → N [some (V.ref a), some (V.int (0 + (i : Int))), some (V.ref p), some (V.int k), some (V.ref l), some (V.ref t), some (V.ref pt), some (V.ref rt), some (V.int (0 + (j : Int))), some (V.ref Vl), some (V.int a1), some (V.int b1), v12, v13, v14] H' :=
            fun H' mv => hN _ _ ⟨a1, b1, ⟨a10, a11⟩, ⟨b10, b11⟩, mv, _, _, _, rfl⟩
          refine ⟨_, rfl, Nat.zero_le _, fun e he => ?_⟩
          have f1 := same_up (o := HO.lst []) he
          obtain ⟨es, de, le⟩ := dpAll_of (K := K) (H := upd H18 e (.lst [])) (n := 24) (vs := ys) fun w hw => by
            obtain ⟨x, y', h⟩ := st8 w hw
            exact ((h.mono rst_le).mono f1).dp.1
          refine ⟨.list es, .list [], .lst (SqL.of (f1 _ _ (rst_le _ _ eV8))) de, .lst (SqL.of upd_same) .nil, (Lay.lst le).shaped (by decide), (Lay.lst (LayAll.nil (n := 0))).shaped (by decide), _, rfl, ?_⟩
          rw [eqvL_nil, dp_empty de]
          have m1 := Mv.same m218.2 f1
          generalize upd H18 e (.lst []) = H19 at m1 ⊢
          cases hys : ys with
          | nil => exact iteF (iteF (skip _ m1))
          | cons y0 yr =>
            refine iteT ⟨_, rfl, p, 3, rfl, m1.2, by decide, by decide, fun g H20 m20 _ _ => ⟨_, _, rfl, rfl, _, rfl, ite2 (fun _ => ?_) (fun _ => skip _ (m1.trans m20))⟩⟩
            have m2 := m1.trans m20
            have eV20 := m2.not _ _ eV8
            have st20 : ∀ y ∈ ys, ∃ x y', StepAt k 8 H20 y x y' := fun y hm => (st8 y hm).elim fun x h => h.elim fun y' h => ⟨x, y', (h.mono m2.not).mono rst_le⟩
            obtain ⟨pre, yl, epre⟩ : ∃ pre yl, ys = pre ++ [yl] := ⟨_, _, (List.dropLast_concat_getLast (l := ys) (by rw [hys]; exact fun z => by cases z)).symm⟩
            obtain ⟨x0, y0', h0⟩ := st20 y0 (by rw [hys]; exact List.mem_cons_self)
            obtain ⟨x1, y1', h1⟩ := st20 yl (by rw [epre]; exact List.mem_append_right _ (List.mem_singleton.mpr rfl))
            obtain ⟨p0, q0, rfl, e0⟩ := h0.tup
            obtain ⟨p1, q1, rfl, e1⟩ := h1.tup
            refine ⟨_, rfl, Vl, _, _, _, rfl, rfl, SqL.of (rst_le _ _ eV20), atI_nat (j := 0) (by rw [hys]; rfl), p0, _, _, _, rfl, rfl, SqT.of e0, atI_nat (j := 0) rfl, ?_⟩
            refine ⟨_, rfl, 1, rfl, Vl, _, _, _, rfl, rfl, SqL.of (rst_le _ _ eV20), by rw [epre]; exact atI_last _ _, p1, _, _, _, rfl, rfl, SqT.of e1, atI_nat (j := 1) rfl, le2, fun tq htq => ?_⟩
            refine ⟨tq, _, rfl, SqT.of upd_same, rfl, _, _, rfl, _, _, rfl, rfl, hN _ _ ⟨x0, y1', h0.cols.1, h1.cols.2, m2.go (same_up htq), _, _, _, rfl⟩⟩
    · rintro σ H10 ⟨m10, _, v8, v9, v10, v11, v12, v13, v14, rfl⟩
      exact ⟨fun b o e => m10.1 _ _ (s2 _ _ (s1 _ _ e)) (ne_of_none (s1 _ _ e) np), _, _, _, _, _, _, _, _, _, _, _, _, _, _, rfl⟩
end
end K86

namespace K86
open PySem PySem.Spec PyProof.Rows L2
/-! ### what the top has written, and the law's own head -/
theorem all_mk {l : PySem.W.OpenLaw} {w : World} {K : PySem.W.Frag} {h : Heap} {mg : Str → Option Value} {fa fLaw C D pz fIsInt fIsCol fShape fPlaces fWrong fTests fPuts fTurned fGNames fGroups fReason fIsTest fIsPut fIsStep fAreSteps fIsReason fPool fDraw fChoose fLRows fKind fDivs fIsRight fLStep fTInit fTSize fTVal fTGet fFInit fFJoin fFNames fFChain : Addr} (X : K.In h) (G : h.Ns mainGlobals mg) (hfa : mg "law" = some (.ref fa))
    {odIsInt anIsInt odIsCol anIsCol odShape anShape odPlaces anPlaces odWrong anWrong odTests anTests odPuts anPuts odTurned anTurned odGNames anGNames odGroups anGroups odReason anReason odIsTest anIsTest odIsPut anIsPut odIsStep anIsStep odAreSteps anAreSteps odIsReason anIsReason odPool anPool odDraw anDraw odChoose anChoose odLRows anLRows odKind anKind odDivs anDivs odIsRight anIsRight odLStep anLStep odLaw anLaw odTInit anTInit odTSize anTSize odTVal anTVal odTGet anTGet odFInit anFInit odFJoin anFJoin odFNames anFNames odFChain anFChain : Option Addr} {slIsInt slIsCol slShape slPlaces slWrong slTests slPuts slTurned slGNames slGroups slReason slIsTest slIsPut slIsStep slAreSteps slIsReason slPool slDraw slChoose slLRows slKind slDivs slIsRight slLStep slLaw slTInit slTSize slTVal slTGet slFInit slFJoin slFNames slFChain : Array (Option Value)}
    {ocIsInt kVIsInt dcIsInt pmIsInt cdIsInt ctIsInt ocIsCol kVIsCol dcIsCol pmIsCol cdIsCol ctIsCol ocShape kVShape dcShape pmShape cdShape ctShape ocPlaces kVPlaces dcPlaces pmPlaces cdPlaces ctPlaces ocWrong kVWrong dcWrong pmWrong cdWrong ctWrong ocTests kVTests dcTests pmTests cdTests ctTests ocPuts kVPuts dcPuts pmPuts cdPuts ctPuts ocTurned kVTurned dcTurned pmTurned cdTurned ctTurned ocGNames kVGNames dcGNames pmGNames cdGNames ctGNames ocGroups kVGroups dcGroups pmGroups cdGroups ctGroups ocReason kVReason dcReason pmReason cdReason ctReason ocIsTest kVIsTest dcIsTest pmIsTest cdIsTest ctIsTest ocIsPut kVIsPut dcIsPut pmIsPut cdIsPut ctIsPut ocIsStep kVIsStep dcIsStep pmIsStep cdIsStep ctIsStep ocAreSteps kVAreSteps dcAreSteps pmAreSteps cdAreSteps ctAreSteps ocIsReason kVIsReason dcIsReason pmIsReason cdIsReason ctIsReason ocPool kVPool dcPool pmPool cdPool ctPool ocDraw kVDraw dcDraw pmDraw cdDraw ctDraw ocChoose kVChoose dcChoose pmChoose cdChoose ctChoose ocLRows kVLRows dcLRows pmLRows cdLRows ctLRows ocKind kVKind dcKind pmKind cdKind ctKind ocDivs kVDivs dcDivs pmDivs cdDivs ctDivs ocIsRight kVIsRight dcIsRight pmIsRight cdIsRight ctIsRight ocLStep kVLStep dcLStep pmLStep cdLStep ctLStep ocLaw kVLaw dcLaw pmLaw cdLaw ctLaw ocTInit kVTInit dcTInit pmTInit cdTInit ctTInit ocTSize kVTSize dcTSize pmTSize cdTSize ctTSize ocTVal kVTVal dcTVal pmTVal cdTVal ctTVal ocTGet kVTGet dcTGet pmTGet cdTGet ctTGet ocFInit kVFInit dcFInit pmFInit cdFInit ctFInit ocFJoin kVFJoin dcFJoin pmFJoin cdFJoin ctFJoin ocFNames kVFNames dcFNames pmFNames cdFNames ctFNames ocFChain kVFChain dcFChain pmFChain cdFChain ctFChain : Value} {pr : List Value} {tm : Tok}
    (aIsInt : PySem.W.nsIn K mainGlobals "is_integer" = some (some (.ref fIsInt)))
    (lIsInt : K.lookup fIsInt = some ⟨ocIsInt, odIsInt, .func (PySem.W.fnOf "is_integer" "is_integer" (defArgs sIsInt) (defBody sIsInt) (defScope sIsInt) .none kVIsInt dcIsInt pmIsInt anIsInt cdIsInt ctIsInt), slIsInt⟩)
    (cIsInt : PySem.W.codeIn K cdIsInt "is_integer" = true)
    (kIsInt : PySem.W.keepIn K (.ref fIsInt) = true)
    (aIsCol : PySem.W.nsIn K mainGlobals "is_colour" = some (some (.ref fIsCol)))
    (lIsCol : K.lookup fIsCol = some ⟨ocIsCol, odIsCol, .func (PySem.W.fnOf "is_colour" "is_colour" (defArgs sIsCol) (defBody sIsCol) (defScope sIsCol) .none kVIsCol dcIsCol pmIsCol anIsCol cdIsCol ctIsCol), slIsCol⟩)
    (cIsCol : PySem.W.codeIn K cdIsCol "is_colour" = true)
    (kIsCol : PySem.W.keepIn K (.ref fIsCol) = true)
    (aShape : PySem.W.nsIn K mainGlobals "has_shape" = some (some (.ref fShape)))
    (lShape : K.lookup fShape = some ⟨ocShape, odShape, .func (PySem.W.fnOf "has_shape" "has_shape" (defArgs sShape) (defBody sShape) (defScope sShape) .none kVShape dcShape pmShape anShape cdShape ctShape), slShape⟩)
    (cShape : PySem.W.codeIn K cdShape "has_shape" = true)
    (kShape : PySem.W.keepIn K (.ref fShape) = true)
    (aPlaces : PySem.W.nsIn K mainGlobals "places" = some (some (.ref fPlaces)))
    (lPlaces : K.lookup fPlaces = some ⟨ocPlaces, odPlaces, .func (PySem.W.fnOf "places" "places" (defArgs sPlaces) (defBody sPlaces) (defScope sPlaces) .none kVPlaces dcPlaces pmPlaces anPlaces cdPlaces ctPlaces), slPlaces⟩)
    (cPlaces : PySem.W.codeIn K cdPlaces "places" = true)
    (kPlaces : PySem.W.keepIn K (.ref fPlaces) = true)
    (aWrong : PySem.W.nsIn K mainGlobals "first_wrong_place" = some (some (.ref fWrong)))
    (lWrong : K.lookup fWrong = some ⟨ocWrong, odWrong, .func (PySem.W.fnOf "first_wrong_place" "first_wrong_place" (defArgs sWrong) (defBody sWrong) (defScope sWrong) .none kVWrong dcWrong pmWrong anWrong cdWrong ctWrong), slWrong⟩)
    (cWrong : PySem.W.codeIn K cdWrong "first_wrong_place" = true)
    (kWrong : PySem.W.keepIn K (.ref fWrong) = true)
    (aTests : PySem.W.nsIn K mainGlobals "test_steps" = some (some (.ref fTests)))
    (lTests : K.lookup fTests = some ⟨ocTests, odTests, .func (PySem.W.fnOf "test_steps" "test_steps" (defArgs sTests) (defBody sTests) (defScope sTests) .none kVTests dcTests pmTests anTests cdTests ctTests), slTests⟩)
    (cTests : PySem.W.codeIn K cdTests "test_steps" = true)
    (kTests : PySem.W.keepIn K (.ref fTests) = true)
    (aPuts : PySem.W.nsIn K mainGlobals "put_steps" = some (some (.ref fPuts)))
    (lPuts : K.lookup fPuts = some ⟨ocPuts, odPuts, .func (PySem.W.fnOf "put_steps" "put_steps" (defArgs sPuts) (defBody sPuts) (defScope sPuts) .none kVPuts dcPuts pmPuts anPuts cdPuts ctPuts), slPuts⟩)
    (cPuts : PySem.W.codeIn K cdPuts "put_steps" = true)
    (kPuts : PySem.W.keepIn K (.ref fPuts) = true)
    (aTurned : PySem.W.nsIn K mainGlobals "turned" = some (some (.ref fTurned)))
    (lTurned : K.lookup fTurned = some ⟨ocTurned, odTurned, .func (PySem.W.fnOf "turned" "turned" (defArgs sTurned) (defBody sTurned) (defScope sTurned) .none kVTurned dcTurned pmTurned anTurned cdTurned ctTurned), slTurned⟩)
    (cTurned : PySem.W.codeIn K cdTurned "turned" = true)
    (kTurned : PySem.W.keepIn K (.ref fTurned) = true)
    (aGNames : PySem.W.nsIn K mainGlobals "group_names" = some (some (.ref fGNames)))
    (lGNames : K.lookup fGNames = some ⟨ocGNames, odGNames, .func (PySem.W.fnOf "group_names" "group_names" (defArgs sGNames) (defBody sGNames) (defScope sGNames) .none kVGNames dcGNames pmGNames anGNames cdGNames ctGNames), slGNames⟩)
    (cGNames : PySem.W.codeIn K cdGNames "group_names" = true)
    (kGNames : PySem.W.keepIn K (.ref fGNames) = true)
    (aGroups : PySem.W.nsIn K mainGlobals "groups" = some (some (.ref fGroups)))
    (lGroups : K.lookup fGroups = some ⟨ocGroups, odGroups, .func (PySem.W.fnOf "groups" "groups" (defArgs sGroups) (defBody sGroups) (defScope sGroups) .none kVGroups dcGroups pmGroups anGroups cdGroups ctGroups), slGroups⟩)
    (cGroups : PySem.W.codeIn K cdGroups "groups" = true)
    (kGroups : PySem.W.keepIn K (.ref fGroups) = true)
    (aReason : PySem.W.nsIn K mainGlobals "reason" = some (some (.ref fReason)))
    (lReason : K.lookup fReason = some ⟨ocReason, odReason, .func (PySem.W.fnOf "reason" "reason" (defArgs sReason) (defBody sReason) (defScope sReason) .none kVReason dcReason pmReason anReason cdReason ctReason), slReason⟩)
    (cReason : PySem.W.codeIn K cdReason "reason" = true)
    (kReason : PySem.W.keepIn K (.ref fReason) = true)
    (aIsTest : PySem.W.nsIn K mainGlobals "is_test" = some (some (.ref fIsTest)))
    (lIsTest : K.lookup fIsTest = some ⟨ocIsTest, odIsTest, .func (PySem.W.fnOf "is_test" "is_test" (defArgs sIsTest) (defBody sIsTest) (defScope sIsTest) .none kVIsTest dcIsTest pmIsTest anIsTest cdIsTest ctIsTest), slIsTest⟩)
    (cIsTest : PySem.W.codeIn K cdIsTest "is_test" = true)
    (kIsTest : PySem.W.keepIn K (.ref fIsTest) = true)
    (aIsPut : PySem.W.nsIn K mainGlobals "is_put" = some (some (.ref fIsPut)))
    (lIsPut : K.lookup fIsPut = some ⟨ocIsPut, odIsPut, .func (PySem.W.fnOf "is_put" "is_put" (defArgs sIsPut) (defBody sIsPut) (defScope sIsPut) .none kVIsPut dcIsPut pmIsPut anIsPut cdIsPut ctIsPut), slIsPut⟩)
    (cIsPut : PySem.W.codeIn K cdIsPut "is_put" = true)
    (kIsPut : PySem.W.keepIn K (.ref fIsPut) = true)
    (aIsStep : PySem.W.nsIn K mainGlobals "is_step" = some (some (.ref fIsStep)))
    (lIsStep : K.lookup fIsStep = some ⟨ocIsStep, odIsStep, .func (PySem.W.fnOf "is_step" "is_step" (defArgs sIsStep) (defBody sIsStep) (defScope sIsStep) .none kVIsStep dcIsStep pmIsStep anIsStep cdIsStep ctIsStep), slIsStep⟩)
    (cIsStep : PySem.W.codeIn K cdIsStep "is_step" = true)
    (kIsStep : PySem.W.keepIn K (.ref fIsStep) = true)
    (aAreSteps : PySem.W.nsIn K mainGlobals "are_steps" = some (some (.ref fAreSteps)))
    (lAreSteps : K.lookup fAreSteps = some ⟨ocAreSteps, odAreSteps, .func (PySem.W.fnOf "are_steps" "are_steps" (defArgs sAreSteps) (defBody sAreSteps) (defScope sAreSteps) .none kVAreSteps dcAreSteps pmAreSteps anAreSteps cdAreSteps ctAreSteps), slAreSteps⟩)
    (cAreSteps : PySem.W.codeIn K cdAreSteps "are_steps" = true)
    (kAreSteps : PySem.W.keepIn K (.ref fAreSteps) = true)
    (aIsReason : PySem.W.nsIn K mainGlobals "is_reason" = some (some (.ref fIsReason)))
    (lIsReason : K.lookup fIsReason = some ⟨ocIsReason, odIsReason, .func (PySem.W.fnOf "is_reason" "is_reason" (defArgs sIsReason) (defBody sIsReason) (defScope sIsReason) .none kVIsReason dcIsReason pmIsReason anIsReason cdIsReason ctIsReason), slIsReason⟩)
    (cIsReason : PySem.W.codeIn K cdIsReason "is_reason" = true)
    (kIsReason : PySem.W.keepIn K (.ref fIsReason) = true)
    (aPool : PySem.W.nsIn K mainGlobals "_law_pool" = some (some (.ref fPool)))
    (lPool : K.lookup fPool = some ⟨ocPool, odPool, .func (PySem.W.fnOf "_law_pool" "_law_pool" (defArgs sPool) (defBody sPool) (defScope sPool) .none kVPool dcPool pmPool anPool cdPool ctPool), slPool⟩)
    (cPool : PySem.W.codeIn K cdPool "_law_pool" = true)
    (kPool : PySem.W.keepIn K (.ref fPool) = true)
    (aDraw : PySem.W.nsIn K mainGlobals "_law_draw" = some (some (.ref fDraw)))
    (lDraw : K.lookup fDraw = some ⟨ocDraw, odDraw, .func (PySem.W.fnOf "_law_draw" "_law_draw" (defArgs sDraw) (defBody sDraw) (defScope sDraw) .none kVDraw dcDraw pmDraw anDraw cdDraw ctDraw), slDraw⟩)
    (cDraw : PySem.W.codeIn K cdDraw "_law_draw" = true)
    (kDraw : PySem.W.keepIn K (.ref fDraw) = true)
    (aChoose : PySem.W.nsIn K mainGlobals "_law_choose" = some (some (.ref fChoose)))
    (lChoose : K.lookup fChoose = some ⟨ocChoose, odChoose, .func (PySem.W.fnOf "_law_choose" "_law_choose" (defArgs sChoose) (defBody sChoose) (defScope sChoose) .none kVChoose dcChoose pmChoose anChoose cdChoose ctChoose), slChoose⟩)
    (cChoose : PySem.W.codeIn K cdChoose "_law_choose" = true)
    (kChoose : PySem.W.keepIn K (.ref fChoose) = true)
    (aLRows : PySem.W.nsIn K mainGlobals "_law_rows" = some (some (.ref fLRows)))
    (lLRows : K.lookup fLRows = some ⟨ocLRows, odLRows, .func (PySem.W.fnOf "_law_rows" "_law_rows" (defArgs sLRows) (defBody sLRows) (defScope sLRows) .none kVLRows dcLRows pmLRows anLRows cdLRows ctLRows), slLRows⟩)
    (cLRows : PySem.W.codeIn K cdLRows "_law_rows" = true)
    (kLRows : PySem.W.keepIn K (.ref fLRows) = true)
    (aKind : PySem.W.nsIn K mainGlobals "_law_kind" = some (some (.ref fKind)))
    (lKind : K.lookup fKind = some ⟨ocKind, odKind, .func (PySem.W.fnOf "_law_kind" "_law_kind" (defArgs sKind) (defBody sKind) (defScope sKind) .none kVKind dcKind pmKind anKind cdKind ctKind), slKind⟩)
    (cKind : PySem.W.codeIn K cdKind "_law_kind" = true)
    (kKind : PySem.W.keepIn K (.ref fKind) = true)
    (aDivs : PySem.W.nsIn K mainGlobals "_law_divisions" = some (some (.ref fDivs)))
    (lDivs : K.lookup fDivs = some ⟨ocDivs, odDivs, .func (PySem.W.fnOf "_law_divisions" "_law_divisions" (defArgs sDivs) (defBody sDivs) (defScope sDivs) .none kVDivs dcDivs pmDivs anDivs cdDivs ctDivs), slDivs⟩)
    (cDivs : PySem.W.codeIn K cdDivs "_law_divisions" = true)
    (kDivs : PySem.W.keepIn K (.ref fDivs) = true)
    (aIsRight : PySem.W.nsIn K mainGlobals "_law_is_right" = some (some (.ref fIsRight)))
    (lIsRight : K.lookup fIsRight = some ⟨ocIsRight, odIsRight, .func (PySem.W.fnOf "_law_is_right" "_law_is_right" (defArgs sIsRight) (defBody sIsRight) (defScope sIsRight) .none kVIsRight dcIsRight pmIsRight anIsRight cdIsRight ctIsRight), slIsRight⟩)
    (cIsRight : PySem.W.codeIn K cdIsRight "_law_is_right" = true)
    (kIsRight : PySem.W.keepIn K (.ref fIsRight) = true)
    (aLStep : PySem.W.nsIn K mainGlobals "_law_step" = some (some (.ref fLStep)))
    (lLStep : K.lookup fLStep = some ⟨ocLStep, odLStep, .func (PySem.W.fnOf "_law_step" "_law_step" (defArgs sLStep) (defBody sLStep) (defScope sLStep) .none kVLStep dcLStep pmLStep anLStep cdLStep ctLStep), slLStep⟩)
    (cLStep : PySem.W.codeIn K cdLStep "_law_step" = true)
    (kLStep : PySem.W.keepIn K (.ref fLStep) = true)
    (aLaw : PySem.W.nsIn K mainGlobals "law" = some (some (.ref fLaw)))
    (lLaw : K.lookup fLaw = some ⟨ocLaw, odLaw, .func (PySem.W.fnOf "law" "law" (defArgs sLaw) (defBody sLaw) (defScope sLaw) .none kVLaw dcLaw pmLaw anLaw cdLaw ctLaw), slLaw⟩)
    (cLaw : PySem.W.codeIn K cdLaw "law" = true)
    (kLaw : PySem.W.keepIn K (.ref fLaw) = true)
    (aC : PySem.W.nsIn K mainGlobals "Table" = some (some (.ref C)))
    (aD : PySem.W.nsIn K mainGlobals "Forest" = some (some (.ref D)))
    (pz1 : PySem.W.findIn K (.ref C) "size" = some (some (.ref pz)))
    (pz2 : PySem.W.specialIn K (.ref pz) "__get__" = some (some (.builtin "property.__get__")))
    (pz3 : PySem.W.takesIn K (.ref pz) = some true)
    (pz4 : PySem.W.recIn K pz "property" = some (.ref fTSize :: pr))
    (aTInit : PySem.W.findIn K (.ref C) "__init__" = some (some (.ref fTInit)))
    (iTInit : PySem.W.isFn K (.ref fTInit) = true)
    (lTInit : K.lookup fTInit = some ⟨ocTInit, odTInit, .func (PySem.W.fnOf "__init__" "Table.__init__" (defArgs sTInit) (defBody sTInit) (defScope sTInit) .none kVTInit dcTInit pmTInit anTInit cdTInit ctTInit), slTInit⟩)
    (cTInit : PySem.W.codeIn K cdTInit "Table.__init__" = true)
    (kTInit : PySem.W.keepIn K (.ref fTInit) = true)
    (lTSize : K.lookup fTSize = some ⟨ocTSize, odTSize, .func (PySem.W.fnOf "size" "Table.size" (defArgs sTSize) (defBody sTSize) (defScope sTSize) .none kVTSize dcTSize pmTSize anTSize cdTSize ctTSize), slTSize⟩)
    (cTSize : PySem.W.codeIn K cdTSize "Table.size" = true)
    (kTSize : PySem.W.keepIn K (.ref fTSize) = true)
    (aTVal : PySem.W.findIn K (.ref C) "validate_colour" = some (some (.ref fTVal)))
    (iTVal : PySem.W.isFn K (.ref fTVal) = true)
    (lTVal : K.lookup fTVal = some ⟨ocTVal, odTVal, .func (PySem.W.fnOf "validate_colour" "Table.validate_colour" (defArgs sTVal) (defBody sTVal) (defScope sTVal) .none kVTVal dcTVal pmTVal anTVal cdTVal ctTVal), slTVal⟩)
    (cTVal : PySem.W.codeIn K cdTVal "Table.validate_colour" = true)
    (kTVal : PySem.W.keepIn K (.ref fTVal) = true)
    (aTGet : PySem.W.findIn K (.ref C) "__getitem__" = some (some (.ref fTGet)))
    (iTGet : PySem.W.isFn K (.ref fTGet) = true)
    (lTGet : K.lookup fTGet = some ⟨ocTGet, odTGet, .func (PySem.W.fnOf "__getitem__" "Table.__getitem__" (defArgs sTGet) (defBody sTGet) (defScope sTGet) .none kVTGet dcTGet pmTGet anTGet cdTGet ctTGet), slTGet⟩)
    (cTGet : PySem.W.codeIn K cdTGet "Table.__getitem__" = true)
    (kTGet : PySem.W.keepIn K (.ref fTGet) = true)
    (aFInit : PySem.W.findIn K (.ref D) "__init__" = some (some (.ref fFInit)))
    (iFInit : PySem.W.isFn K (.ref fFInit) = true)
    (lFInit : K.lookup fFInit = some ⟨ocFInit, odFInit, .func (PySem.W.fnOf "__init__" "Forest.__init__" (defArgs sFInit) (defBody sFInit) (defScope sFInit) .none kVFInit dcFInit pmFInit anFInit cdFInit ctFInit), slFInit⟩)
    (cFInit : PySem.W.codeIn K cdFInit "Forest.__init__" = true)
    (kFInit : PySem.W.keepIn K (.ref fFInit) = true)
    (aFJoin : PySem.W.findIn K (.ref D) "join" = some (some (.ref fFJoin)))
    (iFJoin : PySem.W.isFn K (.ref fFJoin) = true)
    (lFJoin : K.lookup fFJoin = some ⟨ocFJoin, odFJoin, .func (PySem.W.fnOf "join" "Forest.join" (defArgs sFJoin) (defBody sFJoin) (defScope sFJoin) .none kVFJoin dcFJoin pmFJoin anFJoin cdFJoin ctFJoin), slFJoin⟩)
    (cFJoin : PySem.W.codeIn K cdFJoin "Forest.join" = true)
    (kFJoin : PySem.W.keepIn K (.ref fFJoin) = true)
    (aFNames : PySem.W.findIn K (.ref D) "names" = some (some (.ref fFNames)))
    (iFNames : PySem.W.isFn K (.ref fFNames) = true)
    (lFNames : K.lookup fFNames = some ⟨ocFNames, odFNames, .func (PySem.W.fnOf "names" "Forest.names" (defArgs sFNames) (defBody sFNames) (defScope sFNames) .none kVFNames dcFNames pmFNames anFNames cdFNames ctFNames), slFNames⟩)
    (cFNames : PySem.W.codeIn K cdFNames "Forest.names" = true)
    (kFNames : PySem.W.keepIn K (.ref fFNames) = true)
    (aFChain : PySem.W.findIn K (.ref D) "chain" = some (some (.ref fFChain)))
    (iFChain : PySem.W.isFn K (.ref fFChain) = true)
    (lFChain : K.lookup fFChain = some ⟨ocFChain, odFChain, .func (PySem.W.fnOf "chain" "Forest.chain" (defArgs sFChain) (defBody sFChain) (defScope sFChain) .none kVFChain dcFChain pmFChain anFChain cdFChain ctFChain), slFChain⟩)
    (cFChain : PySem.W.codeIn K cdFChain "Forest.chain" = true)
    (kFChain : PySem.W.keepIn K (.ref fFChain) = true)
    (fiG : PySem.W.fnIn K fTGet = true)
    (pgC : PySem.W.plainGet K C Str.empty = true)
    (hdC : PySem.W.hasDictIn K C = true)
    (poC : PySem.W.plainOver K C = true)
    (saC : PySem.W.findIn K (.ref C) "__setattr__" = some (some (.builtin "object.__setattr__")))
    (mkC : PySem.W.makesIn K C = true)
    (kcC : PySem.W.keepIn K (.ref C) = true)
    (pgD : PySem.W.plainGet K D Str.empty = true)
    (hdD : PySem.W.hasDictIn K D = true)
    (poD : PySem.W.plainOver K D = true)
    (saD : PySem.W.findIn K (.ref D) "__setattr__" = some (some (.builtin "object.__setattr__")))
    (mkD : PySem.W.makesIn K D = true)
    (kcD : PySem.W.keepIn K (.ref D) = true)
    (nRows : PySem.W.findIn K (.ref C) "own_rows" = some none)
    (nTab : PySem.W.findIn K (.ref D) "own_table" = some none)
    (nSteps : PySem.W.findIn K (.ref D) "own_steps" = some none)
    (nNames : PySem.W.findIn K (.ref D) "own_names" = some none)
    (gMax : PySem.W.nsIn K mainGlobals "MAX_COLOURS" = some (some (.int 8 tm)))
    (z_isinstance : PySem.W.nsIn K mainGlobals "isinstance" = some none)
    (z_int : PySem.W.nsIn K mainGlobals "int" = some none)
    (z_bool : PySem.W.nsIn K mainGlobals "bool" = some none)
    (z_str : PySem.W.nsIn K mainGlobals "str" = some none)
    (z_list : PySem.W.nsIn K mainGlobals "list" = some none)
    (z_tuple : PySem.W.nsIn K mainGlobals "tuple" = some none)
    (z_len : PySem.W.nsIn K mainGlobals "len" = some none)
    (z_all : PySem.W.nsIn K mainGlobals "all" = some none)
    (z_range : PySem.W.nsIn K mainGlobals "range" = some none)
    (z_min : PySem.W.nsIn K mainGlobals "min" = some none)
    (z_max : PySem.W.nsIn K mainGlobals "max" = some none)
    (z_zip : PySem.W.nsIn K mainGlobals "zip" = some none)
    (z_sorted : PySem.W.nsIn K mainGlobals "sorted" = some none)
    (z_set : PySem.W.nsIn K mainGlobals "set" = some none)
    : ∃ fd : FuncData, (∀ (s : Shared) (v : Value), BindsTo s fd ⟨[v], []⟩ [("_law_script", v)]) ∧ ∀ base : Heap, K.In base → base.Ns mainGlobals mg → FnOk l.prog w K mg base CX0 35 fa fd ["_law_script"] (spLaw K) := by
  have e := hfa.symm.trans (PySem.W.mg_of X G aLaw)
  cases e
  have FIsInt := fun_mk (st := sIsInt) lIsInt cIsInt kIsInt
  have bIsInt := FIsInt.binds (ps := ["value"]) fun _ _ _ _ _ _ us hl => match us, hl with | [_], _ => rfl
  have FIsCol := fun_mk (st := sIsCol) lIsCol cIsCol kIsCol
  have bIsCol := FIsCol.binds (ps := ["size", "value"]) fun _ _ _ _ _ _ us hl => match us, hl with | [_, _], _ => rfl
  have FShape := fun_mk (st := sShape) lShape cShape kShape
  have bShape := FShape.binds (ps := ["rows"]) fun _ _ _ _ _ _ us hl => match us, hl with | [_], _ => rfl
  have FPlaces := fun_mk (st := sPlaces) lPlaces cPlaces kPlaces
  have bPlaces := FPlaces.binds (ps := ["size"]) fun _ _ _ _ _ _ us hl => match us, hl with | [_], _ => rfl
  have FWrong := fun_mk (st := sWrong) lWrong cWrong kWrong
  have bWrong := FWrong.binds (ps := ["rows"]) fun _ _ _ _ _ _ us hl => match us, hl with | [_], _ => rfl
  have FTests := fun_mk (st := sTests) lTests cTests kTests
  have bTests := FTests.binds (ps := ["table"]) fun _ _ _ _ _ _ us hl => match us, hl with | [_], _ => rfl
  have FPuts := fun_mk (st := sPuts) lPuts cPuts kPuts
  have bPuts := FPuts.binds (ps := ["table", "step"]) fun _ _ _ _ _ _ us hl => match us, hl with | [_, _], _ => rfl
  have FTurned := fun_mk (st := sTurned) lTurned cTurned kTurned
  have bTurned := FTurned.binds (ps := ["step"]) fun _ _ _ _ _ _ us hl => match us, hl with | [_], _ => rfl
  have FGNames := fun_mk (st := sGNames) lGNames cGNames kGNames
  have bGNames := FGNames.binds (ps := ["table"]) fun _ _ _ _ _ _ us hl => match us, hl with | [_], _ => rfl
  have FGroups := fun_mk (st := sGroups) lGroups cGroups kGroups
  have bGroups := FGroups.binds (ps := ["table"]) fun _ _ _ _ _ _ us hl => match us, hl with | [_], _ => rfl
  have FReason := fun_mk (st := sReason) lReason cReason kReason
  have bReason := FReason.binds (ps := ["table", "start", "end"]) fun _ _ _ _ _ _ us hl => match us, hl with | [_, _, _], _ => rfl
  have FIsTest := fun_mk (st := sIsTest) lIsTest cIsTest kIsTest
  have bIsTest := FIsTest.binds (ps := ["table", "one", "other", "why"]) fun _ _ _ _ _ _ us hl => match us, hl with | [_, _, _, _], _ => rfl
  have FIsPut := fun_mk (st := sIsPut) lIsPut cIsPut kIsPut
  have bIsPut := FIsPut.binds (ps := ["table", "one", "other", "why"]) fun _ _ _ _ _ _ us hl => match us, hl with | [_, _, _, _], _ => rfl
  have FIsStep := fun_mk (st := sIsStep) lIsStep cIsStep kIsStep
  have bIsStep := FIsStep.binds (ps := ["table", "step"]) fun _ _ _ _ _ _ us hl => match us, hl with | [_, _], _ => rfl
  have FAreSteps := fun_mk (st := sAreSteps) lAreSteps cAreSteps kAreSteps
  have bAreSteps := FAreSteps.binds (ps := ["table", "start", "end", "value"]) fun _ _ _ _ _ _ us hl => match us, hl with | [_, _, _, _], _ => rfl
  have FIsReason := fun_mk (st := sIsReason) lIsReason cIsReason kIsReason
  have bIsReason := FIsReason.binds (ps := ["table", "start", "end", "value"]) fun _ _ _ _ _ _ us hl => match us, hl with | [_, _, _, _], _ => rfl
  have FPool := fun_mk (st := sPool) lPool cPool kPool
  have bPool := FPool.binds (ps := ["_law_script", "_law_k"]) fun _ _ _ _ _ _ us hl => match us, hl with | [_, _], _ => rfl
  have FDraw := fun_mk (st := sDraw) lDraw cDraw kDraw
  have bDraw := FDraw.binds (ps := ["_law_pool_here", "_law_many"]) fun _ _ _ _ _ _ us hl => match us, hl with | [_, _], _ => rfl
  have FChoose := fun_mk (st := sChoose) lChoose cChoose kChoose
  have bChoose := FChoose.binds (ps := ["_law_pool_here", "_law_items"]) fun _ _ _ _ _ _ us hl => match us, hl with | [_, _], _ => rfl
  have FLRows := fun_mk (st := sLRows) lLRows cLRows kLRows
  have bLRows := FLRows.binds (ps := ["_law_pool_here", "_law_size"]) fun _ _ _ _ _ _ us hl => match us, hl with | [_, _], _ => rfl
  have FKind := fun_mk (st := sKind) lKind cKind kKind
  have bKind := FKind.binds (ps := ["_law_pool_here", "_law_size"]) fun _ _ _ _ _ _ us hl => match us, hl with | [_, _], _ => rfl
  have FDivs := fun_mk (st := sDivs) lDivs cDivs kDivs
  have bDivs := FDivs.binds (ps := ["_law_size"]) fun _ _ _ _ _ _ us hl => match us, hl with | [_], _ => rfl
  have FIsRight := fun_mk (st := sIsRight) lIsRight cIsRight kIsRight
  have bIsRight := FIsRight.binds (ps := ["_law_rows_here", "_law_names"]) fun _ _ _ _ _ _ us hl => match us, hl with | [_, _], _ => rfl
  have FLStep := fun_mk (st := sLStep) lLStep cLStep kLStep
  have bLStep := FLStep.binds (ps := ["_law_pool_here", "_law_rows_here"]) fun _ _ _ _ _ _ us hl => match us, hl with | [_, _], _ => rfl
  have FTInit := fun_mk (st := sTInit) lTInit cTInit kTInit
  have bTInit := FTInit.binds (ps := ["self", "rows"]) fun _ _ _ _ _ _ us hl => match us, hl with | [_, _], _ => rfl
  have FTSize := fun_mk (st := sTSize) lTSize cTSize kTSize
  have bTSize := FTSize.binds (ps := ["self"]) fun _ _ _ _ _ _ us hl => match us, hl with | [_], _ => rfl
  have FTVal := fun_mk (st := sTVal) lTVal cTVal kTVal
  have bTVal := FTVal.binds (ps := ["self", "value"]) fun _ _ _ _ _ _ us hl => match us, hl with | [_, _], _ => rfl
  have FTGet := fun_mk (st := sTGet) lTGet cTGet kTGet
  have bTGet := FTGet.binds (ps := ["self", "pair"]) fun _ _ _ _ _ _ us hl => match us, hl with | [_, _], _ => rfl
  have FFInit := fun_mk (st := sFInit) lFInit cFInit kFInit
  have bFInit := FFInit.binds (ps := ["self", "table"]) fun _ _ _ _ _ _ us hl => match us, hl with | [_, _], _ => rfl
  have FFJoin := fun_mk (st := sFJoin) lFJoin cFJoin kFJoin
  have bFJoin := FFJoin.binds (ps := ["self", "step"]) fun _ _ _ _ _ _ us hl => match us, hl with | [_, _], _ => rfl
  have FFNames := fun_mk (st := sFNames) lFNames cFNames kFNames
  have bFNames := FFNames.binds (ps := ["self"]) fun _ _ _ _ _ _ us hl => match us, hl with | [_], _ => rfl
  have FFChain := fun_mk (st := sFChain) lFChain cFChain kFChain
  have bFChain := FFChain.binds (ps := ["self", "start", "end"]) fun _ _ _ _ _ _ us hl => match us, hl with | [_, _, _], _ => rfl
  have FLaw := fun_mk (st := sLaw) lLaw cLaw kLaw
  have T : Txt K mg := {
    IsInt := ⟨_, _, FIsInt, bIsInt, PySem.W.mg_of X G aIsInt⟩
    IsCol := ⟨_, _, FIsCol, bIsCol, PySem.W.mg_of X G aIsCol⟩
    Shape := ⟨_, _, FShape, bShape, PySem.W.mg_of X G aShape⟩
    Places := ⟨_, _, FPlaces, bPlaces, PySem.W.mg_of X G aPlaces⟩
    Wrong := ⟨_, _, FWrong, bWrong, PySem.W.mg_of X G aWrong⟩
    Tests := ⟨_, _, FTests, bTests, PySem.W.mg_of X G aTests⟩
    Puts := ⟨_, _, FPuts, bPuts, PySem.W.mg_of X G aPuts⟩
    Turned := ⟨_, _, FTurned, bTurned, PySem.W.mg_of X G aTurned⟩
    GNames := ⟨_, _, FGNames, bGNames, PySem.W.mg_of X G aGNames⟩
    Groups := ⟨_, _, FGroups, bGroups, PySem.W.mg_of X G aGroups⟩
    Reason := ⟨_, _, FReason, bReason, PySem.W.mg_of X G aReason⟩
    IsTest := ⟨_, _, FIsTest, bIsTest, PySem.W.mg_of X G aIsTest⟩
    IsPut := ⟨_, _, FIsPut, bIsPut, PySem.W.mg_of X G aIsPut⟩
    IsStep := ⟨_, _, FIsStep, bIsStep, PySem.W.mg_of X G aIsStep⟩
    AreSteps := ⟨_, _, FAreSteps, bAreSteps, PySem.W.mg_of X G aAreSteps⟩
    IsReason := ⟨_, _, FIsReason, bIsReason, PySem.W.mg_of X G aIsReason⟩
    Pool := ⟨_, _, FPool, bPool, PySem.W.mg_of X G aPool⟩
    Draw := ⟨_, _, FDraw, bDraw, PySem.W.mg_of X G aDraw⟩
    Choose := ⟨_, _, FChoose, bChoose, PySem.W.mg_of X G aChoose⟩
    LRows := ⟨_, _, FLRows, bLRows, PySem.W.mg_of X G aLRows⟩
    Kind := ⟨_, _, FKind, bKind, PySem.W.mg_of X G aKind⟩
    Divs := ⟨_, _, FDivs, bDivs, PySem.W.mg_of X G aDivs⟩
    IsRight := ⟨_, _, FIsRight, bIsRight, PySem.W.mg_of X G aIsRight⟩
    LStep := ⟨_, _, FLStep, bLStep, PySem.W.mg_of X G aLStep⟩
    TInit := ⟨_, _, FTInit, bTInit⟩
    TSize := ⟨_, _, FTSize, bTSize⟩
    TVal := ⟨_, _, FTVal, bTVal⟩
    TGet := ⟨_, _, FTGet, bTGet⟩
    FInit := ⟨_, _, FFInit, bFInit⟩
    FJoin := ⟨_, _, FFJoin, bFJoin⟩
    FNames := ⟨_, _, FFNames, bFNames⟩
    FChain := ⟨_, _, FFChain, bFChain⟩
    C := C
    D := D
    clC := ⟨pgC, hdC, poC, saC⟩
    clD := ⟨pgD, hdD, poD, saD⟩
    gC := PySem.W.mg_of X G aC
    gD := PySem.W.mg_of X G aD
    mkC := ⟨mkC, aTInit, iTInit, kcC⟩
    mkD := ⟨mkD, aFInit, iFInit, kcD⟩
    pz := pz
    prSize := ⟨pz1, pz2, pz3, pr, pz4⟩
    mVal := ⟨aTVal, iTVal, kTVal⟩
    getC := ⟨aTGet, iTGet, fiG⟩
    mJoin := ⟨aFJoin, iFJoin, kFJoin⟩
    mNames := ⟨aFNames, iFNames, kFNames⟩
    mChain := ⟨aFChain, iFChain, kFChain⟩
    nRows := nRows
    nTab := nTab
    nSteps := nSteps
    nNames := nNames
    tm := tm
    gMax := PySem.W.mg_of X G gMax
    z_isinstance := PySem.W.mg_none_of X G z_isinstance
    z_int := PySem.W.mg_none_of X G z_int
    z_bool := PySem.W.mg_none_of X G z_bool
    z_str := PySem.W.mg_none_of X G z_str
    z_list := PySem.W.mg_none_of X G z_list
    z_tuple := PySem.W.mg_none_of X G z_tuple
    z_len := PySem.W.mg_none_of X G z_len
    z_all := PySem.W.mg_none_of X G z_all
    z_range := PySem.W.mg_none_of X G z_range
    z_min := PySem.W.mg_none_of X G z_min
    z_max := PySem.W.mg_none_of X G z_max
    z_zip := PySem.W.mg_none_of X G z_zip
    z_sorted := PySem.W.mg_none_of X G z_sorted
    z_set := PySem.W.mg_none_of X G z_set
  }
  exact ⟨PySem.W.fnOf "law" "law" (defArgs sLaw) (defBody sLaw) (defScope sLaw) .none kVLaw dcLaw pmLaw anLaw cdLaw ctLaw, fun s v => .of_eq rfl, fun base _ _ => ok_Law T FLaw⟩
theorem walk {l : PySem.W.OpenLaw} {q : Program} {loose : List Str} {XP : (Str → Option Value) → Heap → Prop} {YP : World → Heap → Prop} {d : DefRec} {K : Params → PySem.W.Frag} (hn : l.most = some 63) (hdf : d.params.defaults = [])
    (hY : ∀ (w : World) (h : Heap), YP w h → (K w.params).In h)
    (F : ∀ (w : World) (mg : Str → Option Value) (fa : Addr) (h : Heap), (K w.params).In h → h.Ns mainGlobals mg → mg d.name = some (.ref fa) →
      ∃ fd : FuncData, (∀ (s : Shared) (u : Value), BindsTo s fd ⟨[u], []⟩ [("_law_script", u)]) ∧ ∀ base : Heap, (K w.params).In base → base.Ns mainGlobals mg → FnOk l.prog w (K w.params) mg base CX0 35 fa fd ["_law_script"] (spLaw (K w.params))) :
    PySem.W.WalkO q loose XP YP l.row.toRowW d [] (fun f vs => PySem.call f vs) :=
  L2.walk_of (n := 63) (k := 35) (x := "_law_script") (CX := fun _ => CX0) (sp := fun w => spLaw (K w.params)) hn (by decide) hdf ⟨rfl, by decide, by decide⟩ hY F (fun _ _ a ns hl _ hS => ⟨a, ns, rfl, hS, fun _ => rfl⟩) fun _ _ _ _ _ z => z
end K86
open PySem PySem.W PyProof.Rows
set_option maxRecDepth 100000 in
set_option maxHeartbeats 0 in
theorem PySem.Challenge.cw_beanjars_k86_whole_any_accepted_reason_holds : PySem.Challenge.rw_beanjars_k86_whole_any_accepted_reason.Holds := by
  w_on; o_law; k_head; (case hw => w_witness2)
  k_fill
  refine K86.walk (l := PySem.Challenge.rw_beanjars_k86_whole_any_accepted_reason) rfl rfl (fun w h Y => PySem.W.kIn_of Y) ?F
  case F =>
    intro w mg fa h KX G hmg
    refine' K86.all_mk KX G hmg ?aIsInt ?lIsInt ?cIsInt ?kIsInt ?aIsCol ?lIsCol ?cIsCol ?kIsCol ?aShape ?lShape ?cShape ?kShape ?aPlaces ?lPlaces ?cPlaces ?kPlaces ?aWrong ?lWrong ?cWrong ?kWrong ?aTests ?lTests ?cTests ?kTests ?aPuts ?lPuts ?cPuts ?kPuts ?aTurned ?lTurned ?cTurned ?kTurned ?aGNames ?lGNames ?cGNames ?kGNames ?aGroups ?lGroups ?cGroups ?kGroups ?aReason ?lReason ?cReason ?kReason ?aIsTest ?lIsTest ?cIsTest ?kIsTest ?aIsPut ?lIsPut ?cIsPut ?kIsPut ?aIsStep ?lIsStep ?cIsStep ?kIsStep ?aAreSteps ?lAreSteps ?cAreSteps ?kAreSteps ?aIsReason ?lIsReason ?cIsReason ?kIsReason ?aPool ?lPool ?cPool ?kPool ?aDraw ?lDraw ?cDraw ?kDraw ?aChoose ?lChoose ?cChoose ?kChoose ?aLRows ?lLRows ?cLRows ?kLRows ?aKind ?lKind ?cKind ?kKind ?aDivs ?lDivs ?cDivs ?kDivs ?aIsRight ?lIsRight ?cIsRight ?kIsRight ?aLStep ?lLStep ?cLStep ?kLStep ?aLaw ?lLaw ?cLaw ?kLaw ?aC ?aD ?pz1 ?pz2 ?pz3 ?pz4 ?aTInit ?iTInit ?lTInit ?cTInit ?kTInit ?lTSize ?cTSize ?kTSize ?aTVal ?iTVal ?lTVal ?cTVal ?kTVal ?aTGet ?iTGet ?lTGet ?cTGet ?kTGet ?aFInit ?iFInit ?lFInit ?cFInit ?kFInit ?aFJoin ?iFJoin ?lFJoin ?cFJoin ?kFJoin ?aFNames ?iFNames ?lFNames ?cFNames ?kFNames ?aFChain ?iFChain ?lFChain ?cFChain ?kFChain ?fiG ?pgC ?hdC ?poC ?saC ?mkC ?kcC ?pgD ?hdD ?poD ?saD ?mkD ?kcD ?nRows ?nTab ?nSteps ?nNames ?gMax ?z_isinstance ?z_int ?z_bool ?z_str ?z_list ?z_tuple ?z_len ?z_all ?z_range ?z_min ?z_max ?z_zip ?z_sorted ?z_set
    (case aIsInt => k_is)
    (case lIsInt => k_is)
    (case cIsInt => k_is)
    (case kIsInt => k_is)
    (case aIsCol => k_is)
    (case lIsCol => k_is)
    (case cIsCol => k_is)
    (case kIsCol => k_is)
    (case aShape => k_is)
    (case lShape => k_is)
    (case cShape => k_is)
    (case kShape => k_is)
    (case aPlaces => k_is)
    (case lPlaces => k_is)
    (case cPlaces => k_is)
    (case kPlaces => k_is)
    (case aWrong => k_is)
    (case lWrong => k_is)
    (case cWrong => k_is)
    (case kWrong => k_is)
    (case aTests => k_is)
    (case lTests => k_is)
    (case cTests => k_is)
    (case kTests => k_is)
    (case aPuts => k_is)
    (case lPuts => k_is)
    (case cPuts => k_is)
    (case kPuts => k_is)
    (case aTurned => k_is)
    (case lTurned => k_is)
    (case cTurned => k_is)
    (case kTurned => k_is)
    (case aGNames => k_is)
    (case lGNames => k_is)
    (case cGNames => k_is)
    (case kGNames => k_is)
    (case aGroups => k_is)
    (case lGroups => k_is)
    (case cGroups => k_is)
    (case kGroups => k_is)
    (case aReason => k_is)
    (case lReason => k_is)
    (case cReason => k_is)
    (case kReason => k_is)
    (case aIsTest => k_is)
    (case lIsTest => k_is)
    (case cIsTest => k_is)
    (case kIsTest => k_is)
    (case aIsPut => k_is)
    (case lIsPut => k_is)
    (case cIsPut => k_is)
    (case kIsPut => k_is)
    (case aIsStep => k_is)
    (case lIsStep => k_is)
    (case cIsStep => k_is)
    (case kIsStep => k_is)
    (case aAreSteps => k_is)
    (case lAreSteps => k_is)
    (case cAreSteps => k_is)
    (case kAreSteps => k_is)
    (case aIsReason => k_is)
    (case lIsReason => k_is)
    (case cIsReason => k_is)
    (case kIsReason => k_is)
    (case aPool => k_is)
    (case lPool => k_is)
    (case cPool => k_is)
    (case kPool => k_is)
    (case aDraw => k_is)
    (case lDraw => k_is)
    (case cDraw => k_is)
    (case kDraw => k_is)
    (case aChoose => k_is)
    (case lChoose => k_is)
    (case cChoose => k_is)
    (case kChoose => k_is)
    (case aLRows => k_is)
    (case lLRows => k_is)
    (case cLRows => k_is)
    (case kLRows => k_is)
    (case aKind => k_is)
    (case lKind => k_is)
    (case cKind => k_is)
    (case kKind => k_is)
    (case aDivs => k_is)
    (case lDivs => k_is)
    (case cDivs => k_is)
    (case kDivs => k_is)
    (case aIsRight => k_is)
    (case lIsRight => k_is)
    (case cIsRight => k_is)
    (case kIsRight => k_is)
    (case aLStep => k_is)
    (case lLStep => k_is)
    (case cLStep => k_is)
    (case kLStep => k_is)
    (case aLaw => k_is)
    (case lLaw => k_is)
    (case cLaw => k_is)
    (case kLaw => k_is)
    (case aC => k_is)
    (case aD => k_is)
    (case pz1 => k_is)
    (case pz2 => k_is)
    (case pz3 => k_is)
    (case pz4 => k_is)
    (case aTInit => k_is)
    (case iTInit => k_is)
    (case lTInit => k_is)
    (case cTInit => k_is)
    (case kTInit => k_is)
    (case lTSize => k_is)
    (case cTSize => k_is)
    (case kTSize => k_is)
    (case aTVal => k_is)
    (case iTVal => k_is)
    (case lTVal => k_is)
    (case cTVal => k_is)
    (case kTVal => k_is)
    (case aTGet => k_is)
    (case iTGet => k_is)
    (case lTGet => k_is)
    (case cTGet => k_is)
    (case kTGet => k_is)
    (case aFInit => k_is)
    (case iFInit => k_is)
    (case lFInit => k_is)
    (case cFInit => k_is)
    (case kFInit => k_is)
    (case aFJoin => k_is)
    (case iFJoin => k_is)
    (case lFJoin => k_is)
    (case cFJoin => k_is)
    (case kFJoin => k_is)
    (case aFNames => k_is)
    (case iFNames => k_is)
    (case lFNames => k_is)
    (case cFNames => k_is)
    (case kFNames => k_is)
    (case aFChain => k_is)
    (case iFChain => k_is)
    (case lFChain => k_is)
    (case cFChain => k_is)
    (case kFChain => k_is)
    (case fiG => k_is)
    (case pgC => k_is)
    (case hdC => k_is)
    (case poC => k_is)
    (case saC => k_is)
    (case mkC => k_is)
    (case kcC => k_is)
    (case pgD => k_is)
    (case hdD => k_is)
    (case poD => k_is)
    (case saD => k_is)
    (case mkD => k_is)
    (case kcD => k_is)
    (case nRows => k_is)
    (case nTab => k_is)
    (case nSteps => k_is)
    (case nNames => k_is)
    (case gMax => k_is)
    (case z_isinstance => k_is)
    (case z_int => k_is)
    (case z_bool => k_is)
    (case z_str => k_is)
    (case z_list => k_is)
    (case z_tuple => k_is)
    (case z_len => k_is)
    (case z_all => k_is)
    (case z_range => k_is)
    (case z_min => k_is)
    (case z_max => k_is)
    (case z_zip => k_is)
    (case z_sorted => k_is)
    (case z_set => k_is)

