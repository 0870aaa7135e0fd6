import PyProof.Rows.All
import Wide.All
import OpenK.AllK
import Wide.FinOn
import HandS.ForMost
import HandS.ForExc
import HandS.Wide
import HandS.Gcd
import HandS.IsInst
import HandS.Deep
import HandS.Zip
import HandS.TupAny
import HandS.TupMul
import HandS.CallSlots
import PyProof.ReprRoads
import HandS.Star
import HandS.Flow
import KE.GoesNew
import KE.GoesEnum
import HandS.ExcOwn
import HandS.Style
import HandS.Ends
import PySem.Challenge.RW_everyface_k02_led_products_worths_parts
set_option Elab.async false
set_option linter.all false
set_option maxRecDepth 100000
set_option maxHeartbeats 1000001
namespace FW
open PySem PySem.Spec L2

abbrev D := PyData
abbrev Frg := PySem.W.Frag

/-! ## data, what represents them -/
def keyD : Key → D
  | .inl i => .int i
  | .inr x => .str x
mutual
/-- v stands for the data d, in the frozen heap G -/
def Dr (K : Frg) (G : Hp) : V → D → Prop
  | v, .none => v = .non
  | v, .bool b => v = .bl b
  | v, .int i => v = .int i
  | v, .str x => v = .str x
  | v, .list ds => ∃ a xs, v = .ref a ∧ G a = some (.lst xs) ∧ Drs K G xs ds
  | v, .tuple ds => ∃ a xs, v = .ref a ∧ SqT K G a xs ∧ Drs K G xs ds
  | v, .dict kvs => ∃ a ks, v = .ref a ∧ G a = some (.dK ks) ∧ Drk K G ks kvs
def Drs (K : Frg) (G : Hp) : List V → List D → Prop
  | xs, [] => xs = []
  | xs, d :: ds => ∃ x r, xs = x :: r ∧ Dr K G x d ∧ Drs K G r ds
def Drk (K : Frg) (G : Hp) : List (Key × V) → List (D × D) → Prop
  | ks, [] => ks = []
  | ks, (k, d) :: r => ∃ k' x r', ks = (k', x) :: r' ∧ k = keyD k' ∧ Dr K G x d ∧ Drk K G r' r
end
theorem same_seqT {K : Frg} {H H' : Hp} {a : Addr} {xs : List V} (e : Same H H') (h : SqT K H a xs) : SqT K H' a xs := by
  rcases h with ((h | ⟨o, h⟩) | h)
  · exact .inl (.inl (e _ _ h))
  · exact .inl (.inr ⟨o, (e _ _ h)⟩) 
  · exact .inr h
mutual
theorem Dr.mono {K : Frg} {G G' : Hp} (h : Same G G') : ∀ (d : D) (v : V), Dr K G v d → Dr K G' v d
  | .none, _, x => by unfold Dr at *; exact x
  | .bool _, _, x => by unfold Dr at *; exact x
  | .int _, _, x => by unfold Dr at *; exact x
  | .str _, _, x => by unfold Dr at *; exact x
  | .list ds, _, x => by
    unfold Dr at *
    obtain ⟨a, xs, e, s, t⟩ := x
    exact ⟨a, xs, e, h _ _ s, Drs.mono h ds xs t⟩
  | .tuple ds, _, x => by
    unfold Dr at *
    obtain ⟨a, xs, e, s, t⟩ := x
    exact ⟨a, xs, e, same_seqT h s, Drs.mono h ds xs t⟩
  | .dict ks, _, x => by
    unfold Dr at *
    obtain ⟨a, xs, e, s, t⟩ := x
    exact ⟨a, xs, e, h _ _ s, Drk.mono h ks xs t⟩
theorem Drs.mono {K : Frg} {G G' : Hp} (h : Same G G') : ∀ (ds : List D) (vs : List V), Drs K G vs ds → Drs K G' vs ds
  | [], _, x => by unfold Drs at *; exact x
  | d :: ds, _, x => by
    unfold Drs at *
    obtain ⟨v, r, e, p, q⟩ := x
    exact ⟨v, r, e, Dr.mono h d v p, Drs.mono h ds r q⟩
theorem Drk.mono {K : Frg} {G G' : Hp} (h : Same G G') : ∀ (ds : List (D × D)) (vs : List (Key × V)), Drk K G vs ds → Drk K G' vs ds
  | [], _, x => by unfold Drk at *; exact x
  | (k, d) :: ds, _, x => by
    unfold Drk at *
    obtain ⟨k', v, r, e, ek, p, q⟩ := x
    exact ⟨k', v, r, e, ek, Dr.mono h d v p, Drk.mono h ds r q⟩
end
mutual
/-- to the layer's own word for data without dicts -/
theorem Dr.dp {K : Frg} {G : Hp} : ∀ (d : D) (v : V), d.canLay0 = true → Dr K G v d → Dp K G v d
  | .none, _, _, x => by unfold Dr at x; subst x; exact .non
  | .bool _, _, _, x => by unfold Dr at x; subst x; exact .bl _
  | .int _, _, _, x => by unfold Dr at x; subst x; exact .int _
  | .str _, _, _, x => by unfold Dr at x; subst x; exact .str _
  | .list ds, _, c, x => by
    unfold Dr at x
    obtain ⟨a, xs, e, s, t⟩ := x
    subst e
    exact .lst (SqL.of s) (Drs.dp ds xs (by simpa [PyData.canLay0] using c) t)
  | .tuple ds, _, c, x => by
    unfold Dr at x
    obtain ⟨a, xs, e, s, t⟩ := x
    subst e
    exact .tup s (Drs.dp ds xs (by simpa [PyData.canLay0] using c) t)
  | .dict ks, _, c, _ => by simp [PyData.canLay0] at c
theorem Drs.dp {K : Frg} {G : Hp} : ∀ (ds : List D) (vs : List V), PyData.canLayAll0 ds = true → Drs K G vs ds → DpAll K G vs ds
  | [], _, _, x => by unfold Drs at x; subst x; exact .nil
  | d :: ds, _, c, x => by
    unfold Drs at x
    obtain ⟨v, r, e, p, q⟩ := x
    subst e
    have c' : d.canLay0 = true ∧ PyData.canLayAll0 ds = true := by simpa [PyData.canLayAll0] using c
    exact .cons (Dr.dp d v c'.1 p) (Drs.dp ds r c'.2 q)
end
theorem Drs.length {K : Frg} {G : Hp} : ∀ {ds : List D} {vs : List V}, Drs K G vs ds → vs.length = ds.length
  | [], _, x => by unfold Drs at x; subst x; rfl
  | d :: ds, _, x => by
    unfold Drs at x
    obtain ⟨v, r, e, p, q⟩ := x
    subst e
    simp [Drs.length q]
theorem Drs.get {K : Frg} {G : Hp} : ∀ {ds : List D} {vs : List V} {i : Nat} {d : D}, Drs K G vs ds → ds[i]? = some d → ∃ v, vs[i]? = some v ∧ Dr K G v d
  | [], _, _, _, _, e => by simp at e
  | d :: ds, _, 0, _, x, e => by
    unfold Drs at x
    obtain ⟨v, r, e', p, q⟩ := x
    subst e'
    simp at e
    subst e
    exact ⟨v, rfl, p⟩
  | d :: ds, _, i + 1, _, x, e => by
    unfold Drs at x
    obtain ⟨v, r, e', p, q⟩ := x
    subst e'
    simpa using Drs.get (i := i) q (by simpa using e)
theorem Drs.append {K : Frg} {G : Hp} : ∀ {ds es : List D} {vs us : List V}, Drs K G vs ds → Drs K G us es → Drs K G (vs ++ us) (ds ++ es)
  | [], _, _, _, x, y => by unfold Drs at x; subst x; exact y
  | d :: ds, es, _, us, x, y => by
    unfold Drs at x
    obtain ⟨v, r, e', p, q⟩ := x
    subst e'
    show Drs K G (v :: (r ++ us)) (d :: (ds ++ es))
    unfold Drs
    exact ⟨v, r ++ us, rfl, p, Drs.append q y⟩
theorem Drs.nil {K : Frg} {G : Hp} : Drs K G [] [] := by unfold Drs; rfl
theorem Drs.cons {K : Frg} {G : Hp} {v : V} {vs : List V} {d : D} {ds : List D} (p : Dr K G v d) (q : Drs K G vs ds) : Drs K G (v :: vs) (d :: ds) := by unfold Drs; exact ⟨v, vs, rfl, p, q⟩
theorem Drs.one {K : Frg} {G : Hp} {vs : List V} {d : D} (h : Drs K G vs [d]) : ∃ v, vs = [v] ∧ Dr K G v d := by
  unfold Drs at h
  obtain ⟨v, r, e, p, q⟩ := h
  unfold Drs at q
  subst q
  exact ⟨v, e, p⟩
theorem Drs.two {K : Frg} {G : Hp} {vs : List V} {d e : D} (h : Drs K G vs [d, e]) : ∃ v u, vs = [v, u] ∧ Dr K G v d ∧ Dr K G u e := by
  unfold Drs at h
  obtain ⟨v, r, e1, p, q⟩ := h
  obtain ⟨u, e2, p2⟩ := Drs.one q
  exact ⟨v, u, by rw [e1, e2], p, p2⟩
theorem Drs.drop {K : Frg} {G : Hp} : ∀ {ds : List D} {vs : List V} (n : Nat), Drs K G vs ds → Drs K G (vs.drop n) (ds.drop n)
  | _, _, 0, h => by simpa using h
  | [], _, n + 1, h => by unfold Drs at h; subst h; exact Drs.nil
  | d :: ds, _, n + 1, h => by
    unfold Drs at h
    obtain ⟨v, r, e1, p, q⟩ := h
    subst e1
    simpa using Drs.drop n q
theorem Drs.take {K : Frg} {G : Hp} : ∀ {ds : List D} {vs : List V} (n : Nat), Drs K G vs ds → Drs K G (vs.take n) (ds.take n)
  | _, _, 0, h => by simpa using Drs.nil
  | [], _, n + 1, h => by unfold Drs at h; subst h; exact Drs.nil
  | d :: ds, _, n + 1, h => by
    unfold Drs at h
    obtain ⟨v, r, e1, p, q⟩ := h
    subst e1
    simpa using Drs.cons p (Drs.take n q)
theorem Drs.reverse {K : Frg} {G : Hp} : ∀ {ds : List D} {vs : List V}, Drs K G vs ds → Drs K G vs.reverse ds.reverse
  | [], _, h => by unfold Drs at h; subst h; exact Drs.nil
  | d :: ds, _, h => by
    unfold Drs at h
    obtain ⟨v, r, e1, p, q⟩ := h
    subst e1
    simpa using Drs.append (Drs.reverse q) (Drs.cons p Drs.nil)

/-! ## slots: frozen data, or a list of one's own (a tree of lists, nobody else's) -/
inductive Wv where
  | d (x : D)
  | o (xs : List Wv)
  | s (ns : List Int)
mutual
def Wv.dat : Wv → D
  | .d x => x
  | .o xs => .list (Wv.dats xs)
  | .s ns => .list (ns.map .int)
def Wv.dats : List Wv → List D
  | [] => []
  | x :: xs => x.dat :: Wv.dats xs
end
mutual
def Rw (K : Frg) (H G : Hp) : V → Wv → List Addr → Prop
  | v, .d x, fp => fp = [] ∧ Dr K G v x
  | v, .o ws, fp => ∃ a vs f, v = .ref a ∧ H a = some (.lst vs) ∧ G a = none ∧ fp = a :: f ∧ Rws K H G vs ws f
  | v, .s ns, fp => fp = [] ∧ ∃ a, v = .ref a ∧ SqL K G a (ns.map V.int)
def Rws (K : Frg) (H G : Hp) : List V → List Wv → List Addr → Prop
  | vs, [], fp => vs = [] ∧ fp = []
  | vs, w :: ws, fp => ∃ v r f g, vs = v :: r ∧ fp = f ++ g ∧ Rw K H G v w f ∧ Rws K H G r ws g
end
section
variable {K : Frg} {H G H' G' : Hp}
mutual
theorem Rw.there : ∀ (w : Wv) (v : V) (fp : List Addr), Rw K H G v w fp → ∀ a ∈ fp, ∃ vs, H a = some (.lst vs) ∧ G a = none
  | .d x, _, _, h => by unfold Rw at h; obtain ⟨e, _⟩ := h; subst e; simp
  | .o ws, _, _, h => by
    unfold Rw at h
    obtain ⟨a, vs, f, e, h1, h2, e2, h3⟩ := h
    subst e2
    intro b hb
    rcases List.mem_cons.mp hb with (z | z)
    · subst z; exact ⟨vs, h1, h2⟩
    · exact Rws.there ws vs f h3 b z
  | .s ns, _, _, h => by unfold Rw at h; obtain ⟨e, _⟩ := h; subst e; simp
theorem Rws.there : ∀ (ws : List Wv) (vs : List V) (fp : List Addr), Rws K H G vs ws fp → ∀ a ∈ fp, ∃ vs, H a = some (.lst vs) ∧ G a = none
  | [], _, _, h => by unfold Rws at h; obtain ⟨_, e⟩ := h; subst e; simp
  | w :: ws, _, _, h => by
    unfold Rws at h
    obtain ⟨v, r, f, g, e, e2, h1, h2⟩ := h
    subst e2
    intro b hb
    rcases List.mem_append.mp hb with z | z
    · exact Rw.there w v f h1 b z
    · exact Rws.there ws r g h2 b z
end
mutual
theorem Rw.move (hs : Same G G') : ∀ (w : Wv) (v : V) (fp : List Addr), Rw K H G v w fp → (∀ a ∈ fp, H' a = H a ∧ G' a = none) → Rw K H' G' v w fp
  | .d x, v, _, h, _ => by unfold Rw at *; exact ⟨h.1, Dr.mono hs x v h.2⟩
  | .o ws, _, _, h, k => by
    unfold Rw at *
    obtain ⟨a, vs, f, e, h1, h2, e2, h3⟩ := h
    subst e2
    obtain ⟨k1, k2⟩ := k a List.mem_cons_self
    exact ⟨a, vs, f, e, k1.trans h1, k2, rfl, Rws.move hs ws vs f h3 fun b hb => k b (List.mem_cons_of_mem _ hb)⟩
  | .s ns, v, _, h, _ => by
    unfold Rw at *
    obtain ⟨e, a, e2, q⟩ := h
    exact ⟨e, a, e2, hs.seq q⟩
theorem Rws.move (hs : Same G G') : ∀ (ws : List Wv) (vs : List V) (fp : List Addr), Rws K H G vs ws fp → (∀ a ∈ fp, H' a = H a ∧ G' a = none) → Rws K H' G' vs ws fp
  | [], _, _, h, _ => by unfold Rws at *; exact h
  | w :: ws, _, _, h, k => by
    unfold Rws at *
    obtain ⟨v, r, f, g, e, e2, h1, h2⟩ := h
    subst e2
    exact ⟨v, r, f, g, e, rfl, Rw.move hs w v f h1 fun b hb => k b (List.mem_append_left _ hb), Rws.move hs ws r g h2 fun b hb => k b (List.mem_append_right _ hb)⟩
end
mutual
/-- may be frozen: the script is not within -/
def Wv.nos : Wv → Bool
  | .d _ => true
  | .o ws => Wv.noss ws
  | .s _ => false
def Wv.noss : List Wv → Bool
  | [] => true
  | w :: ws => w.nos && Wv.noss ws
end
mutual
theorem Rw.frz (hs : Same G G') : ∀ (w : Wv) (v : V) (fp : List Addr), w.nos = true → Rw K H G v w fp → (∀ a ∈ fp, G' a = H a) → Dr K G' v w.dat
  | .d x, v, _, _, h, _ => by unfold Rw at h; exact Dr.mono hs x v h.2
  | .s _, _, _, n, _, _ => by unfold Wv.nos at n; cases n
  | .o ws, _, _, n, h, k => by
    unfold Wv.nos at n
    unfold Rw at h
    obtain ⟨a, vs, f, e, h1, h2, e2, h3⟩ := h
    subst e2
    show Dr K G' _ (.list (Wv.dats ws))
    unfold Dr
    exact ⟨a, vs, e, (k a List.mem_cons_self).trans h1, Rws.frz hs ws vs f n h3 fun b hb => k b (List.mem_cons_of_mem _ hb)⟩
theorem Rws.frz (hs : Same G G') : ∀ (ws : List Wv) (vs : List V) (fp : List Addr), Wv.noss ws = true → Rws K H G vs ws fp → (∀ a ∈ fp, G' a = H a) → Drs K G' vs (Wv.dats ws)
  | [], _, _, _, h, _ => by unfold Rws at h; unfold Wv.dats Drs; exact h.1
  | w :: ws, _, _, n, h, k => by
    unfold Rws at h
    unfold Wv.noss at n
    rw [Bool.and_eq_true] at n
    obtain ⟨v, r, f, g, e, e2, h1, h2⟩ := h
    subst e2
    unfold Wv.dats Drs
    exact ⟨v, r, e, Rw.frz hs w v f n.1 h1 fun b hb => k b (List.mem_append_left _ hb), Rws.frz hs ws r g n.2 h2 fun b hb => k b (List.mem_append_right _ hb)⟩
end
/-- data in a list -/
theorem Rws.of_drs : ∀ {ds : List D} {vs : List V}, Drs K G vs ds → Rws K H G vs (ds.map .d) []
  | [], _, h => by unfold Drs at h; subst h; unfold List.map Rws; exact ⟨rfl, rfl⟩
  | d :: ds, _, h => by
    unfold Drs at h
    obtain ⟨v, r, e, p, q⟩ := h
    unfold List.map Rws
    exact ⟨v, r, [], [], e, rfl, by unfold Rw; exact ⟨rfl, p⟩, Rws.of_drs q⟩
theorem Rws.append : ∀ {ws us : List Wv} {vs xs : List V} {f g : List Addr}, Rws K H G vs ws f → Rws K H G xs us g → Rws K H G (vs ++ xs) (ws ++ us) (f ++ g)
  | [], _, _, _, _, _, h, q => by unfold Rws at h; obtain ⟨e, e2⟩ := h; subst e e2; exact q
  | w :: ws, us, _, xs, _, g', h, q => by
    unfold Rws at h
    obtain ⟨v, r, f, g, e, e2, h1, h2⟩ := h
    subst e e2
    show Rws K H G (v :: (r ++ xs)) (w :: (ws ++ us)) (f ++ g ++ g')
    unfold Rws
    exact ⟨v, r ++ xs, f, g ++ g', rfl, by rw [List.append_assoc], h1, Rws.append h2 q⟩
theorem Rws.length : ∀ {ws : List Wv} {vs : List V} {f : List Addr}, Rws K H G vs ws f → vs.length = ws.length
  | [], _, _, h => by unfold Rws at h; rw [h.1]; rfl
  | w :: ws, _, _, h => by
    unfold Rws at h
    obtain ⟨v, r, f, g, e, e2, h1, h2⟩ := h
    subst e
    simp [Rws.length h2]
end
theorem Wv.dats_map : ∀ ws : List Wv, Wv.dats ws = ws.map Wv.dat
  | [] => rfl
  | w :: ws => by unfold Wv.dats; rw [Wv.dats_map ws]; rfl
theorem Wv.dats_d : ∀ ds : List D, Wv.dats (ds.map .d) = ds
  | [] => rfl
  | x :: xs => by unfold List.map Wv.dats; rw [Wv.dats_d xs]; rfl
theorem Wv.dat_d (d : D) : (Wv.d d).dat = d := by unfold Wv.dat; rfl
theorem Wv.dat_o (ws : List Wv) : (Wv.o ws).dat = .list (ws.map Wv.dat) := by unfold Wv.dat; rw [Wv.dats_map]

/-! ## steps from heap to heap -/
abbrev Fp := Nat → List Addr
def Own (fp : Fp) (a : Addr) : Prop := ∃ i, a ∈ fp i
structure Ext (P : Addr → Prop) (H G H' G' : Hp) : Prop where
  sg : Same G G'
  oth : ∀ a o, H a = some o → G a = none → ¬ P a → H' a = some o ∧ G' a = none
  dom : ∀ a, H' a = none → H a = none
theorem Ext.refl {P : Addr → Prop} {H G : Hp} : Ext P H G H G := ⟨Same.refl _, fun _ _ h g _ => ⟨h, g⟩, fun _ h => h⟩
theorem Ext.trans {P P1 : Addr → Prop} {H G H1 G1 H2 G2 : Hp} (x : Ext P H G H1 G1) (y : Ext P1 H1 G1 H2 G2) (s1 : Same G1 H1) (n : ∀ a, P1 a → P a ∨ H a = none) : Ext P H G H2 G2 := by
  refine ⟨x.sg.trans y.sg, fun a o h g np => ?_, fun a h => x.dom a (y.dom a h)⟩
  obtain ⟨h1, g1⟩ := x.oth a o h g np
  refine y.oth a o h1 g1 fun p1 => ?_
  rcases n a p1 with z | z
  · exact np z
  · rw [h] at z; cases z
structure Step (fp : Fp) (H G : Hp) (fp' : Fp) (H' G' : Hp) : Prop where
  x : Ext (Own fp) H G H' G'
  nw : ∀ a, Own fp' a → Own fp a ∨ H a = none
theorem Step.refl {fp : Fp} {H G : Hp} : Step fp H G fp H G := ⟨.refl, fun _ h => .inl h⟩
theorem Step.trans {fp fp1 fp2 : Fp} {H G H1 G1 H2 G2 : Hp} (a : Step fp H G fp1 H1 G1) (b : Step fp1 H1 G1 fp2 H2 G2) (s1 : Same G1 H1) : Step fp H G fp2 H2 G2 := by
  refine ⟨a.x.trans b.x s1 a.nw, fun c h => ?_⟩
  rcases b.nw c h with z | z
  · exact a.nw c z
  · exact .inr (a.x.dom c z)

abbrev Rho := List (Option Wv)
structure Cfg (K : Frg) (H G : Hp) (σ : St) (ρ : Rho) (fp : Fp) : Prop where
  sg : Same G H
  len : σ.length = ρ.length
  get : ∀ i w, ρ[i]? = some (some w) → ∃ v, σ[i]? = some (some v) ∧ Rw K H G v w (fp i)
  nil : ∀ i, (∀ w, ρ[i]? ≠ some (some w)) → fp i = []
  nd : ∀ i, (fp i).Nodup
  dis : ∀ i j a, a ∈ fp i → a ∈ fp j → i = j
section
variable {K : Frg} {H G H' G' : Hp} {σ : St} {ρ : Rho} {fp : Fp}
theorem Cfg.own (c : Cfg K H G σ ρ fp) {a : Addr} (h : Own fp a) : ∃ vs, H a = some (.lst vs) ∧ G a = none := by
  obtain ⟨i, hi⟩ := h
  by_cases e : ∃ w, ρ[i]? = some (some w)
  · obtain ⟨w, e⟩ := e
    obtain ⟨v, _, r⟩ := c.get i w e
    exact Rw.there w v _ r a hi
  · rw [c.nil i fun w q => e ⟨w, q⟩] at hi
    cases hi
/-- the heaps changed elsewhere -/
theorem Cfg.grow (c : Cfg K H G σ ρ fp) (sg' : Same G' H') (hs : Same G G') (k : ∀ a, Own fp a → H' a = H a ∧ G' a = none) : Cfg K H' G' σ ρ fp :=
  ⟨sg', c.len, fun i w e => let ⟨v, e1, r⟩ := c.get i w e; ⟨v, e1, Rw.move hs w v _ r fun a ha => k a ⟨i, ha⟩⟩, c.nil, c.nd, c.dis⟩
theorem Cfg.ext {P : Addr → Prop} (c : Cfg K H G σ ρ fp) (x : Ext P H G H' G') (sg' : Same G' H') (n : ∀ a, Own fp a → ¬ P a) : Cfg K H' G' σ ρ fp :=
  c.grow sg' x.sg fun a h => by
    obtain ⟨vs, h1, h2⟩ := c.own h
    obtain ⟨h3, h4⟩ := x.oth a _ h1 h2 (n a h)
    exact ⟨h3.trans h1.symm, h4⟩
/-- a new object -/
theorem Cfg.new (c : Cfg K H G σ ρ fp) {p : Addr} {o : HO} (hp : H p = none) : Cfg K (upd H p o) G σ ρ fp := by
  have ne : ∀ a u, H a = some u → a ≠ p := fun a u h e => by rw [e, hp] at h; cases h
  refine c.grow (fun a u h => ?_) (Same.refl _) fun a h => ?_
  · have q := c.sg a u h
    rw [upd_ne (ne a u q)]; exact q
  · obtain ⟨vs, h1, h2⟩ := c.own h
    exact ⟨upd_ne (ne a _ h1), h2⟩
theorem Ext.new {P : Addr → Prop} {p : Addr} {o : HO} (hp : H p = none) : Ext P H G (upd H p o) G := by
  have ne : ∀ a u, H a = some u → a ≠ p := fun a u h e => by rw [e, hp] at h; cases h
  refine ⟨Same.refl _, fun a u h g _ => ⟨by rw [upd_ne (ne a u h)]; exact h, g⟩, fun a h => ?_⟩
  by_cases e : a = p
  · rw [e]; exact hp
  · rw [upd_ne e] at h; exact h
theorem Step.new {p : Addr} {o : HO} (hp : H p = none) : Step fp H G fp (upd H p o) G := ⟨.new hp, fun _ h => .inl h⟩
/-- freezing what stands at f -/
def frzG (H G : Hp) (f : List Addr) : Hp := fun a => if a ∈ f then H a else G a
theorem frzG_in {f : List Addr} {a : Addr} (h : a ∈ f) : frzG H G f a = H a := by unfold frzG; rw [if_pos h]
theorem frzG_out {f : List Addr} {a : Addr} (h : a ∉ f) : frzG H G f a = G a := by unfold frzG; rw [if_neg h]
theorem frzG_le {f : List Addr} (sg : Same G H) : Same (frzG H G f) H := fun a o h => by
  by_cases e : a ∈ f
  · rw [frzG_in e] at h; exact h
  · rw [frzG_out e] at h; exact sg a o h
theorem frzG_ge {f : List Addr} (sg : Same G H) : Same G (frzG H G f) := fun a o h => by
  by_cases e : a ∈ f
  · rw [frzG_in e]; exact sg a o h
  · rw [frzG_out e]; exact h
theorem Cfg.frz (c : Cfg K H G σ ρ fp) {f : List Addr} (n : ∀ a ∈ f, ¬ Own fp a) : Cfg K H (frzG H G f) σ ρ fp :=
  c.grow (frzG_le c.sg) (frzG_ge c.sg) fun a h => ⟨rfl, by rw [frzG_out fun q => n a q h]; obtain ⟨_, _, q⟩ := c.own h; exact q⟩
theorem Ext.frz {P : Addr → Prop} {f : List Addr} (sg : Same G H) (n : ∀ a ∈ f, P a) : Ext P H G H (frzG H G f) :=
  ⟨frzG_ge sg, fun a o h g np => ⟨h, by rw [frzG_out fun q => np (n a q)]; exact g⟩, fun _ h => h⟩
end
end FW

set_option Elab.async false
set_option linter.all false
set_option maxRecDepth 100000
set_option maxHeartbeats 1000001
namespace FW
open PySem PySem.Spec L2

/-! ## outcomes -/
structure Xn where
  cls : Str
  pay : Option (Str × D)
inductive Out (α : Type) where
  | ok (a : α) (r : Rho)
  | exc (x : Xn) (r : Rho)
  | bad
def Out.bind {α β : Type} (o : Out α) (k : α → Rho → Out β) : Out β := match o with
  | .ok a r => k a r
  | .exc x r => .exc x r
  | .bad => .bad
@[simp] theorem Out.bind_ok {α β : Type} (a : α) (r : Rho) (k : α → Rho → Out β) : (Out.ok a r).bind k = k a r := rfl
@[simp] theorem Out.bind_exc {α β : Type} (x : Xn) (r : Rho) (k : α → Rho → Out β) : (Out.exc x r).bind k = .exc x r := rfl
@[simp] theorem Out.bind_bad {α β : Type} (k : α → Rho → Out β) : (Out.bad : Out α).bind k = .bad := rfl
def ResO {α : Type} (pok : α → Rho → Prop) (pex : Xn → Rho → Prop) : Out α → Prop
  | .ok a r => pok a r
  | .exc x r => pex x r
  | .bad => False
theorem ResO.bind {α β : Type} {pok : β → Rho → Prop} {pex : Xn → Rho → Prop} {k : α → Rho → Out β} : ∀ {o : Out α}, ResO pok pex (o.bind k) → ResO (fun a r => ResO pok pex (k a r)) pex o
  | .ok _ _, h => h
  | .exc _ _, h => h
  | .bad, h => h
theorem ResO.imp {α : Type} {pok pok' : α → Rho → Prop} {pex pex' : Xn → Rho → Prop} (f : ∀ a r, pok a r → pok' a r) (g : ∀ x r, pex x r → pex' x r) : ∀ {o : Out α}, ResO pok pex o → ResO pok' pex' o
  | .ok _ _, h => f _ _ h
  | .exc _ _, h => g _ _ h
  | .bad, h => h
/-- frozen -/
def fz (o : Out Wv) : Out D := o.bind fun w r => if w.nos = true then .ok w.dat r else .bad
/-- a primitive's answer -/
def ofO {α : Type} (o : Option α) (r : Rho) : Out α := match o with
  | some a => .ok a r
  | none => .bad
@[simp] theorem ofO_some {α : Type} (a : α) (r : Rho) : ofO (some a) r = .ok a r := rfl
@[simp] theorem ofO_none {α : Type} (r : Rho) : ofO (none : Option α) r = .bad := rfl

abbrev ES := Rho → Out Wv
abbrev Mg := Str → Option Value
/-- the exception x, as it flies -/
def XRep (K : Frg) (mg : Mg) (G H : Hp) (x : Xn) (cls : Value) (dd : Option Addr) : Prop :=
  ∃ C, mg x.cls = some (.ref C) ∧ cls = .ref C ∧ ∀ f d, x.pay = some (f, d) → ∃ a v, dd = some a ∧ H a = some (.xd [(f, v)]) ∧ Dr K G v d
structure PV (K : Frg) (H G : Hp) (fp : Fp) (σ : St) (ρ' : Rho) (v : V) (w : Wv) (H' G' : Hp) (fp' : Fp) (fv : List Addr) : Prop where
  c : Cfg K H' G' σ ρ' fp'
  st : Step fp H G fp' H' G'
  r : Rw K H' G' v w fv
  nd : fv.Nodup
  sep : ∀ a ∈ fv, ¬ Own fp' a
  nwv : ∀ a ∈ fv, Own fp a ∨ H a = none
def ResX (K : Frg) (mg : Mg) (E : WX) (H G : Hp) (fp : Fp) (σ : St) (x : Xn) (ρ' : Rho) : Prop :=
  ∀ cls dd H' G' fp', Cfg K H' G' σ ρ' fp' → Step fp H G fp' H' G' → XRep K mg G' H' x cls dd → E cls dd σ H'
abbrev ResE (K : Frg) (mg : Mg) (E : WX) (H G : Hp) (fp : Fp) (σ : St) (Q : VK) (o : Out Wv) : Prop :=
  ResO (fun w ρ' => ∀ v H' G' fp' fv, PV K H G fp σ ρ' v w H' G' fp' fv → Q v H') (ResX K mg E H G fp σ) o
abbrev ResD (K : Frg) (mg : Mg) (E : WX) (H G : Hp) (fp : Fp) (σ : St) (Q : VK) (o : Out D) : Prop :=
  ResO (fun d ρ' => ∀ v H' G' fp', Cfg K H' G' σ ρ' fp' → Step fp H G fp' H' G' → Dr K G' v d → Q v H') (ResX K mg E H G fp σ) o
abbrev ResT (K : Frg) (mg : Mg) (E : WX) (H G : Hp) (fp : Fp) (σ : St) (Q : Bool → Hp → Prop) (o : Out Bool) : Prop :=
  ResO (fun b ρ' => ∀ H' G' fp', Cfg K H' G' σ ρ' fp' → Step fp H G fp' H' G' → Q b H') (ResX K mg E H G fp σ) o
abbrev ResA (K : Frg) (mg : Mg) (E : WX) (H G : Hp) (fp : Fp) (σ : St) (Q : List V → Hp → Prop) (o : Out (List D)) : Prop :=
  ResO (fun ds ρ' => ∀ vs H' G' fp', Cfg K H' G' σ ρ' fp' → Step fp H G fp' H' G' → Drs K G' vs ds → Q vs H') (ResX K mg E H G fp σ) o
section
variable {K : Frg} {mg : Mg} {E : WX} {H G H1 G1 : Hp} {fp fp1 : Fp} {σ : St} {ρ : Rho}
theorem PV.rebase {ρ' : Rho} {v : V} {w : Wv} {H' G' : Hp} {fp' : Fp} {fv : List Addr} (s : Step fp H G fp1 H1 G1) (sg : Same G1 H1) (p : PV K H1 G1 fp1 σ ρ' v w H' G' fp' fv) : PV K H G fp σ ρ' v w H' G' fp' fv :=
  ⟨p.c, s.trans p.st sg, p.r, p.nd, p.sep, fun a h => (p.nwv a h).elim (s.nw a) fun z => .inr (s.x.dom a z)⟩
theorem ResX.rebase (s : Step fp H G fp1 H1 G1) (sg : Same G1 H1) {x : Xn} {r : Rho} (h : ResX K mg E H G fp σ x r) : ResX K mg E H1 G1 fp1 σ x r :=
  fun cls dd H' G' fp' c s' xr => h cls dd H' G' fp' c (s.trans s' sg) xr
theorem ResE.rebase (s : Step fp H G fp1 H1 G1) (sg : Same G1 H1) {Q : VK} {o : Out Wv} (h : ResE K mg E H G fp σ Q o) : ResE K mg E H1 G1 fp1 σ Q o :=
  ResO.imp (fun _ _ q v H' G' fp' fv p => q v H' G' fp' fv (p.rebase s sg)) (fun _ _ q => ResX.rebase s sg q) h
theorem ResT.rebase (s : Step fp H G fp1 H1 G1) (sg : Same G1 H1) {Q : Bool → Hp → Prop} {o : Out Bool} (h : ResT K mg E H G fp σ Q o) : ResT K mg E H1 G1 fp1 σ Q o :=
  ResO.imp (fun _ _ q H' G' fp' c s' => q H' G' fp' c (s.trans s' sg)) (fun _ _ q => ResX.rebase s sg q) h
theorem ResA.rebase (s : Step fp H G fp1 H1 G1) (sg : Same G1 H1) {Q : List V → Hp → Prop} {o : Out (List D)} (h : ResA K mg E H G fp σ Q o) : ResA K mg E H1 G1 fp1 σ Q o :=
  ResO.imp (fun _ _ q vs H' G' fp' c s' => q vs H' G' fp' c (s.trans s' sg)) (fun _ _ q => ResX.rebase s sg q) h
theorem ResD.rebase (s : Step fp H G fp1 H1 G1) (sg : Same G1 H1) {Q : VK} {o : Out D} (h : ResD K mg E H G fp σ Q o) : ResD K mg E H1 G1 fp1 σ Q o :=
  ResO.imp (fun _ _ q vs H' G' fp' c s' => q vs H' G' fp' c (s.trans s' sg)) (fun _ _ q => ResX.rebase s sg q) h
/-- a value is frozen -/
theorem PV.frz {ρ' : Rho} {v : V} {w : Wv} {H' G' : Hp} {fp' : Fp} {fv : List Addr} (n : w.nos = true) (p : PV K H G fp σ ρ' v w H' G' fp' fv) :
    ∃ G2, Cfg K H' G2 σ ρ' fp' ∧ Step fp H G fp' H' G2 ∧ Dr K G2 v w.dat := by
  refine ⟨frzG H' G' fv, p.c.frz p.sep, ⟨⟨p.st.x.sg.trans (frzG_ge p.c.sg), fun a o h g np => ?_, p.st.x.dom⟩, p.st.nw⟩, Rw.frz (frzG_ge p.c.sg) w v fv n p.r fun a h => frzG_in h⟩
  obtain ⟨h1, g1⟩ := p.st.x.oth a o h g np
  refine ⟨h1, ?_⟩
  rw [frzG_out fun q => ?_]
  · exact g1
  · rcases p.nwv a q with z | z
    · exact np z
    · rw [h] at z; cases z
theorem ResE.frz {Q : VK} {o : Out Wv} (h : ResD K mg E H G fp σ Q (fz o)) : ResE K mg E H G fp σ Q o := by
  cases o with
  | bad => exact h
  | exc x r => exact h
  | ok w r =>
    intro v H' G' fp' fv p
    by_cases n : w.nos = true
    · have h' : ResD K mg E H G fp σ Q (.ok w.dat r) := by
        have e : fz (.ok w r) = .ok w.dat r := if_pos n
        rw [← e]; exact h
      obtain ⟨G2, c, s, d⟩ := p.frz n
      exact h' v H' G2 fp' c s d
    · have e : fz (.ok w r) = .bad := if_neg n
      rw [e] at h
      exact h.elim
/-- one part, then the rest -/
theorem seqD {α : Type} {pok : α → Rho → Prop} {o : Out D} {k : D → Rho → Out α} {R : VK} (h : ResO pok (ResX K mg E H G fp σ) (o.bind k))
    (f : ∀ d ρ' v H' G' fp', Cfg K H' G' σ ρ' fp' → Step fp H G fp' H' G' → Dr K G' v d → ResO pok (ResX K mg E H G fp σ) (k d ρ') → R v H') : ResD K mg E H G fp σ R o :=
  ResO.imp (fun d ρ' q v H' G' fp' c s dr => f d ρ' v H' G' fp' c s dr q) (fun _ _ q => q) (ResO.bind h)
theorem seqA {α : Type} {pok : α → Rho → Prop} {o : Out (List D)} {k : List D → Rho → Out α} {R : List V → Hp → Prop} (h : ResO pok (ResX K mg E H G fp σ) (o.bind k))
    (f : ∀ ds ρ' vs H' G' fp', Cfg K H' G' σ ρ' fp' → Step fp H G fp' H' G' → Drs K G' vs ds → ResO pok (ResX K mg E H G fp σ) (k ds ρ') → R vs H') : ResA K mg E H G fp σ R o :=
  ResO.imp (fun d ρ' q v H' G' fp' c s dr => f d ρ' v H' G' fp' c s dr q) (fun _ _ q => q) (ResO.bind h)
theorem seqT {α : Type} {pok : α → Rho → Prop} {o : Out Bool} {k : Bool → Rho → Out α} {R : Bool → Hp → Prop} (h : ResO pok (ResX K mg E H G fp σ) (o.bind k))
    (f : ∀ b ρ' H' G' fp', Cfg K H' G' σ ρ' fp' → Step fp H G fp' H' G' → ResO pok (ResX K mg E H G fp σ) (k b ρ') → R b H') : ResT K mg E H G fp σ R o :=
  ResO.imp (fun d ρ' q H' G' fp' c s => f d ρ' H' G' fp' c s q) (fun _ _ q => q) (ResO.bind h)
/-- the ends -/
theorem ResE.val {Q : VK} {v : V} {d : D} (c : Cfg K H G σ ρ fp) (dr : Dr K G v d) (h : ResE K mg E H G fp σ Q (.ok (.d d) ρ)) : Q v H :=
  h v H G fp [] ⟨c, .refl, by unfold Rw; exact ⟨rfl, dr⟩, List.nodup_nil, (fun _ z => nomatch z), (fun _ z => nomatch z)⟩
theorem ResE.tup {Q : VK} {vs : List V} {ds : List D} (c : Cfg K H G σ ρ fp) (dr : Drs K G vs ds) (h : ResE K mg E H G fp σ Q (.ok (.d (.tuple ds)) ρ)) (p : Addr) (hp : H p = none) : Q (.ref p) (upd H p (.tup vs)) := by
  have gp : G p = none := by
    cases e : G p with
    | none => rfl
    | some o => rw [c.sg p o e] at hp; cases hp
  have ne : ∀ a u, H a = some u → a ≠ p := fun a u h e => by rw [e, hp] at h; cases h
  have sg1 : Same G (upd G p (.tup vs)) := fun a u q => by rw [upd_ne (ne a u (c.sg a u q))]; exact q
  refine h (.ref p) (upd H p (.tup vs)) (upd G p (.tup vs)) fp [] ⟨c.grow (fun a u q => ?_) sg1 fun a q => ?_, ⟨⟨sg1, fun a u q g _ => ?_, fun a q => ?_⟩, fun _ z => .inl z⟩, ?_, List.nodup_nil, (fun _ z => nomatch z), (fun _ z => nomatch z)⟩
  · by_cases e : a = p
    · subst e; rw [upd_same] at q ⊢; exact q
    · rw [upd_ne e] at q ⊢; exact c.sg a u q
  · obtain ⟨ws, h1, h2⟩ := c.own q
    have e := ne a _ h1
    rw [upd_ne e, upd_ne e]
    exact ⟨rfl, h2⟩
  · have e := ne a u q
    rw [upd_ne e, upd_ne e]
    exact ⟨q, g⟩
  · by_cases e : a = p
    · rw [e]; exact hp
    · rw [upd_ne e] at q; exact q
  · unfold Rw
    refine ⟨rfl, ?_⟩
    unfold Dr
    exact ⟨p, vs, rfl, .inl (.inl upd_same), Drs.mono sg1 ds vs dr⟩
theorem ResE.lstW {Q : VK} {vs : List V} {ws : List Wv} {f : List Addr} (c : Cfg K H G σ ρ fp) (dr : Rws K H G vs ws f) (nd : f.Nodup) (sep : ∀ a ∈ f, ¬ Own fp a) (h : ∀ v H' G' fp' fv, Cfg K H' G' σ ρ fp' → Step fp H G fp' H' G' → Rw K H' G' v (.o ws) fv → fv.Nodup → (∀ a ∈ fv, ¬ Own fp' a) → (∀ a ∈ fv, a ∈ f ∨ H a = none) → Q v H') (p : Addr) (hp : H p = none) : Q (.ref p) (upd H p (.lst vs)) := by
  have gp : G p = none := by
    cases e : G p with
    | none => rfl
    | some o => rw [c.sg p o e] at hp; cases hp
  have pf : p ∉ f := fun q => by
    obtain ⟨_, z, _⟩ := Rws.there ws vs f dr p q
    rw [hp] at z; cases z
  refine h (.ref p) _ G fp (p :: f) (c.new hp) (.new hp) ?_ (List.nodup_cons.mpr ⟨pf, nd⟩) (fun a ha => ?_) fun a ha => ?_
  · unfold Rw
    refine ⟨p, vs, f, rfl, upd_same, gp, rfl, Rws.move (Same.refl _) ws vs f dr fun a ha => ?_⟩
    obtain ⟨_, _, g⟩ := Rws.there ws vs f dr a ha
    exact ⟨upd_ne fun e => pf (e ▸ ha), g⟩
  · rcases List.mem_cons.mp ha with e | e
    · subst e
      intro q
      obtain ⟨_, z, _⟩ := c.own q
      rw [hp] at z; cases z
    · exact sep a e
  · rcases List.mem_cons.mp ha with e | e
    · subst e; exact .inr hp
    · exact .inl e
theorem ResE.lst {Q : VK} {vs : List V} {ds : List D} (c : Cfg K H G σ ρ fp) (dr : Drs K G vs ds) (h : ResE K mg E H G fp σ Q (.ok (.o (ds.map .d)) ρ)) (p : Addr) (hp : H p = none) : Q (.ref p) (upd H p (.lst vs)) :=
  ResE.lstW c (Rws.of_drs dr) List.nodup_nil (fun _ z => nomatch z) (fun v H' G' fp' fv c' s' r' nd' sep' nw' => h v H' G' fp' fv ⟨c', s', r', nd', sep', fun a ha => (nw' a ha).elim (fun z => nomatch z) .inr⟩) p hp
end

/-! ## readings -/
def tS (K : Frg) (mg : Mg) (E : WX) (f : ES) : TE := fun σ H Q => ∃ G ρ fp, Cfg K H G σ ρ fp ∧ ResE K mg E H G fp σ Q (f ρ)
def tD (K : Frg) (mg : Mg) (E : WX) (f : ES) : TE := fun σ H Q => ∃ G ρ fp, Cfg K H G σ ρ fp ∧ ResD K mg E H G fp σ Q (fz (f ρ))
def tT (K : Frg) (mg : Mg) (E : WX) (f : Rho → Out Bool) : TT := fun σ H Q => ∃ G ρ fp, Cfg K H G σ ρ fp ∧ ResT K mg E H G fp σ Q (f ρ)
def tA (K : Frg) (mg : Mg) (E : WX) (f : Rho → Out (List D)) : TA := fun σ H Q => ∃ G ρ fp, Cfg K H G σ ρ fp ∧ ResA K mg E H G fp σ Q (f ρ)
theorem pe_sub {X : Cx} {e : Expr} {t t' : TE} (h : PE X e t) (w : ∀ σ H Q, t' σ H Q → t σ H Q) : PE X e t' := ⟨fun pins s σ H Q I q => h.run pins s σ H Q I (w σ H Q q)⟩
theorem pt_sub {X : Cx} {e : Expr} {t t' : TT} (h : PT X e t) (w : ∀ σ H Q, t' σ H Q → t σ H Q) : PT X e t' := ⟨fun pins s σ H Q I q => h.run pins s σ H Q I (w σ H Q q)⟩
theorem pw_sub {X : Cx} {e : Expr} {t t' : TT} (h : PW X e t) (w : ∀ σ H Q, t' σ H Q → t σ H Q) : PW X e t' := ⟨fun wh pins s σ H Q I q => h.run wh pins s σ H Q I (w σ H Q q)⟩
theorem pa_sub {X : Cx} {es : List Expr} {t t' : TA} (h : PA X es t) (w : ∀ σ H Q, t' σ H Q → t σ H Q) : PA X es t' := ⟨fun pos pins s σ H Q I q => h.run pos pins s σ H Q I (w σ H Q q)⟩
theorem ps_sub {X : Cx} {st : Stmt} {t t' : TS} (h : PS X st t) (w : ∀ D σ H, t' D σ H → t D σ H) : PS X st t' := ⟨fun pins s σ H D I q => h.run pins s σ H D I (w D σ H q)⟩
theorem pss_sub {X : Cx} {st : List Stmt} {t t' : TS} (h : PSs X st t) (w : ∀ D σ H, t' D σ H → t D σ H) : PSs X st t' := ⟨fun pins s σ H D I q => h.run pins s σ H D I (w D σ H q)⟩
def SE (X : Cx) (E : WX) (e : Expr) (f : ES) : Prop := PE X e (tS X.K X.mg E f)
def SD (X : Cx) (E : WX) (e : Expr) (f : ES) : Prop := PE X e (tD X.K X.mg E f)
def ST (X : Cx) (E : WX) (e : Expr) (f : Rho → Out Bool) : Prop := PT X e (tT X.K X.mg E f)
def SW (X : Cx) (E : WX) (e : Expr) (f : Rho → Out Bool) : Prop := PW X e (tT X.K X.mg E f)
def SA (X : Cx) (E : WX) (es : List Expr) (f : Rho → Out (List D)) : Prop := PA X es (tA X.K X.mg E f)
section
variable {X : Cx} {E : WX} {e a b c : Expr} {es : List Expr} {f fa fb fc : ES} {fs : Rho → Out (List D)} {pos : Pos}
theorem SE.D (h : SE X E e f) : SD X E e f := pe_sub h fun σ H Q ⟨G, ρ, fp, c, q⟩ => ⟨G, ρ, fp, c, ResE.frz q⟩

/-! ### arguments -/
def aNil : Rho → Out (List D) := fun ρ => .ok [] ρ
def aCons (f : ES) (fs : Rho → Out (List D)) : Rho → Out (List D) := fun ρ => (fz (f ρ)).bind fun d r => (fs r).bind fun ds r => .ok (d :: ds) r
theorem sa_nil : SA X E [] aNil := pa_sub pa_nil fun σ H Q ⟨G, ρ, fp, c, q⟩ => q [] H G fp c .refl Drs.nil
theorem sa_cons (ha : SE X E e f) (hr : SA X E es fs) (hs : starEach (e :: es) X.env = (false, eval e X.env) :: starEach es X.env := by rfl) : SA X E (e :: es) (aCons f fs) :=
  pa_sub (pa_cons ha.D hr hs) fun σ H Q ⟨G, ρ, fp, c, q⟩ => ⟨G, ρ, fp, c, seqD q fun d r v H1 G1 fp1 c1 s1 d1 q1 =>
    ⟨G1, r, fp1, c1, seqA (ResA.rebase s1 c1.sg q1) fun ds r2 vs H2 G2 fp2 c2 s2 d2 q2 => q2 _ _ _ _ c2 s2 (Drs.cons (Dr.mono s2.x.sg d v d1) d2)⟩⟩
end
end FW

set_option Elab.async false
set_option linter.all false
set_option maxRecDepth 100000
set_option maxHeartbeats 1000001
namespace FW
open PySem PySem.Spec L2
section
variable {X : Cx} {E : WX} {e a b c : Expr} {es : List Expr} {f fa fb fc : ES} {fs : Rho → Out (List D)} {pos : Pos}
theorem Dr.int_inv {K : Frg} {G : Hp} {v : V} {i : Int} (h : Dr K G v (.int i)) : v = .int i := by unfold Dr at h; exact h
theorem Dr.bool_inv {K : Frg} {G : Hp} {v : V} {i : Bool} (h : Dr K G v (.bool i)) : v = .bl i := by unfold Dr at h; exact h
theorem Dr.str_inv {K : Frg} {G : Hp} {v : V} {i : Str} (h : Dr K G v (.str i)) : v = .str i := by unfold Dr at h; exact h
theorem Dr.none_inv {K : Frg} {G : Hp} {v : V} (h : Dr K G v .none) : v = .non := by unfold Dr at h; exact h
theorem Dr.tup_inv {K : Frg} {G : Hp} {v : V} {ds : List D} (h : Dr K G v (.tuple ds)) : ∃ a xs, v = .ref a ∧ SqT K G a xs ∧ Drs K G xs ds := by unfold Dr at h; exact h
theorem Dr.lst_inv {K : Frg} {G : Hp} {v : V} {ds : List D} (h : Dr K G v (.list ds)) : ∃ a xs, v = .ref a ∧ G a = some (.lst xs) ∧ Drs K G xs ds := by unfold Dr at h; exact h
theorem Dr.dct_inv {K : Frg} {G : Hp} {v : V} {ds : List (D × D)} (h : Dr K G v (.dict ds)) : ∃ a xs, v = .ref a ∧ G a = some (.dK xs) ∧ Drk K G xs ds := by unfold Dr at h; exact h
theorem Dr.int {K : Frg} {G : Hp} {i : Int} : Dr K G (.int i) (.int i) := by unfold Dr; rfl
theorem Dr.bool {K : Frg} {G : Hp} {i : Bool} : Dr K G (.bl i) (.bool i) := by unfold Dr; rfl
theorem Dr.str {K : Frg} {G : Hp} {i : Str} : Dr K G (.str i) (.str i) := by unfold Dr; rfl
theorem Dr.none {K : Frg} {G : Hp} : Dr K G .non .none := by unfold Dr; rfl
theorem Dr.tup {K : Frg} {G : Hp} {a : Addr} {xs : List V} {ds : List D} (h : SqT K G a xs) (q : Drs K G xs ds) : Dr K G (.ref a) (.tuple ds) := by unfold Dr; exact ⟨a, xs, rfl, h, q⟩
theorem Dr.lst {K : Frg} {G : Hp} {a : Addr} {xs : List V} {ds : List D} (h : G a = some (.lst xs)) (q : Drs K G xs ds) : Dr K G (.ref a) (.list ds) := by unfold Dr; exact ⟨a, xs, rfl, h, q⟩

/-! ## names, constants -/
def sVar (i : Nat) : ES := fun ρ => match ρ[i]? with
  | some (some w) => if w.nos = true then .ok (.d w.dat) (ρ.set i (some (.d w.dat))) else .bad
  | _ => .bad
def upF (fp : Fp) (i : Nat) (f : List Addr) : Fp := fun j => if j = i then f else fp j
theorem upF_same {fp : Fp} {i : Nat} {f : List Addr} : upF fp i f i = f := by unfold upF; rw [if_pos rfl]
theorem upF_ne {fp : Fp} {i j : Nat} {f : List Addr} (h : j ≠ i) : upF fp i f j = fp j := by unfold upF; rw [if_neg h]
theorem Own.up {fp : Fp} {i : Nat} {f : List Addr} {a : Addr} (h : Own (upF fp i f) a) : a ∈ f ∨ ∃ j, j ≠ i ∧ a ∈ fp j := by
  obtain ⟨j, hj⟩ := h
  by_cases e : j = i
  · rw [e, upF_same] at hj; exact .inl hj
  · rw [upF_ne e] at hj; exact .inr ⟨j, e, hj⟩
/-- a slot's new content (or none: forgotten) -/
theorem Cfg.put {K : Frg} {H G : Hp} {σ : St} {ρ : Rho} {fp : Fp} (c : Cfg K H G σ ρ fp) {i : Nat} {x : Option V} {y : Option Wv} {f : List Addr} (r : ∀ w, y = some w → ∃ v, x = some v ∧ Rw K H G v w f) (ny : y = Option.none → f = [])
    (nd : f.Nodup) (sep : ∀ a ∈ f, ∀ j, j ≠ i → a ∉ fp j) (hi : i < ρ.length) :
    Cfg K H G (σ.set i x) (ρ.set i y) (upF fp i f) := by
  have his : i < σ.length := by rw [c.len]; exact hi
  refine ⟨c.sg, by simp [c.len], fun j u e => ?_, fun j n => ?_, fun j => ?_, fun j k a h1 h2 => ?_⟩
  · by_cases e2 : j = i
    · subst e2
      rw [List.getElem?_set_self hi] at e
      obtain ⟨v, e3, q⟩ := r u (Option.some.inj e)
      exact ⟨v, by rw [List.getElem?_set_self his, e3], by rw [upF_same]; exact q⟩
    · rw [List.getElem?_set_ne (Ne.symm e2)] at e
      obtain ⟨v, h1, h2⟩ := c.get j u e
      exact ⟨v, by rw [List.getElem?_set_ne (Ne.symm e2)]; exact h1, by rw [upF_ne e2]; exact h2⟩
  · by_cases e2 : j = i
    · subst e2
      rw [upF_same]
      refine ny ?_
      cases y with
      | none => rfl
      | some w => exact absurd (List.getElem?_set_self hi) (n w)
    · rw [upF_ne e2]
      exact c.nil j fun u z => n u (by rw [List.getElem?_set_ne (Ne.symm e2)]; exact z)
  · by_cases e2 : j = i
    · rw [e2, upF_same]; exact nd
    · rw [upF_ne e2]; exact c.nd j
  · by_cases e2 : j = i <;> by_cases e3 : k = i
    · rw [e2, e3]
    · rw [e2, upF_same] at h1; rw [upF_ne e3] at h2
      exact absurd h2 (sep a h1 k e3)
    · rw [upF_ne e2] at h1; rw [e3, upF_same] at h2
      exact absurd h1 (sep a h2 j e2)
    · rw [upF_ne e2] at h1; rw [upF_ne e3] at h2
      exact c.dis j k a h1 h2
theorem set_same {α : Type} {σ : List α} {i : Nat} {v : α} (h : σ[i]? = some v) : σ.set i v = σ := by
  apply List.ext_getElem?
  intro j
  by_cases e : i = j
  · subst e
    rw [List.getElem?_set_self (List.getElem?_eq_some_iff.mp h).1, h]
  · rw [List.getElem?_set_ne e]
theorem set_set {α : Type} {σ : List α} {i : Nat} {v w : α} : (σ.set i v).set i w = σ.set i w := by
  apply List.ext_getElem?
  intro j
  by_cases e : i = j
  · subst e
    by_cases h : i < σ.length
    · rw [List.getElem?_set_self (by simpa using h), List.getElem?_set_self h]
    · rw [List.getElem?_eq_none (by simpa using h), List.getElem?_eq_none (by simpa using h)]
  · rw [List.getElem?_set_ne e, List.getElem?_set_ne e, List.getElem?_set_ne e]
/-- a slot with frozen data -/
theorem Cfg.putD {K : Frg} {H G : Hp} {σ : St} {ρ : Rho} {fp : Fp} (c : Cfg K H G σ ρ fp) {i : Nat} {v : V} {d : D} (r : Dr K G v d) (hi : i < ρ.length) : Cfg K H G (σ.set i (some v)) (ρ.set i (some (.d d))) (upF fp i []) :=
  c.put (fun w e => ⟨v, rfl, by cases e; unfold Rw; exact ⟨rfl, r⟩⟩) (fun e => nomatch e) List.nodup_nil (fun _ z => nomatch z) hi
theorem Step.less {fp : Fp} {H G : Hp} {i : Nat} : Step fp H G (upF fp i []) H G := ⟨.refl, fun a h => by
  rcases h.up with z | ⟨j, _, z⟩
  · cases z
  · exact .inl ⟨j, z⟩⟩
/-- freeze a slot -/
theorem Cfg.frzAt {K : Frg} {H G : Hp} {σ : St} {ρ : Rho} {fp : Fp} (c : Cfg K H G σ ρ fp) {i : Nat} {w : Wv} (e : ρ[i]? = some (some w)) (n : w.nos = true) :
    ∃ v G' fp', σ[i]? = some (some v) ∧ Cfg K H G' σ (ρ.set i (some (.d w.dat))) fp' ∧ Step fp H G fp' H G' ∧ Dr K G' v w.dat := by
  obtain ⟨v, e1, r⟩ := c.get i w e
  have hi : i < ρ.length := (List.getElem?_eq_some_iff.mp e).1
  have c1 : Cfg K H G (σ.set i (some v)) (ρ.set i Option.none) (upF fp i []) := c.put (fun w e => nomatch e) (fun _ => rfl) List.nodup_nil (fun _ z => nomatch z) hi
  rw [set_same e1] at c1
  have nown : ∀ a ∈ fp i, ¬ Own (upF fp i []) a := fun a ha h => by
    rcases h.up with z | ⟨j, hj, z⟩
    · cases z
    · exact hj (c.dis j i a z ha)
  have c2 := c1.frz nown
  have dr : Dr K (frzG H G (fp i)) v w.dat := Rw.frz (frzG_ge c.sg) w v _ n r fun a h => frzG_in h
  have c3 := c2.putD (i := i) dr (by simpa using hi)
  rw [set_set, set_same e1] at c3
  refine ⟨v, _, _, e1, c3, ⟨.frz c.sg fun a h => ⟨i, h⟩, fun a h => ?_⟩, dr⟩
  rcases h.up with z | ⟨j, hj, z⟩
  · cases z
  · rw [upF_ne hj] at z; exact .inl ⟨j, z⟩
theorem se_var (i : Nat) {x : Str} {pos : Pos} (hN : X.N[i]? = some x := by rfl) (hv : Vis X.env.scope x := by first | exact Or.inl rfl | exact Or.inr (Or.inl rfl) | exact Or.inr (Or.inr rfl)) (hd : (x == ("__debug__" : Str)) = false := by decide)
    (hcd : (x == ("__classdict__" : Str)) = false := by decide) : SE X E (.Name x pos) (sVar i) :=
  pe_sub (pe_var hN hv hd hcd) fun σ H Q ⟨G, ρ, fp, c, q⟩ => by
    unfold sVar at q
    split at q
    · rename_i w e
      by_cases n : w.nos = true
      · rw [if_pos n] at q
        obtain ⟨v, G', fp', e1, c', s', dr⟩ := c.frzAt e n
        exact ⟨v, e1, ResE.val c' dr (ResE.rebase s' c'.sg q)⟩
      · rw [if_neg n] at q; exact q.elim
    · exact q.elim
def sK (d : D) : ES := fun ρ => .ok (.d d) ρ
theorem se_k {v : V} {d : D} (h : PE X e (tC v)) (dr : ∀ G, Dr X.K G v d) : SE X E e (sK d) := pe_sub h fun σ H Q ⟨G, ρ, fp, c, q⟩ => ResE.val c (dr G) q
theorem se_int {i : Int} {j : Nat} : SE X E (.Constant (.int i) j pos) (sK (.int i)) := se_k pe_int fun _ => Dr.int
theorem se_bl {b : Bool} {j : Nat} : SE X E (.Constant (.bool b) j pos) (sK (.bool b)) := se_k pe_bl fun _ => Dr.bool
theorem se_str {b : Str} {j : Nat} : SE X E (.Constant (.str b) j pos) (sK (.str b)) := se_k pe_str fun _ => Dr.str
theorem se_non {j : Nat} : SE X E (.Constant .none j pos) (sK .none) := se_k pe_non fun _ => Dr.none
/-- a module's constant -/
theorem se_glob {x : Str} {v : V} {u : Value} {d : D} (hm : X.mg x = some u) (r : RelV v u) (dr : ∀ G, Dr X.K G v d) (hg : Gl X x := by rfl) (hd : (x == ("__debug__" : Str)) = false := by decide) : SE X E (.Name x pos) (sK d) := se_k (pe_glob hg hm r hd) dr

/-! ## two operands -/
def sBin (p : D → D → Option Wv) (fa fb : ES) : ES := fun ρ => (fz (fa ρ)).bind fun x r => (fz (fb r)).bind fun y r => ofO (p x y) r
def rP (K : Frg) (mg : Mg) (E : WX) (p : D → D → Option Wv) : R2 := fun x y H Q => ∃ G ρ fp σ d1 d2, Cfg K H G σ ρ fp ∧ Dr K G x d1 ∧ Dr K G y d2 ∧ ResE K mg E H G fp σ Q (ofO (p d1 d2) ρ)
theorem seqDD {K : Frg} {mg : Mg} {k : D → D → Rho → Out Wv} {σ : St} {H : Hp} {Q : VK} {R : V → V → Hp → Prop} (h : tS K mg E (fun ρ => (fz (fa ρ)).bind fun x r => (fz (fb r)).bind fun y r => k x y r) σ H Q)
    (w : ∀ x y H2 G2 fp2 ρ2 d1 d2, Cfg K H2 G2 σ ρ2 fp2 → Dr K G2 x d1 → Dr K G2 y d2 → ResE K mg E H2 G2 fp2 σ Q (k d1 d2 ρ2) → R x y H2) :
    tD K mg E fa σ H fun x H1 => tD K mg E fb σ H1 fun y H2 => R x y H2 := by
  obtain ⟨G, ρ, fp, c, q⟩ := h
  exact ⟨G, ρ, fp, c, seqD q fun d r v H1 G1 fp1 c1 s1 d1 q1 => ⟨G1, r, fp1, c1, seqD (ResE.rebase s1 c1.sg q1) fun d' r2 v2 H2 G2 fp2 c2 s2 d2 q2 =>
    w v v2 H2 G2 fp2 r2 d d' c2 (Dr.mono s2.x.sg d v d1) d2 (ResE.rebase s2 c2.sg q2)⟩⟩
theorem se_op {op : Operator} {p : D → D → Option Wv} (ho : OpR X (binaryOp op) (rP X.K X.mg E p)) (ha : SE X E a fa) (hb : SE X E b fb) : SE X E (.BinOp a op b pos) (sBin p fa fb) :=
  pe_sub (pe_op ho ha.D hb.D) fun σ H Q h => seqDD h fun x y H2 G2 fp2 ρ2 d1 d2 c2 e1 e2 q => ⟨G2, ρ2, fp2, σ, d1, d2, c2, e1, e2, q⟩
theorem se_cmp {op : CmpOp} {p : D → D → Option Wv} (ho : OpR X (compareOp op) (rP X.K X.mg E p)) (ha : SE X E a fa) (hb : SE X E b fb) (hm : behindInMarks op b = false := by first | exact nomark _ | rfl) : SE X E (.Compare a [op] [b] pos) (sBin p fa fb) :=
  pe_sub (pe_cmpR ho ha.D hb.D hm) fun σ H Q h => seqDD h fun x y H2 G2 fp2 ρ2 d1 d2 c2 e1 e2 q => ⟨G2, ρ2, fp2, σ, d1, d2, c2, e1, e2, q⟩
end
end FW

set_option Elab.async false
set_option linter.all false
set_option maxRecDepth 100000
set_option maxHeartbeats 1000001
namespace FW
open PySem PySem.Spec L2
section
variable {X : Cx} {E : WX} {e a b c : Expr} {es : List Expr} {f fa fb fc : ES} {fs : Rho → Out (List D)} {pos : Pos}
theorem Cfg.tr {K : Frg} {H G : Hp} {σ : St} {ρ : Rho} {fp : Fp} (c : Cfg K H G σ ρ fp) {v : V} {d : D} (h : Dr K G v d) : Dr K H v d := Dr.mono c.sg d v h
theorem line6 : (1000000 : Nat) ≤ sizeLine := by rw [sizeLine_eq]; decide
def intD : D → Option Int
  | .int i => some i
  | _ => none
def pAdd : D → D → Option Wv
  | .int i, .int j => some (.d (.int (i + j)))
  | .str i, .str j => if i.length + j.length ≤ 1000000 then some (.d (.str (i ++ j))) else none
  | .tuple i, .tuple j => if i.length + j.length ≤ 1000000 then some (.d (.tuple (i ++ j))) else none
  | .list i, .list j => if i.length + j.length ≤ 1000000 then some (.o ((i ++ j).map .d)) else none
  | _, _ => none
theorem or_add : OpR X (binaryOp .Add) (rP X.K X.mg E pAdd) := by
  intro pins s σ H x y v u Q I rx ry ⟨G, ρ, fp, σ', d1, d2, c, e1, e2, q⟩
  unfold pAdd at q
  split at q
  · rename_i i j
    exact op_add pins s σ H x y v u Q I rx ry ⟨i, j, e1.int_inv, e2.int_inv, ResE.val c Dr.int q⟩
  · rename_i i j
    split at q
    · rename_i h
      exact op_add_str pins s σ H x y v u Q I rx ry ⟨i, j, e1.str_inv, e2.str_inv, Nat.le_trans h line6, ResE.val c Dr.str q⟩
    · exact q.elim
  · rename_i i j
    split at q
    · rename_i h
      obtain ⟨a1, xs, ea, ha, da⟩ := e1.tup_inv
      obtain ⟨b1, ys, eb, hb, db⟩ := e2.tup_inv
      refine op_catA pins s σ H x y v u Q I rx ry ⟨a1, b1, xs, ys, ea, eb, same_seqT c.sg ha, same_seqT c.sg hb, by rw [da.length, db.length]; exact Nat.le_trans h line6, fun z => ?_, fun _ z => ?_, fun _ _ => ResE.tup c (da.append db) q⟩
      · subst z
        cases i with
        | nil => rw [List.nil_append] at q; exact ResE.val c (Dr.tup hb db) q
        | cons _ _ => exact absurd da.length (by simp)
      · subst z
        cases j with
        | nil => rw [List.append_nil] at q; exact ResE.val c (Dr.tup ha da) q
        | cons _ _ => exact absurd db.length (by simp)
    · exact q.elim
  · rename_i i j
    split at q
    · rename_i h
      obtain ⟨a1, xs, ea, ha, da⟩ := e1.lst_inv
      obtain ⟨b1, ys, eb, hb, db⟩ := e2.lst_inv
      exact op_cat pins s σ H x y v u Q I rx ry ⟨a1, b1, xs, ys, ea, eb, c.sg _ _ ha, c.sg _ _ hb, by rw [da.length, db.length]; exact Nat.le_trans h line6, ResE.lst c (da.append db) q⟩
    · exact q.elim
  · exact q.elim
def pSub : D → D → Option Wv
  | .int i, .int j => some (.d (.int (i - j)))
  | _, _ => none
theorem or_sub : OpR X (binaryOp .Sub) (rP X.K X.mg E pSub) := by
  intro pins s σ H x y v u Q I rx ry ⟨G, ρ, fp, σ', d1, d2, c, e1, e2, q⟩
  unfold pSub at q
  split at q
  · rename_i i j
    exact op_sub pins s σ H x y v u Q I rx ry ⟨i, j, e1.int_inv, e2.int_inv, ResE.val c Dr.int q⟩
  · exact q.elim
/-- the size that products, divisions look at -/
def big (i : Int) : Nat := i.natAbs.log2
def pMul : D → D → Option Wv
  | .int i, .int j => if big i + big j < 1000000 then some (.d (.int (i * j))) else none
  | .list i, .int j => if 0 ≤ j ∧ j ≤ 1000 ∧ i.length ≤ 1000 then some (.o ((List.replicate j.toNat i).flatten.map .d)) else none
  | .tuple i, .int j => if 1 ≤ j ∧ j ≤ 1000 ∧ i.length ≤ 1000 ∧ i ≠ [] then some (.d (.tuple (List.replicate j.toNat i).flatten)) else none
  | _, _ => none
theorem Drs.rep {K : Frg} {G : Hp} {xs : List V} {ds : List D} (h : Drs K G xs ds) : ∀ n : Nat, Drs K G (List.replicate n xs).flatten (List.replicate n ds).flatten
  | 0 => Drs.nil
  | n + 1 => by
    rw [List.replicate_succ, List.replicate_succ, List.flatten_cons, List.flatten_cons]; exact h.append (Drs.rep h n)
def pDiv : D → D → Option Wv
  | .int i, .int j => if j ≠ 0 ∧ big j < 9000 then some (.d (.int (i.fdiv j))) else none
  | _, _ => none
theorem or_div : OpR X (binaryOp .FloorDiv) (rP X.K X.mg E pDiv) := by
  intro pins s σ H x y v u Q I rx ry ⟨G, ρ, fp, σ', d1, d2, c, e1, e2, q⟩
  unfold pDiv at q
  split at q
  · rename_i i j
    split at q
    · rename_i h
      exact (opI (C := fun _ j => j ≠ 0 ∧ j.natAbs.log2 < 9000) (g := fun i j => i.fdiv j) fun _ _ _ _ _ _ _ hc q => PyProof.Rows.floordiv_int hc.1 q (.inl (PyProof.noPylong_of_log2 hc.2))) pins s σ H x y v u Q I rx ry
        ⟨i, j, e1.int_inv, e2.int_inv, h, ResE.val c Dr.int q⟩
    · exact q.elim
  · exact q.elim
def pMod : D → D → Option Wv
  | .int i, .int j => if j ≠ 0 then some (.d (.int (i.fmod j))) else none
  | _, _ => none
theorem or_mod : OpR X (binaryOp .Mod) (rP X.K X.mg E pMod) := by
  intro pins s σ H x y v u Q I rx ry ⟨G, ρ, fp, σ', d1, d2, c, e1, e2, q⟩
  unfold pMod at q
  split at q
  · rename_i i j
    split at q
    · rename_i h
      exact op_modN pins s σ H x y v u Q I rx ry ⟨i, j, e1.int_inv, e2.int_inv, h, ResE.val c Dr.int q⟩
    · exact q.elim
  · exact q.elim
def pPow : D → D → Option Wv
  | .int i, .int j => if 0 ≤ j ∧ j ≤ 1000 ∧ i.natAbs < 1000000 then some (.d (.int (i ^ j.toNat))) else none
  | _, _ => none
theorem or_pow : OpR X (binaryOp .Pow) (rP X.K X.mg E pPow) := by
  intro pins s σ H x y v u Q I rx ry ⟨G, ρ, fp, σ', d1, d2, c, e1, e2, q⟩
  unfold pPow at q
  split at q
  · rename_i i j
    split at q
    · rename_i h
      exact op_pow pins s σ H x y v u Q I rx ry ⟨i, j, e1.int_inv, e2.int_inv, ⟨h.1, by omega, Nat.lt_of_lt_of_le h.2.2 (by decide)⟩, ResE.val c Dr.int q⟩
    · exact q.elim
  · exact q.elim
theorem tuple_one (l : Addr) (items : Array Value) (n : Nat) (dd : Option Addr) (sl : Array (Option Value)) (u : Tok) :
    Meets (Builtin.«tuple.__mul__» ⟨[.ref l, .int 1 u], []⟩) (fun _ R s => s.heap.get? l = some { cls := .type "tuple", dict := dd, data := .seq items n, slots := sl } ∧ R (.ok (.ret (Value.ref l))) s) :=
  .of_wp fun prog w A R st h => by 
    obtain ⟨hp, g, d, tk, os⟩ := st; obtain ⟨hl, h⟩ := h; have f1 := AutoSeq1.idx_int
    wp_walk using wpAny_loadPart' hl; exact ⟨_, rfl, h⟩
/-- t * 1 is t -/
theorem op_rep1 : OpR X (binaryOp .Mult) (fun x y H Q => ∃ l xs, x = .ref l ∧ y = .int 1 ∧ SqT X.K H l xs ∧ Q (.ref l) H) := by
  intro pins s σ H x y v u Q I rx ry h; obtain ⟨l, xs, rfl, rfl, hT, q⟩ := h
  cases rx
  obtain ⟨t, rfl⟩ := ry
  obtain ⟨its, r, ⟨⟨cls, dd, data, sl⟩, ho, hc, n, hd⟩, hs⟩ := I.tuple hT; simp only at hc hd
  subst hc hd
  refine wpAny_binaryOp_repeat_ref (T := "tuple") (U := "int") (by decide) ⟨_, ho, rfl⟩ (fun s' => typeIs_int s' 1 t) noFill_tuple_mul PySem.F.fills_int_mul PySem.F.slot_int_rmul repeat_tuple PySem.F.slot_int_index.lookup
    (call_meets PySem.F.slot_int_rmul (typeIs_int s 1 t) PySem.F.entry_int_rmul (PySem.F.args_int_rmul_2 _ _) (int_rmul_tuple 1 t l its.toArray n dd sl)
      ⟨ho, rfl, ⟨_, ho, rfl⟩, call_meets PySem.F.slot_tuple_mul ⟨_, ho, rfl⟩ PySem.F.entry_tuple_mul (PySem.F.args_tuple_mul_2 _ _) (tuple_one l its.toArray n dd sl t) ⟨ho, ?_⟩⟩)
  exact ⟨.ref l, H, I, rfl, q⟩
theorem or_mul : OpR X (binaryOp .Mult) (rP X.K X.mg E pMul) := by
  intro pins s σ H x y v u Q I rx ry ⟨G, ρ, fp, σ', d1, d2, c, e1, e2, q⟩
  unfold pMul at q
  split at q
  · rename_i i j
    split at q
    · rename_i h
      exact op_mulW pins s σ H x y v u Q I rx ry ⟨i, j, e1.int_inv, e2.int_inv, h, ResE.val c Dr.int q⟩
    · exact q.elim
  · rename_i i j
    split at q
    · rename_i h
      obtain ⟨a1, xs, ea, ha, da⟩ := e1.lst_inv
      refine op_rep pins s σ H x y v u Q I rx ry ⟨a1, j, xs, ea, e2.int_inv, c.sg _ _ ha, by omega, by omega, ?_, ResE.lst c (da.rep _) q⟩
      rw [da.length]
      exact Nat.le_trans (Nat.mul_le_mul h.2.2 (show j.toNat ≤ 1000 by omega)) line6
    · exact q.elim
  · rename_i i j
    split at q
    · rename_i h
      obtain ⟨a1, xs, ea, ha, da⟩ := e1.tup_inv
      by_cases h1 : j = 1
      · subst h1
        refine op_rep1 pins s σ H x y v u Q I rx ry ⟨a1, xs, ea, e2.int_inv, same_seqT c.sg ha, ?_⟩
        have z : (List.replicate (1 : Int).toNat i).flatten = i := by simp
        rw [z] at q
        rw [← ea]
        exact ResE.val c e1 q
      · refine op_repT pins s σ H x y v u Q I rx ry ⟨a1, j, xs, ea, e2.int_inv, same_seqT c.sg ha, fun z => h.2.2.2 ?_, by omega, by omega, by rw [da.length]; exact h.2.2.1, ResE.tup c (da.rep _) q⟩
        rw [z] at da
        exact List.eq_nil_of_length_eq_zero (da.length.symm)
    · exact q.elim
  · exact q.elim

/-! ## comparisons -/
def strP : D → D → Option (Str × Str)
  | .str a, .str b => some (a, b)
  | _, _ => none
def pEq : D → D → Option Wv := fun x y => match strP x y with
  | some z => some (.d (.bool (decide (z.1 = z.2))))
  | none => if SeqAt.shaped x = true ∧ SeqAt.shaped y = true then some (.d (.bool (PyData.eqv x y))) else none
def pNe : D → D → Option Wv := fun x y => match strP x y with
  | some z => some (.d (.bool (!decide (z.1 = z.2))))
  | none => if SeqAt.shaped x = true ∧ SeqAt.shaped y = true then some (.d (.bool (!PyData.eqv x y))) else none
theorem strP_some {x y : D} {z : Str × Str} (h : strP x y = some z) : x = .str z.1 ∧ y = .str z.2 := by
  unfold strP at h
  split at h
  · cases h; exact ⟨rfl, rfl⟩
  · cases h
theorem str_dec {a b : Str} : decide (V.str a = V.str b) = decide (a = b) := by by_cases h : a = b <;> simp [h]
theorem canLay_of {d : D} (h : SeqAt.shaped d = true) : d.canLay0 = true := SeqAt.canLay_of_shaped h
theorem or_eq (hu : X.A.units + 64 < cLine) : OpR X (compareOp .Eq) (rP X.K X.mg E pEq) := by
  intro pins s σ H x y v u Q I rx ry ⟨G, ρ, fp, σ', d1, d2, c, e1, e2, q⟩
  unfold pEq at q
  split at q
  · rename_i z e
    obtain ⟨h1, h2⟩ := strP_some e
    rw [h1] at e1
    rw [h2] at e2
    have z1 := e1.str_inv
    have z2 := e2.str_inv
    subst z1 z2
    refine op_eq pins s σ H _ _ v u Q I rx ry ⟨rfl, ?_⟩
    rw [str_dec]
    exact ResE.val c Dr.bool q
  · split at q
    · rename_i h
      exact op_eqD hu pins s σ H x y v u Q I rx ry ⟨d1, d2, Dr.dp d1 x (canLay_of h.1) (c.tr e1), Dr.dp d2 y (canLay_of h.2) (c.tr e2), h.1, h.2, ResE.val c Dr.bool q⟩
    · exact q.elim
theorem or_ne (hu : X.A.units + 64 < cLine) : OpR X (compareOp .NotEq) (rP X.K X.mg E pNe) := by
  intro pins s σ H x y v u Q I rx ry ⟨G, ρ, fp, σ', d1, d2, c, e1, e2, q⟩
  unfold pNe at q
  split at q
  · rename_i z e
    obtain ⟨h1, h2⟩ := strP_some e
    rw [h1] at e1
    rw [h2] at e2
    have z1 := e1.str_inv
    have z2 := e2.str_inv
    subst z1 z2
    refine op_ne pins s σ H _ _ v u Q I rx ry ⟨rfl, ?_⟩
    rw [str_dec]
    exact ResE.val c Dr.bool q
  · split at q
    · rename_i h
      exact op_neD hu pins s σ H x y v u Q I rx ry ⟨d1, d2, Dr.dp d1 x (canLay_of h.1) (c.tr e1), Dr.dp d2 y (canLay_of h.2) (c.tr e2), h.1, h.2, ResE.val c Dr.bool q⟩
    · exact q.elim
def pLt : D → D → Option Wv
  | .int i, .int j => some (.d (.bool (decide (i < j))))
  | _, _ => none
def pLe : D → D → Option Wv
  | .int i, .int j => some (.d (.bool (decide (i ≤ j))))
  | _, _ => none
def pGt : D → D → Option Wv
  | .int i, .int j => some (.d (.bool (decide (j < i))))
  | _, _ => none
def pGe : D → D → Option Wv
  | .int i, .int j => some (.d (.bool (decide (j ≤ i))))
  | _, _ => none
theorem or_lt : OpR X (compareOp .Lt) (rP X.K X.mg E pLt) := by
  intro pins s σ H x y v u Q I rx ry ⟨G, ρ, fp, σ', d1, d2, c, e1, e2, q⟩
  unfold pLt at q
  split at q
  · exact op_lt pins s σ H x y v u Q I rx ry ⟨_, _, e1.int_inv, e2.int_inv, ResE.val c Dr.bool q⟩
  · exact q.elim
theorem or_le : OpR X (compareOp .LtE) (rP X.K X.mg E pLe) := by
  intro pins s σ H x y v u Q I rx ry ⟨G, ρ, fp, σ', d1, d2, c, e1, e2, q⟩
  unfold pLe at q
  split at q
  · exact op_le pins s σ H x y v u Q I rx ry ⟨_, _, e1.int_inv, e2.int_inv, ResE.val c Dr.bool q⟩
  · exact q.elim
theorem or_gt : OpR X (compareOp .Gt) (rP X.K X.mg E pGt) := by
  intro pins s σ H x y v u Q I rx ry ⟨G, ρ, fp, σ', d1, d2, c, e1, e2, q⟩
  unfold pGt at q
  split at q
  · exact op_gt pins s σ H x y v u Q I rx ry ⟨_, _, e1.int_inv, e2.int_inv, ResE.val c Dr.bool q⟩
  · exact q.elim
theorem or_ge : OpR X (compareOp .GtE) (rP X.K X.mg E pGe) := by
  intro pins s σ H x y v u Q I rx ry ⟨G, ρ, fp, σ', d1, d2, c, e1, e2, q⟩
  unfold pGe at q
  split at q
  · exact op_ge pins s σ H x y v u Q I rx ry ⟨_, _, e1.int_inv, e2.int_inv, ResE.val c Dr.bool q⟩
  · exact q.elim
def isN : D → Bool
  | .none => true
  | _ => false
def pIs : D → D → Option Wv := fun x y => match y with
  | .none => some (.d (.bool (isN x)))
  | _ => none
def pIsNot : D → D → Option Wv := fun x y => match y with
  | .none => some (.d (.bool (!isN x)))
  | _ => none
theorem Dr.isN {K : Frg} {G : Hp} {v : V} {d : D} (h : Dr K G v d) : decide (v = .non) = isN d := by
  cases d with
  | none => rw [h.none_inv]; rfl
  | bool b => rw [h.bool_inv]; rfl
  | int b => rw [h.int_inv]; rfl
  | str b => rw [h.str_inv]; rfl
  | list b => obtain ⟨_, _, e, _⟩ := h.lst_inv; rw [e]; rfl
  | tuple b => obtain ⟨_, _, e, _⟩ := h.tup_inv; rw [e]; rfl
  | dict b => obtain ⟨_, _, e, _⟩ := h.dct_inv; rw [e]; rfl
theorem or_is : OpR X (compareOp .Is) (rP X.K X.mg E pIs) := by
  intro pins s σ H x y v u Q I rx ry ⟨G, ρ, fp, σ', d1, d2, c, e1, e2, q⟩
  unfold pIs at q
  split at q
  · exact op_isN pins s σ H x y v u Q I rx ry ⟨e2.none_inv, by rw [e1.isN]; exact ResE.val c Dr.bool q⟩
  · exact q.elim
theorem or_isnot : OpR X (compareOp .IsNot) (rP X.K X.mg E pIsNot) := by
  intro pins s σ H x y v u Q I rx ry ⟨G, ρ, fp, σ', d1, d2, c, e1, e2, q⟩
  unfold pIsNot at q
  split at q
  · exact op_notN pins s σ H x y v u Q I rx ry ⟨e2.none_inv, by rw [e1.isN]; exact ResE.val c Dr.bool q⟩
  · exact q.elim
/-- x in a list or tuple of data -/
def memD (x : D) (ds : List D) : Bool := ds.any fun z => PyData.eqv z x
def pIn (neg : Bool) : D → D → Option Wv := fun x y => match y with
  | .list ds => if SeqAt.shaped x = true ∧ SeqAt.shaped (.list ds) = true then some (.d (.bool (if neg then !memD x ds else memD x ds))) else none
  | .tuple ds => if SeqAt.shaped x = true ∧ SeqAt.shaped (.tuple ds) = true then some (.d (.bool (if neg then !memD x ds else memD x ds))) else none
  | _ => none
theorem or_in (hu : X.A.units + 65 < cLine) : OpR X (compareOp .In) (rP X.K X.mg E (pIn false)) := by
  intro pins s σ H x y v u Q I rx ry ⟨G, ρ, fp, σ', d1, d2, c, e1, e2, q⟩
  unfold pIn at q
  split at q
  · rename_i ds
    split at q
    · rename_i h
      exact op_inD hu pins s σ H x y v u Q I rx ry ⟨d1, ds, Dr.dp d1 x (canLay_of h.1) (c.tr e1), Dr.dp _ y (canLay_of h.2) (c.tr e2), h.1, h.2, ResE.val c Dr.bool q⟩
    · exact q.elim
  · rename_i ds
    split at q
    · rename_i h
      obtain ⟨as, r1⟩ := Dp.reads I d1 x v (Dr.dp d1 x (canLay_of h.1) (c.tr e1)) rx
      obtain ⟨bs, r2⟩ := Dp.reads I (.tuple ds) y u (Dr.dp _ y (canLay_of h.2) (c.tr e2)) ry
      have z : Q (.bl (memD d1 ds)) H := ResE.val c Dr.bool q
      exact SeqAt.in_tuple_reads r2 r1 (by simpa [PyData.canLay0] using canLay_of h.2) (canLay_of h.1) (PyProof.Rows.room_in_shaped h.1 hu) ⟨.bl _, H, I, rfl, z⟩
    · exact q.elim
  · exact q.elim
theorem or_notin (hu : X.A.units + 65 < cLine) : OpR X (compareOp .NotIn) (rP X.K X.mg E (pIn true)) := by
  intro pins s σ H x y v u Q I rx ry ⟨G, ρ, fp, σ', d1, d2, c, e1, e2, q⟩
  unfold pIn at q
  split at q
  · rename_i ds
    split at q
    · rename_i h
      exact op_notInD hu pins s σ H x y v u Q I rx ry ⟨d1, ds, Dr.dp d1 x (canLay_of h.1) (c.tr e1), Dr.dp _ y (canLay_of h.2) (c.tr e2), h.1, h.2, ResE.val c Dr.bool q⟩
    · exact q.elim
  · rename_i ds
    split at q
    · rename_i h
      obtain ⟨as, r1⟩ := Dp.reads I d1 x v (Dr.dp d1 x (canLay_of h.1) (c.tr e1)) rx
      obtain ⟨bs, r2⟩ := Dp.reads I (.tuple ds) y u (Dr.dp _ y (canLay_of h.2) (c.tr e2)) ry
      have z : Q (.bl (!memD d1 ds)) H := ResE.val c Dr.bool q
      exact SeqAt.notIn_tuple_reads r2 r1 (by simpa [PyData.canLay0] using canLay_of h.2) (canLay_of h.1) (PyProof.Rows.room_in_shaped h.1 hu) ⟨.bl _, H, I, rfl, z⟩
    · exact q.elim
  · exact q.elim
end
end FW

set_option Elab.async false
set_option linter.all false
set_option maxRecDepth 100000
set_option maxHeartbeats 1000001
namespace FW
open PySem PySem.Spec L2
section
variable {X : Cx} {E : WX} {e a b c : Expr} {es rest : List Expr} {f fa fb fc : ES} {g ga gb : Rho → Out Bool} {fs : Rho → Out (List D)} {pos : Pos}
/-! ## tests -/
def boolD : D → Option Bool
  | .bool b => some b
  | _ => none
def sT (f : ES) : Rho → Out Bool := fun ρ => (fz (f ρ)).bind fun d r => ofO (boolD d) r
theorem st_val (h : SE X E e f) (he : ∀ whole, isTrue e X.env whole = (do let v ← whole; standAt e.pos; holding [v] (truthy v)) := by intro _; rfl) : ST X E e (sT f) :=
  pt_sub (pt_val h.D he) fun σ H Q ⟨G, ρ, fp, c, q⟩ => ⟨G, ρ, fp, c, seqD q fun d r v H1 G1 fp1 c1 s1 d1 q1 => by
    cases d with
    | bool b => exact ⟨b, d1.bool_inv, q1 _ _ _ c1 s1⟩
    | _ => exact q1.elim⟩
theorem st_cmp {op : CmpOp} {p : D → D → Option Wv} (ho : OpR X (compareOp op) (rP X.K X.mg E p)) (ha : SE X E a fa) (hb : SE X E b fb) (hm : behindInMarks op b = false := by first | exact nomark _ | rfl) : ST X E (.Compare a [op] [b] pos) (sT (sBin p fa fb)) := by
  refine pt_sub (pt_cmpR ho ha.D hb.D hm) fun σ H Q ⟨G, ρ, fp, c, q⟩ => ?_
  have h : tD X.K X.mg E (sBin p fa fb) σ H fun x H1 => ∃ k, x = .bl k ∧ Q k H1 := ⟨G, ρ, fp, c, seqD q fun d r v H1 G1 fp1 c1 s1 d1 q1 => by
    cases d with
    | bool b => exact ⟨b, d1.bool_inv, q1 _ _ _ c1 s1⟩
    | _ => exact q1.elim⟩
  obtain ⟨G2, ρ2, fp2, c2, q2⟩ := h
  exact seqDD ⟨G2, ρ2, fp2, c2, ResE.frz q2⟩ fun x y H2 G2 fp2 ρ2 d1 d2 c2 e1 e2 q => ⟨G2, ρ2, fp2, σ, d1, d2, c2, e1, e2, q⟩
def tAndB (g h : Rho → Out Bool) : Rho → Out Bool := fun ρ => (g ρ).bind fun b r => if b = true then h r else .ok false r
def tOrB (g h : Rho → Out Bool) : Rho → Out Bool := fun ρ => (g ρ).bind fun b r => if b = true then .ok true r else h r
def tNotB (g : Rho → Out Bool) : Rho → Out Bool := fun ρ => (g ρ).bind fun b r => .ok (!b) r
theorem sw_and1 (ha : ST X E a g) : SW X E (.BoolOp .And [a] pos) g := pw_and1 ha
theorem sw_or1 (ha : ST X E a g) : SW X E (.BoolOp .Or [a] pos) g := pw_or1 ha
theorem sw_and (ha : ST X E a ga) (hb : SW X E (.BoolOp .And (b :: rest) pos) gb) : SW X E (.BoolOp .And (a :: b :: rest) pos) (tAndB ga gb) :=
  pw_sub (pw_and ha hb) fun σ H Q ⟨G, ρ, fp, c, q⟩ => ⟨G, ρ, fp, c, seqT q fun k r H1 G1 fp1 c1 s1 q1 => by
    cases k with
    | true => rw [if_pos rfl] at q1 ⊢; exact ⟨G1, r, fp1, c1, ResT.rebase s1 c1.sg q1⟩
    | false => rw [if_neg Bool.false_ne_true] at q1 ⊢; exact q1 _ _ _ c1 s1⟩
theorem sw_or (ha : ST X E a ga) (hb : SW X E (.BoolOp .Or (b :: rest) pos) gb) : SW X E (.BoolOp .Or (a :: b :: rest) pos) (tOrB ga gb) :=
  pw_sub (pw_or ha hb) fun σ H Q ⟨G, ρ, fp, c, q⟩ => ⟨G, ρ, fp, c, seqT q fun k r H1 G1 fp1 c1 s1 q1 => by
    cases k with
    | true => rw [if_pos rfl] at q1 ⊢; exact q1 _ _ _ c1 s1
    | false => rw [if_neg Bool.false_ne_true] at q1 ⊢; exact ⟨G1, r, fp1, c1, ResT.rebase s1 c1.sg q1⟩⟩
theorem SW.T (h : SW X E e g) : ST X E e g := PW.pt h
theorem st_not (ha : ST X E a g) : ST X E (.UnaryOp .Not a pos) (tNotB g) :=
  pt_sub (pt_not ha) fun σ H Q ⟨G, ρ, fp, c, q⟩ => ⟨G, ρ, fp, c, seqT q fun k r H1 G1 fp1 c1 s1 q1 => q1 _ _ _ c1 s1⟩
/-! ## and, or, not as values; a if t else b -/
def sAndV (f g : ES) : ES := fun ρ => (fz (f ρ)).bind fun d r => match d with
  | .bool true => g r
  | .bool false => .ok (.d (.bool false)) r
  | _ => .bad
def sOrV (f g : ES) : ES := fun ρ => (fz (f ρ)).bind fun d r => match d with
  | .bool true => .ok (.d (.bool true)) r
  | .bool false => g r
  | _ => .bad
def sNotV (f : ES) : ES := fun ρ => (fz (f ρ)).bind fun d r => match d with
  | .bool b => .ok (.d (.bool (!b))) r
  | _ => .bad
theorem se_one {op : BoolOp} (h : SE X E a f) : SE X E (.BoolOp op [a] pos) f := pe_one h
theorem se_and (ha : SE X E a fa) (hb : SE X E (.BoolOp .And (b :: rest) pos) fb) : SE X E (.BoolOp .And (a :: b :: rest) pos) (sAndV fa fb) :=
  pe_sub (pe_and ha.D hb) fun σ H Q ⟨G, ρ, fp, c, q⟩ => ⟨G, ρ, fp, c, seqD q fun d r v H1 G1 fp1 c1 s1 d1 q1 => by
    cases d with
    | bool k =>
      cases k with
      | true => exact ⟨true, d1.bool_inv, by rw [if_pos rfl]; exact ⟨G1, r, fp1, c1, ResE.rebase s1 c1.sg q1⟩⟩
      | false => exact ⟨false, d1.bool_inv, by rw [if_neg Bool.false_ne_true]; exact ResE.val c1 Dr.bool (ResE.rebase s1 c1.sg q1)⟩
    | _ => exact q1.elim⟩
theorem se_or (ha : SE X E a fa) (hb : SE X E (.BoolOp .Or (b :: rest) pos) fb) : SE X E (.BoolOp .Or (a :: b :: rest) pos) (sOrV fa fb) :=
  pe_sub (pe_or ha.D hb) fun σ H Q ⟨G, ρ, fp, c, q⟩ => ⟨G, ρ, fp, c, seqD q fun d r v H1 G1 fp1 c1 s1 d1 q1 => by
    cases d with
    | bool k =>
      cases k with
      | true => exact ⟨true, d1.bool_inv, by rw [if_pos rfl]; exact ResE.val c1 Dr.bool (ResE.rebase s1 c1.sg q1)⟩
      | false => exact ⟨false, d1.bool_inv, by rw [if_neg Bool.false_ne_true]; exact ⟨G1, r, fp1, c1, ResE.rebase s1 c1.sg q1⟩⟩
    | _ => exact q1.elim⟩
theorem se_not (ha : SE X E a fa) : SE X E (.UnaryOp .Not a pos) (sNotV fa) :=
  pe_sub (pe_not ha.D) fun σ H Q ⟨G, ρ, fp, c, q⟩ => ⟨G, ρ, fp, c, seqD q fun d r v H1 G1 fp1 c1 s1 d1 q1 => by
    cases d with
    | bool k => exact ⟨k, d1.bool_inv, ResE.val c1 Dr.bool (ResE.rebase s1 c1.sg q1)⟩
    | _ => exact q1.elim⟩
def sIf (g : Rho → Out Bool) (fa fb : ES) : ES := fun ρ => (g ρ).bind fun b r => if b = true then fa r else fb r
theorem se_if (hc : ST X E c g) (ha : SE X E a fa) (hb : SE X E b fb) : SE X E (.IfExp c a b pos) (sIf g fa fb) :=
  pe_sub (pe_ifExp hc ha hb) fun σ H Q ⟨G, ρ, fp, c, q⟩ => ⟨G, ρ, fp, c, seqT q fun k r H1 G1 fp1 c1 s1 q1 => by
    cases k with
    | true => rw [if_pos rfl] at q1 ⊢; exact ⟨G1, r, fp1, c1, ResE.rebase s1 c1.sg q1⟩
    | false => rw [if_neg Bool.false_ne_true] at q1 ⊢; exact ⟨G1, r, fp1, c1, ResE.rebase s1 c1.sg q1⟩⟩
def sNeg (f : ES) : ES := fun ρ => (fz (f ρ)).bind fun d r => match d with
  | .int i => .ok (.d (.int (-i))) r
  | _ => .bad
theorem se_neg (ha : SE X E a fa) : SE X E (.UnaryOp .USub a pos) (sNeg fa) :=
  pe_sub (pe_un un_neg ha.D) fun σ H Q ⟨G, ρ, fp, c, q⟩ => ⟨G, ρ, fp, c, seqD q fun d r v H1 G1 fp1 c1 s1 d1 q1 => by
    cases d with
    | int k => exact ⟨k, d1.int_inv, ResE.val c1 Dr.int (ResE.rebase s1 c1.sg q1)⟩
    | _ => exact q1.elim⟩
/-- a < b < c (ints) -/
def intB (p : Int → Int → Bool) : D → D → Option Bool
  | .int i, .int j => some (p i j)
  | _, _ => none
def sChain (p p' : Int → Int → Bool) (fa fb fc : ES) : ES := fun ρ => (fz (fa ρ)).bind fun x r => (fz (fb r)).bind fun y r => (ofO (intB p x y) r).bind fun k r => if k = true then (fz (fc r)).bind fun z r => (ofO (intB p' y z) r).bind fun k r => .ok (.d (.bool k)) r else .ok (.d (.bool false)) r
theorem chain_rd {K : Frg} {mg : Mg} {p p' : Int → Int → Bool} {σ : St} {H : Hp} {Q : VK} (h : tS K mg E (sChain p p' fa fb fc) σ H Q) :
    tChain (rI0 fun i j => .bl (p i j)) (rI0 fun i j => .bl (p' i j)) (tD K mg E fa) (tD K mg E fb) (tD K mg E fc) σ H Q := by
  obtain ⟨G, ρ, fp, c, q⟩ := h
  refine ⟨G, ρ, fp, c, seqD q fun d r v H1 G1 fp1 c1 s1 d1 q1 => ⟨G1, r, fp1, c1, seqD (ResE.rebase s1 c1.sg q1) fun d' r2 v2 H2 G2 fp2 c2 s2 d2 q2 => ?_⟩⟩
  have q3 := ResE.rebase s2 c2.sg q2
  cases d with
  | int i =>
    cases d' with
    | int j =>
      refine ⟨i, j, d1.int_inv, d2.int_inv, p i j, rfl, ?_⟩
      have q4 : ResE K mg E H2 G2 fp2 σ Q (if p i j = true then (fz (fc r2)).bind fun z r => (ofO (intB p' (.int j) z) r).bind fun k r => .ok (.d (.bool k)) r else .ok (.d (.bool false)) r2) := q3
      by_cases e : p i j = true
      · rw [if_pos e] at q4 ⊢
        refine ⟨G2, r2, fp2, c2, seqD q4 fun d3 r3 v3 H3 G3 fp3 c3 s3 dd3 q5 => ?_⟩
        cases d3 with
        | int l => exact ⟨j, l, d2.int_inv, dd3.int_inv, ResE.val c3 Dr.bool (ResE.rebase s3 c3.sg q5)⟩
        | _ => exact q5.elim
      · rw [if_neg e] at q4 ⊢
        exact ResE.val c2 Dr.bool q4
    | _ => exact q3.elim
  | _ => exact q3.elim
abbrev ltB : Int → Int → Bool := fun i j => decide (i < j)
abbrev leB : Int → Int → Bool := fun i j => decide (i ≤ j)
theorem se_chain {op op' : CmpOp} {p p' : Int → Int → Bool} (ho : OpR X (compareOp op) (rI0 fun i j => .bl (p i j))) (ho' : OpR X (compareOp op') (rI0 fun i j => .bl (p' i j))) (ha : SE X E a fa) (hb : SE X E b fb) (hc : SE X E c fc)
    (hm : lastMarks [op, op'] [b, c] = false := by with_unfolding_all rfl) : SE X E (.Compare a [op, op'] [b, c] pos) (sChain p p' fa fb fc) := pe_sub (pe_chain ho ho' ha.D hb.D hc.D hm) fun σ H Q h => chain_rd h
theorem st_chain {op op' : CmpOp} {p p' : Int → Int → Bool} (ho : OpR X (compareOp op) (rI0 fun i j => .bl (p i j))) (ho' : OpR X (compareOp op') (rI0 fun i j => .bl (p' i j))) (ha : SE X E a fa) (hb : SE X E b fb) (hc : SE X E c fc)
    (hm : lastMarks [op, op'] [b, c] = false := by with_unfolding_all rfl) : ST X E (.Compare a [op, op'] [b, c] pos) (sT (sChain p p' fa fb fc)) :=
  pt_sub (pt_chain ho ho' ha.D hb.D hc.D hm) fun σ H Q ⟨G, ρ, fp, c, q⟩ => by
    have h : tD X.K X.mg E (sChain p p' fa fb fc) σ H fun x H1 => ∃ k, x = .bl k ∧ Q k H1 := ⟨G, ρ, fp, c, seqD q fun d r v H1 G1 fp1 c1 s1 d1 q1 => by
      cases d with
      | bool b => exact ⟨b, d1.bool_inv, q1 _ _ _ c1 s1⟩
      | _ => exact q1.elim⟩
    obtain ⟨G2, ρ2, fp2, c2, q2⟩ := h
    exact chain_rd ⟨G2, ρ2, fp2, c2, ResE.frz q2⟩

/-! ## displays -/
def sTup (fs : Rho → Out (List D)) : ES := fun ρ => (fs ρ).bind fun ds r => if ds.length ≤ 1000000 then .ok (.d (.tuple ds)) r else .bad
def sLst (fs : Rho → Out (List D)) : ES := fun ρ => (fs ρ).bind fun ds r => if ds.length ≤ 1000000 then .ok (.o (ds.map .d)) r else .bad
theorem se_tup {k : Nat} (h : SA X E es fs) : SE X E (.Tuple es k pos) (sTup fs) :=
  pe_sub (pe_tup h) fun σ H Q ⟨G, ρ, fp, c, q⟩ => ⟨G, ρ, fp, c, seqA q fun ds r vs H1 G1 fp1 c1 s1 d1 q1 => by
    split at q1
    · rename_i z
      exact ⟨by rw [d1.length]; exact Nat.le_trans z line6, ResE.tup c1 d1 (ResE.rebase s1 c1.sg q1)⟩
    · exact q1.elim⟩
theorem se_lst (h : SA X E es fs) : SE X E (.List es pos) (sLst fs) :=
  pe_sub (pe_lst h) fun σ H Q ⟨G, ρ, fp, c, q⟩ => ⟨G, ρ, fp, c, seqA q fun ds r vs H1 G1 fp1 c1 s1 d1 q1 => by
    split at q1
    · rename_i z
      exact ⟨by rw [d1.length]; exact Nat.le_trans z line6, ResE.lst c1 d1 (ResE.rebase s1 c1.sg q1)⟩
    · exact q1.elim⟩
def itemsD : D → Option (List D)
  | .tuple ds => some ds
  | .list ds => some ds
  | _ => none
theorem Dr.items {K : Frg} {G H : Hp} {v : V} {d : D} {ds : List D} (sg : Same G H) (h : Dr K G v d) (e : itemsD d = some ds) : ∃ a xs, v = .ref a ∧ (SqT K H a xs ∨ SqL K H a xs) ∧ Drs K G xs ds := by
  cases d with
  | tuple es =>
    cases e
    obtain ⟨a, xs, e1, h1, h2⟩ := h.tup_inv
    exact ⟨a, xs, e1, .inl (same_seqT sg h1), h2⟩
  | list es =>
    cases e
    obtain ⟨a, xs, e1, h1, h2⟩ := h.lst_inv
    exact ⟨a, xs, e1, .inr (SqL.of (sg _ _ h1)), h2⟩
  | _ => cases e
def aStar (f : ES) (fs : Rho → Out (List D)) : Rho → Out (List D) := fun ρ => (fz (f ρ)).bind fun d r => (ofO (itemsD d) r).bind fun xs r => (fs r).bind fun ds r => .ok (xs ++ ds) r
theorem sa_star {p : Pos} (ha : SE X E e f) (hr : SA X E es fs) (hs : starEach (.Starred e p :: es) X.env = (true, eval e X.env) :: starEach es X.env := by rfl) : SA X E (.Starred e p :: es) (aStar f fs) :=
  pa_sub (StX.pa_star ha.D hr hs) fun σ H Q ⟨G, ρ, fp, c, q⟩ => ⟨G, ρ, fp, c, seqD q fun d r v H1 G1 fp1 c1 s1 d1 q1 => by
    cases e1 : itemsD d with
    | none => rw [e1] at q1; exact q1.elim
    | some xs =>
      rw [e1] at q1
      obtain ⟨a, vs, e2, h2, h3⟩ := d1.items c1.sg e1
      exact ⟨a, vs, e2, h2, G1, r, fp1, c1, seqA (ResA.rebase s1 c1.sg q1) fun ds r2 us H2 G2 fp2 c2 s2 d2 q2 => q2 _ _ _ _ c2 s2 (Drs.append (Drs.mono s2.x.sg xs vs h3) d2)⟩⟩

/-! ## subscripts, slices -/
def pIx : D → D → Option Wv
  | .tuple ds, .int i => (atI ds i).map .d
  | .list ds, .int i => (atI ds i).map .d
  | _, _ => none
theorem Drs.atI {K : Frg} {G : Hp} {ds : List D} {vs : List V} {i : Int} {d : D} (h : Drs K G vs ds) (e : L2.atI ds i = some d) : ∃ v, L2.atI vs i = some v ∧ Dr K G v d := by
  unfold L2.atI at e ⊢
  rw [h.length]
  cases z : ixN ds.length i with
  | none => rw [z] at e; cases e
  | some j =>
    rw [z] at e
    obtain ⟨v, e1, e2⟩ := h.get (i := j) e
    exact ⟨v, e1, e2⟩
theorem ixr : IxR X (rP X.K X.mg E pIx) := by
  intro value slice pins s σ H x y v u Q I rx ry ⟨G, ρ, fp, σ', d1, d2, c, e1, e2, q⟩ hs
  unfold pIx at q
  split at q
  · rename_i ds i
    cases z : L2.atI ds i with
    | none => rw [z] at q; exact q.elim
    | some d =>
      rw [z] at q
      obtain ⟨a1, xs, ea, ha, da⟩ := e1.tup_inv
      obtain ⟨w, e3, e4⟩ := da.atI z
      exact ix_tup value slice pins s σ H x y v u Q I rx ry ⟨a1, xs, i, w, ea, e2.int_inv, same_seqT c.sg ha, e3, ResE.val c e4 q⟩ hs
  · rename_i ds i
    cases z : L2.atI ds i with
    | none => rw [z] at q; exact q.elim
    | some d =>
      rw [z] at q
      obtain ⟨a1, xs, ea, ha, da⟩ := e1.lst_inv
      obtain ⟨w, e3, e4⟩ := da.atI z
      exact ix_list value slice pins s σ H x y v u Q I rx ry ⟨a1, xs, i, w, ea, e2.int_inv, SqL.of (c.sg _ _ ha), e3, ResE.val c e4 q⟩ hs
  · exact q.elim
theorem se_ix (ha : SE X E a fa) (hb : SE X E b fb) (hs : PlainIx b := by exact fun _ _ => rfl) : SE X E (.Subscript a b pos) (sBin pIx fa fb) :=
  pe_sub (pe_ix ixr ha.D hb.D hs) fun σ H Q h => seqDD h fun x y H2 G2 fp2 ρ2 d1 d2 c2 e1 e2 q => ⟨G2, ρ2, fp2, σ, d1, d2, c2, e1, e2, q⟩
/-- a[lo:hi] -/
def cutD {α : Type} (xs : List α) (lo hi : Option Int) : List α := (xs.drop (HT.sIx xs.length 0 lo)).take (HT.sIx xs.length xs.length hi - HT.sIx xs.length 0 lo)
theorem Drs.cut {K : Frg} {G : Hp} {ds : List D} {vs : List V} (h : Drs K G vs ds) (lo hi : Option Int) : Drs K G (cutV vs lo hi) (cutD ds lo hi) := by
  unfold cutV cutD
  rw [h.length]
  exact (h.drop _).take _
def pCut : D → Option Int → Option Int → Option Wv
  | .tuple ds, lo, hi => some (.d (.tuple (cutD ds lo hi)))
  | .list ds, lo, hi => some (.o ((cutD ds lo hi).map .d))
  | _, _, _ => none
def sPartN : Rho → Out (Option Int) := fun ρ => .ok none ρ
def sPart (f : ES) : Rho → Out (Option Int) := fun ρ => (fz (f ρ)).bind fun d r => match d with
  | .int i => .ok (some i) r
  | _ => .bad
abbrev ResP (K : Frg) (mg : Mg) (E : WX) (H G : Hp) (fp : Fp) (σ : St) (Q : Option Int → Hp → Prop) (o : Out (Option Int)) : Prop :=
  ResO (fun b ρ' => ∀ H' G' fp', Cfg K H' G' σ ρ' fp' → Step fp H G fp' H' G' → Q b H') (ResX K mg E H G fp σ) o
def tP (K : Frg) (mg : Mg) (E : WX) (f : Rho → Out (Option Int)) : TO := fun σ H Q => ∃ G ρ fp, Cfg K H G σ ρ fp ∧ ResP K mg E H G fp σ Q (f ρ)
def SP' (X : Cx) (E : WX) (e : Option Expr) (f : Rho → Out (Option Int)) : Prop := PO X e (tP X.K X.mg E f)
theorem po_sub {e : Option Expr} {t t' : TO} (h : PO X e t) (w : ∀ σ H Q, t' σ H Q → t σ H Q) : PO X e t' := ⟨fun pins s σ H Q I q => h.run pins s σ H Q I (w σ H Q q)⟩
theorem sp_none : SP' X E none sPartN := po_sub po_none fun σ H Q ⟨G, ρ, fp, c, q⟩ => q H G fp c .refl
theorem sp_some (h : SE X E e f) : SP' X E (some e) (sPart f) := po_sub (po_some h.D) fun σ H Q ⟨G, ρ, fp, c, q⟩ => ⟨G, ρ, fp, c, seqD q fun d r v H1 G1 fp1 c1 s1 d1 q1 => by
  cases d with
  | int i => exact ⟨i, d1.int_inv, q1 _ _ _ c1 s1⟩
  | _ => exact q1.elim⟩
theorem seqP {α : Type} {K : Frg} {mg : Mg} {H G : Hp} {fp : Fp} {σ : St} {pok : α → Rho → Prop} {o : Out (Option Int)} {k : Option Int → Rho → Out α} {R : Option Int → Hp → Prop} (h : ResO pok (ResX K mg E H G fp σ) (o.bind k))
    (f : ∀ b ρ' H' G' fp', Cfg K H' G' σ ρ' fp' → Step fp H G fp' H' G' → ResO pok (ResX K mg E H G fp σ) (k b ρ') → R b H') : ResP K mg E H G fp σ R o :=
  ResO.imp (fun d ρ' q H' G' fp' c s => f d ρ' H' G' fp' c s q) (fun _ _ q => q) (ResO.bind h)
def sCut (f : ES) (lo hi : Rho → Out (Option Int)) : ES := fun ρ => (fz (f ρ)).bind fun d r => (lo r).bind fun l r => (hi r).bind fun h r => ofO (pCut d l h) r
def rCut (K : Frg) (mg : Mg) (E : WX) : V → Option Int → Option Int → Hp → VK → Prop := fun x lo hi H Q => ∃ G ρ fp σ d, Cfg K H G σ ρ fp ∧ Dr K G x d ∧ ResE K mg E H G fp σ Q (ofO (pCut d lo hi) ρ)
theorem sIx_le (n : Nat) (lo : Option Int) : HT.sIx n 0 lo ≤ n ∧ HT.sIx n n lo ≤ n := by
  cases lo with
  | none => exact ⟨Nat.zero_le _, Nat.le_refl _⟩
  | some i => unfold HT.sIx; constructor <;> (simp only []; (repeat' split) <;> omega)
theorem slr : SlR X (rCut X.K X.mg E) := by
  intro pins s σ H x v vl vu lo hi sl Q I rx hs pl pu ⟨G, ρ, fp, σ', d, c, e1, q⟩
  unfold pCut at q
  split at q
  · rename_i ds
    obtain ⟨a1, xs, ea, ha, da⟩ := e1.tup_inv
    refine sl_tupA pins s σ H x v vl vu lo hi sl Q I rx hs pl pu ⟨a1, xs, ea, same_seqT c.sg ha, fun z => ?_, fun z => ResE.tup c (da.cut _ _) q⟩
    have z2 : cutD ds lo hi = ds := by
      unfold cutD
      rw [← da.length, z.1, z.2, List.drop_zero, da.length, Nat.sub_zero, List.take_length]
    rw [z2] at q
    rw [← ea]
    exact ResE.val c e1 q
  · rename_i ds
    obtain ⟨a1, xs, ea, ha, da⟩ := e1.lst_inv
    exact sl_list pins s σ H x v vl vu lo hi sl Q I rx hs pl pu ⟨a1, xs, ea, SqL.of (c.sg _ _ ha), ResE.lst c (da.cut _ _) q⟩
  · exact q.elim
theorem se_cut {lo hi : Option Expr} {fl fh : Rho → Out (Option Int)} {p2 : Pos} (ha : SE X E a fa) (hl : SP' X E lo fl) (hh : SP' X E hi fh) : SE X E (.Subscript a (.Slice lo hi none p2) pos) (sCut fa fl fh) :=
  pe_sub (pe_slice slr ha.D hl hh) fun σ H Q ⟨G, ρ, fp, c, q⟩ => ⟨G, ρ, fp, c, seqD q fun d r v H1 G1 fp1 c1 s1 d1 q1 => ⟨G1, r, fp1, c1, seqP (ResE.rebase s1 c1.sg q1) fun l r2 H2 G2 fp2 c2 s2 q2 =>
    ⟨G2, r2, fp2, c2, seqP (ResE.rebase s2 c2.sg q2) fun h r3 H3 G3 fp3 c3 s3 q3 => ⟨G3, r3, fp3, σ, d, c3, Dr.mono (s2.x.sg.trans s3.x.sg) d v d1, ResE.rebase s3 c3.sg q3⟩⟩⟩⟩
end
end FW

set_option Elab.async false
set_option linter.all false
set_option maxRecDepth 100000
set_option maxHeartbeats 1000001
namespace FW
open PySem PySem.Spec L2
section
variable {X : Cx} {E : WX} {e a b c : Expr} {es rest : List Expr} {f fa fb fc : ES} {g ga gb : Rho → Out Bool} {fs : Rho → Out (List D)} {pos p : Pos} {x : Str} {id T : String} {pr : List D → Option Wv}
/-! ## built-ins by their names -/
def sCall (pr : List D → Option Wv) (fs : Rho → Out (List D)) : ES := fun ρ => (fs ρ).bind fun ds r => ofO (pr ds) r
def rC (K : Frg) (mg : Mg) (E : WX) (pr : List D → Option Wv) : List V → Hp → VK → Prop := fun vs H Q => ∃ G ρ fp σ ds, Cfg K H G σ ρ fp ∧ Drs K G vs ds ∧ ResE K mg E H G fp σ Q (ofO (pr ds) ρ)
theorem call_rd {K : Frg} {mg : Mg} {σ : St} {H : Hp} {Q : VK} (h : tS K mg E (sCall pr fs) σ H Q) : tCB (rC K mg E pr) (tA K mg E fs) σ H Q := by
  obtain ⟨G, ρ, fp, c, q⟩ := h
  exact ⟨G, ρ, fp, c, seqA q fun ds r vs H1 G1 fp1 c1 s1 d1 q1 => ⟨G1, r, fp1, σ, ds, c1, d1, ResE.rebase s1 c1.sg q1⟩⟩
theorem se_callB (hc : CallR X (.builtin id) (rC X.K X.mg E pr)) (hm : X.mg x = none) (hv : bootBuiltins x = some (.builtin id)) (ha : SA X E (e :: es) fs) (hg : Gl X x := by rfl) (hn : x ≠ "__name__" := by decide) (hdb : (x == ("__debug__" : Str)) = false := by decide)
    (he : starEach (e :: es) X.env = (false, eval e X.env) :: starEach es X.env := by rfl) (hpl : (backTo pos (starEach es X.env)).any (·.1) = false := by rfl) : SE X E (.Call (.Name x p) (e :: es) [] pos) (sCall pr fs) :=
  pe_sub (pe_callB hc hg hm hv ha hn hdb he hpl) fun σ H Q h => call_rd h
theorem se_callTy (hc : CallR X (.type T) (rC X.K X.mg E pr)) (hm : X.mg x = none) (hv : bootBuiltins x = some (.type T)) (ha : SA X E (e :: es) fs) (hg : Gl X x := by rfl) (hn : x ≠ "__name__" := by decide) (hdb : (x == ("__debug__" : Str)) = false := by decide)
    (he : starEach (e :: es) X.env = (false, eval e X.env) :: starEach es X.env := by rfl) (hpl : (backTo pos (starEach es X.env)).any (·.1) = false := by rfl) : SE X E (.Call (.Name x p) (e :: es) [] pos) (sCall pr fs) :=
  pe_sub (pe_callTy hc hg hm hv ha hn hdb he hpl) fun σ H Q h => call_rd h
theorem se_callBfun (hc : CallR X (.builtin id) (rC X.K X.mg E pr)) (hm : X.mg x = some (.builtin id)) (ha : SA X E (e :: es) fs) (hg : Gl X x := by rfl) (hdb : (x == ("__debug__" : Str)) = false := by decide)
    (he : starEach (e :: es) X.env = (false, eval e X.env) :: starEach es X.env := by rfl) (hpl : (backTo pos (starEach es X.env)).any (·.1) = false := by rfl) : SE X E (.Call (.Name x p) (e :: es) [] pos) (sCall pr fs) :=
  pe_sub (pe_callBfun hc hg hm ha hdb he hpl) fun σ H Q h => call_rd h
def pLen : List D → Option Wv
  | [.tuple ds] => some (.d (.int ds.length))
  | [.list ds] => some (.d (.int ds.length))
  | [.str z] => if z.length ≤ 1000000 then some (.d (.int z.length)) else none
  | _ => none
theorem cr_len : CallR X (.builtin "len") (rC X.K X.mg E pLen) := by
  intro pins s σ H vs us Q I r ⟨G, ρ, fp, σ', ds, c, dr, q⟩
  unfold pLen at q
  split at q
  · obtain ⟨v, e1, h1⟩ := dr.one
    obtain ⟨a, xs, e2, h2, h3⟩ := h1.tup_inv
    exact call_len_seq pins s σ H vs us Q I r ⟨a, xs, by rw [e1, e2], .inr (same_seqT c.sg h2), by rw [h3.length]; exact ResE.val c Dr.int q⟩
  · obtain ⟨v, e1, h1⟩ := dr.one
    obtain ⟨a, xs, e2, h2, h3⟩ := h1.lst_inv
    exact call_len_seq pins s σ H vs us Q I r ⟨a, xs, by rw [e1, e2], .inl (SqL.of (c.sg _ _ h2)), by rw [h3.length]; exact ResE.val c Dr.int q⟩
  · obtain ⟨v, e1, h1⟩ := dr.one
    split at q
    · rename_i h
      exact call_len_str pins s σ H vs us Q I r ⟨_, by rw [e1, h1.str_inv], Nat.le_trans h line6, ResE.val c Dr.int q⟩
    · exact q.elim
  · exact q.elim
def pTuple : List D → Option Wv
  | [.tuple ds] => some (.d (.tuple ds))
  | [.list ds] => some (.d (.tuple ds))
  | _ => none
theorem cr_tuple : CallR X (.type "tuple") (rC X.K X.mg E pTuple) := by
  intro pins s σ H vs us Q I r ⟨G, ρ, fp, σ', ds, c, dr, q⟩
  unfold pTuple at q
  split at q
  · obtain ⟨v, e1, h1⟩ := dr.one
    obtain ⟨a, xs, e2, h2, h3⟩ := h1.tup_inv
    exact call_tuple_of pins s σ H vs us Q I r ⟨a, xs, by rw [e1, e2], .inr ⟨same_seqT c.sg h2, by rw [← e2]; exact ResE.val c h1 q⟩⟩
  · obtain ⟨v, e1, h1⟩ := dr.one
    obtain ⟨a, xs, e2, h2, h3⟩ := h1.lst_inv
    exact call_tuple_of pins s σ H vs us Q I r ⟨a, xs, by rw [e1, e2], .inl ⟨SqL.of (c.sg _ _ h2), ResE.tup c h3 q⟩⟩
  · exact q.elim
def pList : List D → Option Wv
  | [.tuple ds] => some (.o (ds.map .d))
  | [.list ds] => some (.o (ds.map .d))
  | _ => none
theorem cr_list : CallR X (.type "list") (rC X.K X.mg E pList) := by
  intro pins s σ H vs us Q I r ⟨G, ρ, fp, σ', ds, c, dr, q⟩
  unfold pList at q
  split at q
  · obtain ⟨v, e1, h1⟩ := dr.one
    obtain ⟨a, xs, e2, h2, h3⟩ := h1.tup_inv
    exact call_list_of pins s σ H vs us Q I r ⟨a, xs, by rw [e1, e2], .inr (same_seqT c.sg h2), ResE.lst c h3 q⟩
  · obtain ⟨v, e1, h1⟩ := dr.one
    obtain ⟨a, xs, e2, h2, h3⟩ := h1.lst_inv
    exact call_list_of pins s σ H vs us Q I r ⟨a, xs, by rw [e1, e2], .inl (SqL.of (c.sg _ _ h2)), ResE.lst c h3 q⟩
  · exact q.elim
def boolsD : List D → Option (List Bool)
  | [] => some []
  | .bool b :: r => (boolsD r).map (b :: ·)
  | _ => none
def intsD : List D → Option (List Int)
  | [] => some []
  | .int b :: r => (intsD r).map (b :: ·)
  | _ => none
theorem Drs.bools {K : Frg} {G : Hp} : ∀ {ds : List D} {vs : List V} {bs : List Bool}, Drs K G vs ds → boolsD ds = some bs → vs = bs.map V.bl
  | [], _, _, h, e => by cases e; unfold Drs at h; exact h
  | d :: ds, _, _, h, e => by
    unfold Drs at h
    obtain ⟨v, r, e1, p, q⟩ := h
    cases d with
    | bool k =>
      unfold boolsD at e
      cases z : boolsD ds with
      | none => rw [z] at e; cases e
      | some bs =>
        rw [z] at e; cases e
        rw [e1, p.bool_inv, Drs.bools q z]; rfl
    | _ => cases e
theorem Drs.ints {K : Frg} {G : Hp} : ∀ {ds : List D} {vs : List V} {bs : List Int}, Drs K G vs ds → intsD ds = some bs → vs = bs.map V.int
  | [], _, _, h, e => by cases e; unfold Drs at h; exact h
  | d :: ds, _, _, h, e => by
    unfold Drs at h
    obtain ⟨v, r, e1, p, q⟩ := h
    cases d with
    | int k =>
      unfold intsD at e
      cases z : intsD ds with
      | none => rw [z] at e; cases e
      | some bs =>
        rw [z] at e; cases e
        rw [e1, p.int_inv, Drs.ints q z]; rfl
    | _ => cases e
def pAll : List D → Option Wv
  | [.list ds] => (boolsD ds).map fun bs => .d (.bool (bs.all fun b => b))
  | _ => none
def pAny : List D → Option Wv
  | [.list ds] => (boolsD ds).map fun bs => .d (.bool (bs.any fun b => b))
  | _ => none
def pSum : List D → Option Wv
  | [.list ds] => (intsD ds).map fun bs => .d (.int bs.sum)
  | _ => none
theorem cr_all' (hc : X.calm = true) : CallR X (.builtin "all") (rC X.K X.mg E pAll) := by
  intro pins s σ H vs us Q I r ⟨G, ρ, fp, σ', ds, c, dr, q⟩
  unfold pAll at q
  split at q
  · rename_i ds
    cases z : boolsD ds with
    | none => rw [z] at q; exact q.elim
    | some bs =>
      rw [z] at q
      obtain ⟨v, e1, h1⟩ := dr.one
      obtain ⟨a, xs, e2, h2, h3⟩ := h1.lst_inv
      have e3 := h3.bools z
      subst e3
      exact cr_all hc pins s σ H vs us Q I r ⟨a, bs, by rw [e1, e2], SqL.of (c.sg _ _ h2), ResE.val c Dr.bool q⟩
  · exact q.elim
theorem cr_any' (hc : X.calm = true) : CallR X (.builtin "any") (rC X.K X.mg E pAny) := by
  intro pins s σ H vs us Q I r ⟨G, ρ, fp, σ', ds, c, dr, q⟩
  unfold pAny at q
  split at q
  · rename_i ds
    cases z : boolsD ds with
    | none => rw [z] at q; exact q.elim
    | some bs =>
      rw [z] at q
      obtain ⟨v, e1, h1⟩ := dr.one
      obtain ⟨a, xs, e2, h2, h3⟩ := h1.lst_inv
      have e3 := h3.bools z
      subst e3
      exact cr_any hc pins s σ H vs us Q I r ⟨a, bs, by rw [e1, e2], SqL.of (c.sg _ _ h2), ResE.val c Dr.bool q⟩
  · exact q.elim
theorem cr_sum' (hc : X.calm = true) : CallR X (.builtin "sum") (rC X.K X.mg E pSum) := by
  intro pins s σ H vs us Q I r ⟨G, ρ, fp, σ', ds, c, dr, q⟩
  unfold pSum at q
  split at q
  · rename_i ds
    cases z : intsD ds with
    | none => rw [z] at q; exact q.elim
    | some bs =>
      rw [z] at q
      obtain ⟨v, e1, h1⟩ := dr.one
      obtain ⟨a, xs, e2, h2, h3⟩ := h1.lst_inv
      have e3 := h3.ints z
      subst e3
      exact cr_sum hc pins s σ H vs us Q I r ⟨a, bs, by rw [e1, e2], SqL.of (c.sg _ _ h2), ResE.val c Dr.int q⟩
  · exact q.elim
def pAbs : List D → Option Wv
  | [.int i] => some (.d (.int (if i < 0 then -i else i)))
  | _ => none
theorem cr_abs : CallR X (.builtin "abs") (rC X.K X.mg E pAbs) := by
  intro pins s σ H vs us Q I r ⟨G, ρ, fp, σ', ds, c, dr, q⟩
  unfold pAbs at q
  split at q
  · obtain ⟨v, e1, h1⟩ := dr.one
    exact call_abs pins s σ H vs us Q I r ⟨_, by rw [e1, h1.int_inv], ResE.val c Dr.int q⟩
  · exact q.elim
def pInt : List D → Option Wv
  | [.int i] => some (.d (.int i))
  | [.bool b] => some (.d (.int (if b then 1 else 0)))
  | _ => none
theorem cr_int : CallR X (.type "int") (rC X.K X.mg E pInt) := by
  intro pins s σ H vs us Q I r ⟨G, ρ, fp, σ', ds, c, dr, q⟩
  unfold pInt at q
  split at q
  · obtain ⟨v, e1, h1⟩ := dr.one
    exact call_int1 pins s σ H vs us Q I r (.inl ⟨_, by rw [e1, h1.int_inv], ResE.val c Dr.int q⟩)
  · obtain ⟨v, e1, h1⟩ := dr.one
    exact call_int1 pins s σ H vs us Q I r (.inr ⟨_, by rw [e1, h1.bool_inv], ResE.val c Dr.int q⟩)
  · exact q.elim
def pMax2 : List D → Option Wv
  | [.int i, .int j] => some (.d (.int (if j > i then j else i)))
  | _ => none
def pMin2 : List D → Option Wv
  | [.int i, .int j] => some (.d (.int (if j < i then j else i)))
  | _ => none
theorem cr_max2 (hc : X.calm = true) : CallR X (.builtin "max") (rC X.K X.mg E pMax2) := by
  intro pins s σ H vs us Q I r ⟨G, ρ, fp, σ', ds, c, dr, q⟩
  unfold pMax2 at q
  split at q
  · obtain ⟨v, u, e1, h1, h2⟩ := dr.two
    exact call_max2 hc pins s σ H vs us Q I r ⟨_, _, by rw [e1, h1.int_inv, h2.int_inv], ResE.val c Dr.int q⟩
  · exact q.elim
theorem cr_min2 (hc : X.calm = true) : CallR X (.builtin "min") (rC X.K X.mg E pMin2) := by
  intro pins s σ H vs us Q I r ⟨G, ρ, fp, σ', ds, c, dr, q⟩
  unfold pMin2 at q
  split at q
  · obtain ⟨v, u, e1, h1, h2⟩ := dr.two
    exact call_min2 hc pins s σ H vs us Q I r ⟨_, _, by rw [e1, h1.int_inv, h2.int_inv], ResE.val c Dr.int q⟩
  · exact q.elim
def pGcd : List D → Option Wv
  | [.int i, .int j] => some (.d (.int ((Nat.gcd i.natAbs j.natAbs : Nat) : Int)))
  | _ => none
theorem cr_gcd' : CallR X (.builtin "math.gcd") (rC X.K X.mg E pGcd) := by
  intro pins s σ H vs us Q I r ⟨G, ρ, fp, σ', ds, c, dr, q⟩
  unfold pGcd at q
  split at q
  · obtain ⟨v, u, e1, h1, h2⟩ := dr.two
    exact cr_gcd pins s σ H vs us Q I r ⟨_, _, by rw [e1, h1.int_inv, h2.int_inv], ResE.val c Dr.int q⟩
  · exact q.elim
/-! ## isinstance -/
def tyD : D → String
  | .none => "NoneType"
  | .bool _ => "bool"
  | .int _ => "int"
  | .str _ => "str"
  | .list _ => "list"
  | .tuple _ => "tuple"
  | .dict _ => "dict"
theorem Dr.ty {K : Frg} {G H : Hp} {v : V} {d : D} (sg : Same G H) (h : Dr K G v d) : TyX K H v (.type (tyD d)) := by
  cases d with
  | none => rw [h.none_inv]; exact .base .non
  | bool b => rw [h.bool_inv]; exact .base (.bl _)
  | int b => rw [h.int_inv]; exact .base (.int _)
  | str b => rw [h.str_inv]; exact .base (.str _)
  | list b =>
    obtain ⟨_, _, e, h2, _⟩ := h.lst_inv
    rw [e]
    exact .base (.lst (sg _ _ h2))
  | tuple b =>
    obtain ⟨a, xs, e, h2, _⟩ := h.tup_inv
    rw [e]
    rcases same_seqT sg h2 with (h3 | ⟨o, h3⟩) | ⟨o, its, n, h3, h4, _⟩
    · exact .base (.tup h3)
    · exact .fTuple h3
    · exact .kTuple h3 h4
  | dict b =>
    obtain ⟨_, _, e, h2, _⟩ := h.dct_inv
    rw [e]
    exact .base (.dK (sg _ _ h2))
def isiD (T : String) (d : D) : Bool := tyD d == T || (T == "int" && tyD d == "bool")
theorem isi_ok (T : String) (hT : T = "int" ∨ T = "bool" ∨ T = "str" ∨ T = "tuple" ∨ T = "list" ∨ T = "dict") (d : D) : kitB (tyD d) T = some (isiD T d) := by
  rcases hT with rfl | rfl | rfl | rfl | rfl | rfl <;> cases d <;> first | rfl | decide +kernel
def sIsi (T : String) (f : ES) : ES := fun ρ => (fz (f ρ)).bind fun d r => .ok (.d (.bool (isiD T d))) r
theorem se_isi {x2 : Str} {p2 : Pos} (hm : X.mg "isinstance" = none) (hm2 : X.mg x2 = none) (hv2 : bootBuiltins x2 = some (.type T)) (hT : T = "int" ∨ T = "bool" ∨ T = "str" ∨ T = "tuple" ∨ T = "list" ∨ T = "dict") (ha : SE X E a fa)
    (hv : bootBuiltins "isinstance" = some (.builtin "isinstance") := by decide +kernel)
    (hg : Gl X "isinstance" := by rfl) (hg2 : Gl X x2 := by rfl) (hn : x2 ≠ "__name__" := by decide) (hd : (x2 == ("__debug__" : Str)) = false := by decide)
    (he : starEach [a, .Name x2 p2] X.env = (false, eval a X.env) :: starEach [.Name x2 p2] X.env := by rfl) (he2 : starEach [.Name x2 p2] X.env = (false, eval (.Name x2 p2) X.env) :: starEach [] X.env := by rfl)
    (hpl : (backTo pos (starEach [.Name x2 p2] X.env)).any (·.1) = false := by rfl) : SE X E (.Call (.Name "isinstance" p) [a, .Name x2 p2] [] pos) (sIsi T fa) :=
  pe_sub (pe_callB call_isi hg hm hv (pa_cons ha.D (pa_cons (pe_bltn (v := .ty T) hg2 hm2 hv2 rfl hn hd) pa_nil he2) he) (by decide) (by decide) he hpl) fun σ H Q ⟨G, ρ, fp, c, q⟩ => ⟨G, ρ, fp, c, seqD q fun d r v H1 G1 fp1 c1 s1 d1 q1 =>
    ⟨v, .ty T, .type (tyD d), .type T, isiD T d, rfl, .ty T, d1.ty c1.sg, kit_ty (isi_ok T hT d), ResE.val c1 Dr.bool (ResE.rebase s1 c1.sg q1)⟩⟩
/-! ## looking at a slot without freezing it -/
def lenW : Wv → Option Int
  | .d (.tuple ds) => some ds.length
  | .d (.list ds) => some ds.length
  | .d (.str z) => if z.length ≤ 1000000 then some z.length else none
  | .d _ => none
  | .o ws => some ws.length
  | .s ns => some ns.length
def sLenAt (i : Nat) : ES := fun ρ => match ρ[i]? with
  | some (some w) => (ofO (lenW w) ρ).bind fun n r => .ok (.d (.int n)) r
  | _ => .bad
theorem se_lenAt (i : Nat) {p2 : Pos} {x : Str} (hm : X.mg "len" = none) (hN : X.N[i]? = some x := by rfl) (hvis : Vis X.env.scope x := by first | exact Or.inl rfl | exact Or.inr (Or.inl rfl) | exact Or.inr (Or.inr rfl)) (hg : Gl X "len" := by rfl) (hd : (x == ("__debug__" : Str)) = false := by decide)
    (hcd : (x == ("__classdict__" : Str)) = false := by decide) (he : starEach [.Name x p2] X.env = (false, eval (.Name x p2) X.env) :: starEach [] X.env := by rfl)
    (hpl : (backTo pos (starEach [] X.env)).any (·.1) = false := by rfl) : SE X E (.Call (.Name "len" p) [.Name x p2] [] pos) (sLenAt i) :=
  pe_sub (pe_callB (call_len_seq.or call_len_str) hg hm PySem.boot_len (pa_cons (pe_var (i := i) hN hvis hd hcd) pa_nil he) (by decide) (by decide) he hpl) fun σ H Q ⟨G, ρ, fp, c, q⟩ => by
    unfold sLenAt at q
    split at q
    · rename_i w e
      obtain ⟨v, e1, r⟩ := c.get i w e
      refine ⟨v, e1, ?_⟩
      cases w with
      | o ws =>
        unfold Rw at r
        obtain ⟨a, vs, f, e2, h1, h2, e3, h3⟩ := r
        exact .inl ⟨a, vs, by rw [e2], .inl (SqL.of h1), by rw [h3.length]; exact ResE.val c Dr.int q⟩
      | s ns =>
        unfold Rw at r
        obtain ⟨e2, a, e3, h1⟩ := r
        exact .inl ⟨a, _, by rw [e3], .inl (c.sg.seq h1), by rw [List.length_map]; exact ResE.val c Dr.int q⟩
      | d y =>
        unfold Rw at r
        obtain ⟨e2, r⟩ := r
        cases y with
        | tuple ds =>
          obtain ⟨a, xs, e3, h2, h3⟩ := r.tup_inv
          exact .inl ⟨a, xs, by rw [e3], .inr (same_seqT c.sg h2), by rw [h3.length]; exact ResE.val c Dr.int q⟩
        | list ds =>
          obtain ⟨a, xs, e3, h2, h3⟩ := r.lst_inv
          exact .inl ⟨a, xs, by rw [e3], .inl (SqL.of (c.sg _ _ h2)), by rw [h3.length]; exact ResE.val c Dr.int q⟩
        | str z =>
          by_cases h : z.length ≤ 1000000
          · have z1 : lenW (.d (.str z)) = some (z.length : Int) := if_pos h
            rw [z1] at q
            exact .inr ⟨z, by rw [r.str_inv], Nat.le_trans h line6, ResE.val c Dr.int q⟩
          · have z1 : lenW (.d (.str z)) = none := if_neg h
            rw [z1] at q
            exact q.elim
        | _ => exact q.elim
    · exact q.elim
end
end FW

set_option Elab.async false
set_option linter.all false
set_option maxRecDepth 100000
set_option maxHeartbeats 1000001
namespace FW
open PySem PySem.Spec L2
/-! ## what is walked: a list or a tuple, by a flag -/
def SqB (b : Bool) (K : Frg) (H : Hp) (a : Addr) (xs : List V) : Prop := match b with
  | true => SqT K H a xs
  | false => SqL K H a xs
def ItB (b : Bool) (h : Heap) (it a : Addr) (i : Nat) : Prop := match b with
  | true => h.IsTupleIter it a i
  | false => h.IsListIter it a i
def HpB (b : Bool) (h : Heap) (a : Addr) (items : Array Value) : Prop := match b with
  | true => h.IsTuple a items
  | false => h.IsList a items
def itO (b : Bool) (a : Addr) : Obj := match b with
  | true => { cls := .type "tuple_iterator", data := .fields #[.ref a, .int 0 0] }
  | false => { cls := .type "list_iterator", data := .fields #[.ref a, .int 0 0] }
theorem sqB_get {X : Cx} {pins : List (Addr × Obj)} {σ : St} {H : Hp} {s : Shared} {a : Addr} {xs : List V} {b : Bool} (I : Inv X pins σ H s) (h : SqB b X.K H a xs) : ∃ its : List Value, Vals xs its ∧ HpB b s.heap a its.toArray ∧ a < s.heap.objs.size := by
  cases b with
  | true =>
    obtain ⟨its, r, p, _⟩ := I.tuple h
    obtain ⟨o, e, _⟩ := id p
    exact ⟨its, r, p, Heap.lt_size e⟩
  | false =>
    obtain ⟨its, r, p, _⟩ := I.list h
    exact ⟨its, r, p.isList, p.lt⟩
theorem drawsB {prog : Program} {w : World} {A : Around} (hh : A.handled = none) (b : Bool) (it a : Addr) (hne : a ≠ it) (items : Array Value) :
    Draws prog w A it [it, a] items.size (fun i v => items[i]? = some v) (fun i h => ItB b h it a i ∧ HpB b h a items) := by
  cases b with
  | true => exact Draws.tuple hh it a hne items
  | false => exact Draws.list hh it a hne items
theorem beginsB (b : Bool) (a : Addr) (items : Array Value) : Begins (.ref a) (itO b a) fun h => HpB b h a items := by
  cases b with
  | true => exact begins_tuple a items
  | false => exact begins_list a items
theorem ItB.at {b : Bool} {h h' : Heap} {it a : Addr} {i : Nat} (x : ItB b h it a i) (k : ∀ o, h.get? it = some o → h'.get? it = some o) : ItB b h' it a i := by
  cases b with
  | true => exact Heap.IsTupleIter.at x k
  | false => exact Heap.IsListIter.at x k
theorem ItB.obj {b : Bool} {h : Heap} {it a : Addr} {i : Nat} (x : ItB b h it a i) : ∃ o, h.get? it = some o ∧ ∀ v, o.data ≠ .cell v := by
  cases b with
  | true =>
    obtain ⟨o, e, _, d⟩ := x; exact ⟨o, e, fun v z => by rw [d] at z; cases z⟩
  | false =>
    obtain ⟨o, e, _, d⟩ := x; exact ⟨o, e, fun v z => by rw [d] at z; cases z⟩
theorem itB_new {b : Bool} {h : Heap} {it a : Addr} (e : h.get? it = some (itO b a)) : ItB b h it a 0 := by
  cases b with
  | true => exact ⟨_, e, rfl, rfl⟩
  | false => exact ⟨_, e, rfl, rfl⟩
theorem itO_free (b : Bool) (a : Addr) : (itO b a).isFreed = false := by cases b <;> rfl

theorem sub5 {z TI TO i1 i2 b : Addr} (m : b ∈ [z, TO, i1, i2]) : b ∈ [z, TI, TO, i1, i2] := by
  simp only [List.mem_cons, List.not_mem_nil, or_false] at m
  rcases m with q | q | q | q <;> simp [q]
/-! ## zip of two -/
def JZip (K : Frg) (b1 b2 : Bool) (a1 a2 : Addr) (xs ys : List V) : It :=
  ⟨fun i H => i < min xs.length ys.length ∧ SqB b1 K H a1 xs ∧ SqB b2 K H a2 ys,
   fun i H v H' => ∃ T x y, v = .ref T ∧ H T = none ∧ H' = upd H T (.tup [x, y]) ∧ xs[i]? = some x ∧ ys[i]? = some y,
   fun i H => min xs.length ys.length ≤ i ∧ SqB b1 K H a1 xs ∧ SqB b2 K H a2 ys⟩
def tnZip (b1 b2 : Bool) (a1 a2 : Addr) (N : Nat) (z TI TO i1 i2 : Addr) (i : Nat) (h : Heap) : Prop :=
  i ≤ N ∧ IsZip h z TI TO .none ∧ IsTupOf2 h TI (.ref i1) (.ref i2) ∧ (∃ x y, IsTupOf2 h TO x y) ∧ ItB b1 h i1 a1 i ∧ ItB b2 h i2 a2 i
theorem turn_zipB {P : Program} {w : World} {K : Frg} {elts : List Expr} {kk : Nat} {tpos : Pos} {b1 b2 : Bool} {a1 a2 z TI TO i1 i2 : Addr} {xs ys : List V} (n1 : a1 ≠ i1) (n2 : a2 ≠ i2) (S : ZipSep2 z TI TO i1 i2 [i1, a1] [i2, a2]) :
    Turn P w K (.Tuple elts kk tpos) (JZip K b1 b2 a1 a2 xs ys) [z, TI, TO, i1, i2] z (tnZip b1 b2 a1 a2 (min xs.length ys.length) z TI TO i1 i2) where
  mem := List.mem_cons_self
  obj := fun i h st c hc => by
    obtain ⟨_, hz, hTI, ⟨x, y, hTO⟩, h1, h2⟩ := st
    simp only [List.mem_cons, List.not_mem_nil, or_false] at hc
    rcases hc with q | q | q | q | q
    · rw [q]; exact ⟨_, hz, (fun v q => nomatch q)⟩
    · rw [q]; exact ⟨_, hTI, (fun v q => nomatch q)⟩
    · rw [q]; exact ⟨_, hTO, (fun v q => nomatch q)⟩
    · rw [q]; exact h1.obj
    · rw [q]; exact h2.obj
  keep := fun i h h' st k => by
    obtain ⟨hn, hz, hTI, ⟨x, y, hTO⟩, h1, h2⟩ := st
    exact ⟨hn, k z (by simp) _ hz, k TI (by simp) _ hTI, ⟨x, y, k TO (by simp) _ hTO⟩, h1.at fun o q => k i1 (by simp) o q, h2.at fun o q => k i2 (by simp) o q⟩
  item := by
    intro X hP hw hK hc i pins s σ H E I hf st hg; subst hP hw hK
    obtain ⟨hn, hz, hTI, hTO, h1, h2⟩ := st
    obtain ⟨hlt, q1, q2⟩ := hg
    obtain ⟨its1, r1, p1, _⟩ := sqB_get I q1
    obtain ⟨its2, r2, p2, _⟩ := sqB_get I q2
    have hA : X.A.in1.handled = none := I.ok.hd hc
    have W := GoesN.zip2 (elts := elts) (x1 := kk) (pos := tpos) S (drawsB (prog := X.prog) (w := X.w) hA b1 i1 a1 n1 its1.toArray) (drawsB (prog := X.prog) (w := X.w) hA b2 i2 a2 n2 its2.toArray)
    have l1 := r1.length
    have l2 := r2.length
    refine W.goes i s _ E (by simp only [List.size_toArray]; rw [← l1, ← l2]; exact hlt) ⟨hz, hTI, hTO, ⟨h1, p1⟩, ⟨h2, p2⟩⟩ fun v h' tk hY hS hk _ => ?_
    obtain ⟨T, u1, u2, ev, hT, hu1, hu2, hTup⟩ := hY
    obtain ⟨hz', hTI', hTO', ⟨h1', _⟩, ⟨h2', _⟩⟩ := hS
    have x1 : ∃ x, xs[i]? = some x := ⟨xs[i]'(by omega), List.getElem?_eq_getElem _⟩
    have x2 : ∃ x, ys[i]? = some x := ⟨ys[i]'(by omega), List.getElem?_eq_getElem _⟩
    obtain ⟨x, hx⟩ := x1
    obtain ⟨y, hy⟩ := x2
    obtain ⟨u, hu, ru⟩ := r1.get hx
    obtain ⟨u', hu', ru'⟩ := r2.get hy
    have eu : u1 = u := Option.some.inj (hu1.symm.trans (by simpa using hu))
    have eu' : u2 = u' := Option.some.inj (hu2.symm.trans (by simpa using hu'))
    subst eu eu' ev
    obtain ⟨oT, eT, cT, nT, dT⟩ := hTup
    have new : ObjOk X.prog X.w (upd H T (.tup [x, y])) h' T (.tup [x, y]) := ⟨by show 2 ≤ sizeLine; decide, [u1, u2], .cons ru (.cons ru' .nil), ⟨oT, eT, cT, nT, dT⟩⟩
    have I1 : Inv X pins σ (upd H T (.tup [x, y])) { s with heap := h', toks := tk } := I.turnedNew (fun b o hb q => hk b o (fun m => hb (sub5 m)) q) hf hT new
    refine ⟨.ref T, _, I1, rfl, ⟨T, x, y, rfl, I.hok.fresh hT, rfl, hx, hy⟩, ⟨by omega, hz', hTI', hTO', h1', h2'⟩, fun b hb => ?_⟩
    have hbl : b < s.heap.objs.size := by
      obtain ⟨x0, y0, hTO0⟩ := hTO
      simp only [List.mem_cons, List.not_mem_nil, or_false] at hb; rcases hb with q | q | q | q | q
      · rw [q]; exact Heap.lt_size hz
      · (rw [q]; exact Heap.lt_size hTI) 
      · rw [q]; exact Heap.lt_size hTO0
      · rw [q]; obtain ⟨o, e, _⟩ := h1.obj; exact Heap.lt_size e
      · rw [q]; obtain ⟨o, e, _⟩ := h2.obj; exact Heap.lt_size e
    rw [upd_ne (Nat.ne_of_lt (Nat.lt_of_lt_of_le hbl hT))]
    exact (hf b hb).1
  done := by
    intro X hP hw hK hc i pins s σ H E I hf st hg; subst hP hw hK
    obtain ⟨hn, hz, hTI, hTO, h1, h2⟩ := st
    obtain ⟨hge, q1, q2⟩ := hg
    obtain ⟨its1, r1, p1, _⟩ := sqB_get I q1
    obtain ⟨its2, r2, p2, _⟩ := sqB_get I q2
    have hA : X.A.in1.handled = none := I.ok.hd hc
    have W := GoesN.zip2 (elts := elts) (x1 := kk) (pos := tpos) S (drawsB (prog := X.prog) (w := X.w) hA b1 i1 a1 n1 its1.toArray) (drawsB (prog := X.prog) (w := X.w) hA b2 i2 a2 n2 its2.toArray)
    have ei : i = min its1.toArray.size its2.toArray.size := by
      simp only [List.size_toArray]
      rw [← r1.length, ← r2.length]; omega
    subst ei
    refine W.stops s _ E ⟨hz, hTI, hTO, ⟨h1, p1⟩, ⟨h2, p2⟩⟩ fun h' tk hk _ => ?_
    exact I.turnedL (ch := [z, TI, TO, i1, i2]) (fun b o hb q => hk b o (fun m => hb (sub5 m)) q) hf
  self := fun A i s Q E st h => wpAny_pyIter_zip st.2.1 h

def iZipB (K : Frg) (ta : TA) : TI := fun σ H R => ta σ H fun vs H1 => ∃ a1 a2 b1 b2 xs ys, vs = [.ref a1, .ref a2] ∧ SqB b1 K H1 a1 xs ∧ SqB b2 K H1 a2 ys ∧ R (JZip K b1 b2 a1 a2 xs ys) H1
theorem pi_zipB {X : Cx} {e e2 : Expr} {ta : TA} {p pos tpos : Pos} {elts : List Expr} {kk : Nat} (hg : Gl X "zip") (hm : X.mg "zip" = none) (ha : PA X [e, e2] ta)
    (hs : starEach [e, e2] X.env = (false, eval e X.env) :: starEach [e2] X.env := by rfl)
    (hpl : (backTo pos (starEach [e2] X.env)).any (·.1) = false := by rfl) :
    PI X (.Tuple elts kk tpos) (.Call (.Name "zip" p) [e, e2] [] pos) (iZipB X.K ta) := by
  refine ⟨fun pins s σ H R I h => PyProof.Rows.Call_ (ld_blt I hg hm PyProof.Rows.boot_zip (PyProof.Rows.callWith_type1 (thn (ha.run pos pins s σ H _ I h) fun us t ⟨vs, H1, J, r, q⟩ => ?_) hs hpl))⟩
  obtain ⟨a1, a2, b1, b2, xs, ys, rfl, q1, q2, q⟩ := q
  obtain ⟨u1, u2, rfl, ru1, ru2⟩ := vals2 r
  cases ru1
  cases ru2
  obtain ⟨its1, r1, p1, l1⟩ := sqB_get J q1
  obtain ⟨its2, r2, p2, l2⟩ := sqB_get J q2
  refine zip_begins2 (beginsB b1 a1 its1.toArray) (beginsB b2 a2 its2.toArray) p1 p2 fun h' hz hTI hTO o1 o2 hsz hk => wpAny_pyIter_zip hz ?_
  have J2 : Inv X pins σ H1 { t with heap := h' } := J.kept (t' := t.toks) hk
  have n1 : a1 ≠ t.heap.objs.size := Nat.ne_of_lt l1
  have n2 : a2 ≠ t.heap.objs.size + 1 := Nat.ne_of_lt (Nat.lt_succ_of_lt l2)
  have S := zip_sep2 (N := t.heap.objs.size) (fp1 := [a1]) (fp2 := [a2]) (fun b hb => by rw [List.mem_singleton.mp hb]; exact l1) (fun b hb => by rw [List.mem_singleton.mp hb]; exact l2)
  refine ⟨t.heap.objs.size + 4, _, _, _, H1, rfl, J2, turn_zipB (xs := xs) (ys := ys) n1 n2 S, ⟨Nat.zero_le _, hz, hTI, ⟨_, _, hTO⟩, itB_new o1, itB_new o2⟩, fun b hb => ?_, q⟩
  have hle : t.heap.objs.size ≤ b := by
    simp only [List.mem_cons, List.not_mem_nil, or_false] at hb; rcases hb with z | z | z | z | z <;> (rw [z]; first | exact Nat.le_add_right _ _ | exact Nat.le_refl _)
  exact J.fpOk hle (J.hok.fresh hle)

/-! ## enumerate of one -/
theorem meets_enum1 {v : Value} {o : Obj} {H : Heap → Prop} (B : Begins v o H) : Meets (Builtin.«enumerate.__new__» ⟨[.type "enumerate", v], []⟩) (fun _ R s => H s.heap ∧
    R (.ok (.ret (.ref (s.heap.push o).objs.size))) { s with heap := (s.heap.push o).push { cls := .type "enumerate", data := .fields #[.none, .bool false, .ref s.heap.objs.size, rawInt 0, .none, .none] } }) :=
  .of_wp fun prog w A R s hh => by
    obtain ⟨hp, g, dr, tk, os⟩ := s; obtain ⟨hv, hq⟩ := hh
    have hsub := sub_enumerate
    have step : ∀ {A' : Around} {E : Value → Shared → Prop} {Q : Value → Shared → Prop}, Q (.ref hp.objs.size) ⟨hp.push o, g, dr, tk, os⟩ → wpAny (model prog w) A' (pyIter v) Q E ⟨hp, g, dr, tk, os⟩ := fun z => B.iter prog w _ _ ⟨hp, g, dr, tk, os⟩ _ hv z
    wp_walk using step
    refine wpAny_stack_any fun st => wpAny_pure ?_; split
    · rename_i cc _ _ _ _ _
      cases (cc == Value.type "enumerate") <;> (wp_walk using step; exact ⟨_, rfl, hq⟩)
    · wp_walk using step
      exact ⟨_, rfl, hq⟩
def JEnum (K : Frg) (b : Bool) (a : Addr) (xs : List V) : It :=
  ⟨fun i H => i < xs.length ∧ SqB b K H a xs, fun i H v H' => ∃ T x, v = .ref T ∧ H T = none ∧ H' = upd H T (.tup [.int (i : Nat), x]) ∧ xs[i]? = some x, fun i H => xs.length ≤ i ∧ SqB b K H a xs⟩
theorem turn_enumB {P : Program} {w : World} {K : Frg} {elts : List Expr} {kk : Nat} {tpos : Pos} {b : Bool} {a e it : Addr} {xs : List V} (n1 : a ≠ it) (n2 : e ≠ it) (n3 : e ≠ a) :
    Turn P w K (.Tuple elts kk tpos) (JEnum K b a xs) [e, it] e (fun i h => i ≤ xs.length ∧ (∃ old, IsEnum h e it (0 + (i : Int)) old) ∧ ItB b h it a i) where
  mem := List.mem_cons_self
  obj := fun i h st c hc => by
    obtain ⟨_, ⟨old, he⟩, h1⟩ := st
    simp only [List.mem_cons, List.not_mem_nil, or_false] at hc
    rcases hc with q | q
    · rw [q]; exact ⟨_, he, (fun v q => nomatch q)⟩
    · rw [q]; exact h1.obj
  keep := fun i h h' st k => by
    obtain ⟨hn, ⟨old, he⟩, h1⟩ := st
    exact ⟨hn, ⟨old, k e (by simp) _ he⟩, h1.at fun o q => k it (by simp) o q⟩
  item := by
    intro X hP hw hK hc i pins s σ H E I hf st hg; subst hP hw hK
    obtain ⟨hn, he, h1⟩ := st
    obtain ⟨hlt, q1⟩ := hg
    obtain ⟨its1, r1, p1, _⟩ := sqB_get I q1
    have hA : X.A.in1.handled = none := I.ok.hd hc
    have W := GoesN.enumFrom (elts := elts) (x1 := kk) (pos := tpos) 0 (drawsB (prog := X.prog) (w := X.w) hA b it a n1 its1.toArray) e n2 (by simp [n2, n3]) (by simp)
    have l1 := r1.length
    refine W.goes i s _ E (by simp only [List.size_toArray]; omega) ⟨he, ⟨h1, p1⟩⟩ fun v h' tk hY hS hk _ => ?_
    obtain ⟨T, t, u1, ev, hT, hu1, hTup⟩ := hY
    obtain ⟨he', ⟨h1', _⟩⟩ := hS
    obtain ⟨x, hx⟩ : ∃ x, xs[i]? = some x := ⟨xs[i]'hlt, List.getElem?_eq_getElem _⟩
    obtain ⟨u, hu, ru⟩ := r1.get hx
    have eu : u1 = u := Option.some.inj (hu1.symm.trans (by simpa using hu))
    subst eu ev
    obtain ⟨oT, eT, cT, nT, dT⟩ := hTup
    have new : ObjOk X.prog X.w (upd H T (.tup [.int (i : Nat), x])) h' T (.tup [.int (i : Nat), x]) := ⟨by show 2 ≤ sizeLine; decide, [.int (0 + (i : Int)) t, u1], .cons ⟨t, by rw [Int.zero_add]⟩ (.cons ru .nil), ⟨oT, eT, cT, nT, dT⟩⟩
    have I1 : Inv X pins σ (upd H T (.tup [.int (i : Nat), x])) { s with heap := h', toks := tk } := I.turnedNew hk hf hT new
    refine ⟨.ref T, _, I1, rfl, ⟨T, x, rfl, I.hok.fresh hT, rfl, hx⟩, ⟨by omega, he', h1'⟩, fun c hb => ?_⟩
    have hbl : c < s.heap.objs.size := by
      obtain ⟨old, he0⟩ := he
      simp only [List.mem_cons, List.not_mem_nil, or_false] at hb; rcases hb with q | q
      · rw [q]; exact Heap.lt_size he0
      · rw [q]; obtain ⟨o, eo, _⟩ := h1.obj; exact Heap.lt_size eo
    rw [upd_ne (Nat.ne_of_lt (Nat.lt_of_lt_of_le hbl hT))]
    exact (hf c hb).1
  done := by
    intro X hP hw hK hc i pins s σ H E I hf st hg; subst hP hw hK
    obtain ⟨hn, he, h1⟩ := st
    obtain ⟨hge, q1⟩ := hg
    obtain ⟨its1, r1, p1, _⟩ := sqB_get I q1
    have hA : X.A.in1.handled = none := I.ok.hd hc
    have W := GoesN.enumFrom (elts := elts) (x1 := kk) (pos := tpos) 0 (drawsB (prog := X.prog) (w := X.w) hA b it a n1 its1.toArray) e n2 (by simp [n2, n3]) (by simp)
    have ei : i = its1.toArray.size := by
      simp only [List.size_toArray]
      rw [← r1.length]; omega
    subst ei
    exact W.stops s _ E ⟨he, ⟨h1, p1⟩⟩ fun h' tk hk _ => I.turnedL (ch := [e, it]) hk hf
  self := fun A i s Q E st h => let ⟨_, ⟨_, he⟩, _⟩ := st; wpAny_pyIter_enum he h
theorem call_enumB {prog : Program} {w : World} {A : Around} {E : Value → Shared → Prop} {s : Shared} {v : Value} {o : Obj} {H : Heap → Prop} {Q : Value → Shared → Prop} (B : Begins v o H) (h1 : H s.heap)
    (h : ∀ h', IsEnum h' (s.heap.objs.size + 1) s.heap.objs.size 0 .none → h'.get? s.heap.objs.size = some o → (∀ b o, s.heap.get? b = some o → h'.get? b = some o) → Q (.ref (s.heap.objs.size + 1)) { s with heap := h' }) :
    wpAny (model prog w) A (call (.type "enumerate") [v]) Q E s := by
  refine callType_new PySem.F.called_enumerate (by decide) (PySem.F.typeCall_enumerate_1 _) (PySem.F.newCall_enumerate_1 _) (fun obj => PySem.F.args_object_init_2 obj _) PySem.F.entry_enumerate_new (meets_enum1 B) ⟨h1, ?_⟩
  have sz : (s.heap.push o).objs.size = s.heap.objs.size + 1 := by rw [Heap.size_push]
  show _ ∧ _
  rw [sz]
  have new : IsEnum ((s.heap.push o).push { cls := .type "enumerate", data := .fields #[.none, .bool false, .ref s.heap.objs.size, rawInt 0, .none, .none] }) (s.heap.objs.size + 1) s.heap.objs.size 0 .none := by
    rw [← sz]
    exact Heap.get?_push_size (s.heap.push o) rfl
  exact ⟨⟨_, new, rfl⟩, h _ new (Heap.get?_push_of_some _ (Heap.get?_push_size _ B.free)) fun b o x => Heap.get?_push_of_some _ (Heap.get?_push_of_some _ x)⟩
def iEnumB (K : Frg) (ta : TA) : TI := fun σ H R => ta σ H fun vs H1 => ∃ a b xs, vs = [.ref a] ∧ SqB b K H1 a xs ∧ R (JEnum K b a xs) H1
theorem pi_enumB {X : Cx} {e : Expr} {ta : TA} {p pos tpos : Pos} {elts : List Expr} {kk : Nat} (hg : Gl X "enumerate") (hm : X.mg "enumerate" = none) (ha : PA X [e] ta) (hs : starEach [e] X.env = [(false, eval e X.env)] := by rfl) :
    PI X (.Tuple elts kk tpos) (.Call (.Name "enumerate" p) [e] [] pos) (iEnumB X.K ta) := by
  refine ⟨fun pins s σ H R I h => PyProof.Rows.Call_ (ld_blt I hg hm PyProof.Rows.boot_enumerate (PyProof.Rows.callWith_type1 (thn (ha.run pos pins s σ H _ I h) fun us t ⟨vs, H1, J, r, q⟩ => ?_) hs rfl))⟩
  obtain ⟨a, b, xs, rfl, q1, q⟩ := q
  obtain ⟨u1, rfl, ru1⟩ := vals1 r
  cases ru1
  obtain ⟨its1, r1, p1, l1⟩ := sqB_get J q1
  refine call_enumB (beginsB b a its1.toArray) p1 fun h' he o1 hk => wpAny_pyIter_enum he ?_
  have J2 : Inv X pins σ H1 { t with heap := h' } := J.kept (t' := t.toks) hk
  refine ⟨t.heap.objs.size + 1, _, _, _, H1, rfl, J2, turn_enumB (b := b) (a := a) (it := t.heap.objs.size) (xs := xs) (Nat.ne_of_lt l1) (Nat.succ_ne_self _) (Nat.ne_of_gt (Nat.lt_succ_of_lt l1)), ⟨Nat.zero_le _, ⟨_, he⟩, itB_new o1⟩, fun c hb => ?_, q⟩
  have hle : t.heap.objs.size ≤ c := by
    simp only [List.mem_cons, List.not_mem_nil, or_false] at hb; rcases hb with z | z <;> (rw [z]; first | exact Nat.le_add_right _ _ | exact Nat.le_refl _)
  exact J.fpOk hle (J.hok.fresh hle)
end FW

set_option Elab.async false
set_option linter.all false
set_option maxRecDepth 100000
set_option maxHeartbeats 1000001
namespace FW
open PySem PySem.Spec L2
/-! ## arguments with what they own -/
structure PA' (K : Frg) (H G : Hp) (fp : Fp) (σ : St) (ρ' : Rho) (vs : List V) (ws : List Wv) (H' G' : Hp) (fp' : Fp) (fv : List Addr) : Prop where
  c : Cfg K H' G' σ ρ' fp'
  st : Step fp H G fp' H' G'
  r : Rws K H' G' vs ws fv
  nd : fv.Nodup
  sep : ∀ a ∈ fv, ¬ Own fp' a
  nwv : ∀ a ∈ fv, Own fp a ∨ H a = none
abbrev ResW (K : Frg) (mg : Mg) (E : WX) (H G : Hp) (fp : Fp) (σ : St) (Q : List V → Hp → Prop) (o : Out (List Wv)) : Prop :=
  ResO (fun ws ρ' => ∀ vs H' G' fp' fv, PA' K H G fp σ ρ' vs ws H' G' fp' fv → Q vs H') (ResX K mg E H G fp σ) o
def tW (K : Frg) (mg : Mg) (E : WX) (f : Rho → Out (List Wv)) : TA := fun σ H Q => ∃ G ρ fp, Cfg K H G σ ρ fp ∧ ResW K mg E H G fp σ Q (f ρ)
def SAW (X : Cx) (E : WX) (es : List Expr) (f : Rho → Out (List Wv)) : Prop := PA X es (tW X.K X.mg E f)
def wNil : Rho → Out (List Wv) := fun ρ => .ok [] ρ
def wCons (f : ES) (fs : Rho → Out (List Wv)) : Rho → Out (List Wv) := fun ρ => (f ρ).bind fun w r => (fs r).bind fun ws r => .ok (w :: ws) r
section
variable {K : Frg} {mg : Mg} {E : WX} {H G H1 G1 : Hp} {fp fp1 : Fp} {σ : St} {ρ : Rho}
theorem Step.in' (s : Step fp H G fp1 H1 G1) {a : Addr} (h : Own fp a ∨ H a = none) : Own fp a ∨ H a = none := h
/-- a temporary stands while the rest runs -/
theorem Rw.keep {w : Wv} {v : V} {f : List Addr} (r : Rw K H G v w f) (s : Step fp H G fp1 H1 G1) (sep : ∀ a ∈ f, ¬ Own fp a) : Rw K H1 G1 v w f ∧ ∀ a ∈ f, ¬ Own fp1 a := by
  refine ⟨Rw.move s.x.sg w v f r fun a ha => ?_, fun a ha h => ?_⟩
  · obtain ⟨vs, h1, g1⟩ := Rw.there w v f r a ha
    obtain ⟨h2, g2⟩ := s.x.oth a _ h1 g1 (sep a ha)
    exact ⟨h2.trans h1.symm, g2⟩
  · obtain ⟨vs, h1, g1⟩ := Rw.there w v f r a ha
    rcases s.nw a h with z | z
    · exact sep a ha z
    · rw [h1] at z; cases z
theorem Rws.keep {w : List Wv} {v : List V} {f : List Addr} (r : Rws K H G v w f) (s : Step fp H G fp1 H1 G1) (sep : ∀ a ∈ f, ¬ Own fp a) : Rws K H1 G1 v w f ∧ ∀ a ∈ f, ¬ Own fp1 a := by
  refine ⟨Rws.move s.x.sg w v f r fun a ha => ?_, fun a ha h => ?_⟩
  · obtain ⟨vs, h1, g1⟩ := Rws.there w v f r a ha
    obtain ⟨h2, g2⟩ := s.x.oth a _ h1 g1 (sep a ha)
    exact ⟨h2.trans h1.symm, g2⟩
  · obtain ⟨vs, h1, g1⟩ := Rws.there w v f r a ha
    rcases s.nw a h with z | z
    · exact sep a ha z
    · rw [h1] at z; cases z
theorem ResW.rebase (s : Step fp H G fp1 H1 G1) (sg : Same G1 H1) {Q : List V → Hp → Prop} {o : Out (List Wv)} (h : ResW K mg E H G fp σ Q o) : ResW K mg E H1 G1 fp1 σ Q o :=
  ResO.imp (fun _ _ q v H' G' fp' fv p => q v H' G' fp' fv ⟨p.c, s.trans p.st sg, p.r, p.nd, p.sep, fun a h => (p.nwv a h).elim (s.nw a) fun z => .inr (s.x.dom a z)⟩) (fun _ _ q => ResX.rebase s sg q) h
theorem seqE {α : Type} {pok : α → Rho → Prop} {o : Out Wv} {k : Wv → Rho → Out α} {R : VK} (h : ResO pok (ResX K mg E H G fp σ) (o.bind k))
    (f : ∀ w ρ' v H' G' fp' fv, PV K H G fp σ ρ' v w H' G' fp' fv → ResO pok (ResX K mg E H G fp σ) (k w ρ') → R v H') : ResE K mg E H G fp σ R o :=
  ResO.imp (fun w ρ' q v H' G' fp' fv p => f w ρ' v H' G' fp' fv p q) (fun _ _ q => q) (ResO.bind h)
theorem seqW {α : Type} {pok : α → Rho → Prop} {o : Out (List Wv)} {k : List Wv → Rho → Out α} {R : List V → Hp → Prop} (h : ResO pok (ResX K mg E H G fp σ) (o.bind k))
    (f : ∀ ws ρ' vs H' G' fp' fv, PA' K H G fp σ ρ' vs ws H' G' fp' fv → ResO pok (ResX K mg E H G fp σ) (k ws ρ') → R vs H') : ResW K mg E H G fp σ R o :=
  ResO.imp (fun w ρ' q v H' G' fp' fv p => f w ρ' v H' G' fp' fv p q) (fun _ _ q => q) (ResO.bind h)
end
section
variable {X : Cx} {E : WX} {e a b c : Expr} {es rest : List Expr} {f fa fb fc : ES} {pos : Pos}
theorem sw_nil : SAW X E [] wNil := pa_sub pa_nil fun σ H Q ⟨G, ρ, fp, c, q⟩ => q [] H G fp [] ⟨c, .refl, by unfold Rws; exact ⟨rfl, rfl⟩, List.nodup_nil, (fun _ z => nomatch z), (fun _ z => nomatch z)⟩
theorem seqW1 {α : Type} {K : Frg} {mg : Mg} {H G H1 G1 : Hp} {fp fp1 : Fp} {σ : St} {pok : α → Rho → Prop} {o : Out (List Wv)} {k : List Wv → Rho → Out α} {R : List V → Hp → Prop} (s : Step fp H G fp1 H1 G1) (sg : Same G1 H1) (h : ResO pok (ResX K mg E H G fp σ) (o.bind k))
    (f : ∀ ws ρ' vs H' G' fp' fv, PA' K H1 G1 fp1 σ ρ' vs ws H' G' fp' fv → ResO pok (ResX K mg E H G fp σ) (k ws ρ') → R vs H') : ResW K mg E H1 G1 fp1 σ R o :=
  ResO.imp (fun w ρ' q v H' G' fp' fv p => f w ρ' v H' G' fp' fv p q) (fun _ _ q => ResX.rebase s sg q) (ResO.bind h)
theorem sw_cons {fs : Rho → Out (List Wv)} (ha : SE X E e f) (hr : SAW X E es fs) (hs : starEach (e :: es) X.env = (false, eval e X.env) :: starEach es X.env := by rfl) : SAW X E (e :: es) (wCons f fs) :=
  pa_sub (pa_cons ha hr hs) fun σ H Q ⟨G, ρ, fp, c, q⟩ => ⟨G, ρ, fp, c, seqE q fun w r v H1 G1 fp1 f1 p1 q1 => ⟨G1, r, fp1, p1.c, seqW1 p1.st p1.c.sg q1 fun ws r2 vs H2 G2 fp2 f2 p2 q2 => by
    obtain ⟨k1, k2⟩ := p1.r.keep p2.st p1.sep
    refine q2 (v :: vs) H2 G2 fp2 (f1 ++ f2) ⟨p2.c, p1.st.trans p2.st p1.c.sg, ?_, ?_, ?_, ?_⟩
    · unfold Rws; exact ⟨v, vs, f1, f2, rfl, rfl, k1, p2.r⟩
    · refine List.nodup_append.mpr ⟨p1.nd, p2.nd, fun x hx y hy e => ?_⟩
      subst e
      rcases p2.nwv x hy with z | z
      · exact p1.sep x hx z
      · obtain ⟨_, h1, _⟩ := Rw.there w v f1 p1.r x hx
        rw [h1] at z; cases z
    · intro x hx
      rcases List.mem_append.mp hx with z | z
      · exact k2 x z
      · exact p2.sep x z
    · intro x hx
      rcases List.mem_append.mp hx with z | z
      · exact p1.nwv x z
      · exact (p2.nwv x z).elim (p1.st.nw x) fun y => .inr (p1.st.x.dom x y)⟩⟩
end

/-! ## statements -/
inductive Fl where
  | nx
  | ret (w : Wv)
  | bk
  | ct
abbrev SSem := Rho → Out Fl
def Keep (M : Nat → Bool) (σ σ' : St) : Prop := σ'.length = σ.length ∧ ∀ i, M i = true → σ'[i]? = σ[i]?
theorem Keep.refl {M : Nat → Bool} {σ : St} : Keep M σ σ := ⟨rfl, fun _ _ => rfl⟩
theorem Keep.trans {M : Nat → Bool} {σ σ1 σ2 : St} (a : Keep M σ σ1) (b : Keep M σ1 σ2) : Keep M σ σ2 := ⟨b.1.trans a.1, fun i h => (b.2 i h).trans (a.2 i h)⟩
def PokS (K : Frg) (M : Nat → Bool) (D : Ends) (H G : Hp) (fp : Fp) (σ : St) : Fl → Rho → Prop
  | .nx, ρ' => ∀ σ' H' G' fp', Cfg K H' G' σ' ρ' fp' → Step fp H G fp' H' G' → Keep M σ σ' → D.nx σ' H'
  | .bk, ρ' => ∀ σ' H' G' fp', Cfg K H' G' σ' ρ' fp' → Step fp H G fp' H' G' → Keep M σ σ' → D.bk σ' H'
  | .ct, ρ' => ∀ σ' H' G' fp', Cfg K H' G' σ' ρ' fp' → Step fp H G fp' H' G' → Keep M σ σ' → D.ct σ' H'
  | .ret w, ρ' => ∀ v σ' H' G' fp' fv, PV K H G fp σ' ρ' v w H' G' fp' fv → Keep M σ σ' → D.rt v H'
def PexS (K : Frg) (mg : Mg) (E : WX) (M : Nat → Bool) (H G : Hp) (fp : Fp) (σ : St) (x : Xn) (ρ' : Rho) : Prop :=
  ∀ cls dd σ' H' G' fp', Cfg K H' G' σ' ρ' fp' → Step fp H G fp' H' G' → Keep M σ σ' → XRep K mg G' H' x cls dd → E cls dd σ' H'
abbrev ResS (K : Frg) (mg : Mg) (E : WX) (M : Nat → Bool) (D : Ends) (H G : Hp) (fp : Fp) (σ : St) (o : Out Fl) : Prop := ResO (PokS K M D H G fp σ) (PexS K mg E M H G fp σ) o
def tSt (K : Frg) (mg : Mg) (E : WX) (M : Nat → Bool) (f : SSem) : TS := fun D σ H => ∃ G ρ fp, Cfg K H G σ ρ fp ∧ ResS K mg E M D H G fp σ (f ρ)
def SS (X : Cx) (E : WX) (M : Nat → Bool) (st : List Stmt) (f : SSem) : Prop := PSs X st (tSt X.K X.mg E M f)
def S1 (X : Cx) (E : WX) (M : Nat → Bool) (st : Stmt) (f : SSem) : Prop := PS X st (tSt X.K X.mg E M f)
section
variable {K : Frg} {mg : Mg} {E : WX} {M : Nat → Bool} {H G H1 G1 : Hp} {fp fp1 : Fp} {σ σ1 : St} {ρ : Rho} {D : Ends}
theorem PokS.rebase (s : Step fp H G fp1 H1 G1) (k : Keep M σ σ1) (sg : Same G1 H1) : ∀ {fl : Fl} {r : Rho}, PokS K M D H G fp σ fl r → PokS K M D H1 G1 fp1 σ1 fl r
  | .nx, _, h => fun σ' H' G' fp' c s' k' => h σ' H' G' fp' c (s.trans s' sg) (k.trans k')
  | .bk, _, h => fun σ' H' G' fp' c s' k' => h σ' H' G' fp' c (s.trans s' sg) (k.trans k')
  | .ct, _, h => fun σ' H' G' fp' c s' k' => h σ' H' G' fp' c (s.trans s' sg) (k.trans k')
  | .ret w, _, h => fun v σ' H' G' fp' fv p k' => h v σ' H' G' fp' fv (p.rebase s sg) (k.trans k')
theorem PexS.rebase (s : Step fp H G fp1 H1 G1) (k : Keep M σ σ1) (sg : Same G1 H1) {x : Xn} {r : Rho} (h : PexS K mg E M H G fp σ x r) : PexS K mg E M H1 G1 fp1 σ1 x r :=
  fun cls dd σ' H' G' fp' c s' k' xr => h cls dd σ' H' G' fp' c (s.trans s' sg) (k.trans k') xr
theorem ResS.rebase (s : Step fp H G fp1 H1 G1) (k : Keep M σ σ1) (sg : Same G1 H1) {o : Out Fl} (h : ResS K mg E M D H G fp σ o) : ResS K mg E M D H1 G1 fp1 σ1 o :=
  ResO.imp (fun _ _ q => PokS.rebase s k sg q) (fun _ _ q => PexS.rebase s k sg q) h
theorem PexS.X {x : Xn} {r : Rho} (h : PexS K mg E M H G fp σ x r) : ResX K mg E H G fp σ x r := fun cls dd H' G' fp' c s xr => h cls dd σ H' G' fp' c s .refl xr
/-- an expression in a statement -/
theorem seqES {α : Type} {pok : α → Rho → Prop} {o : Out Wv} {k : Wv → Rho → Out α} {R : VK} (h : ResO pok (PexS K mg E M H G fp σ) (o.bind k))
    (f : ∀ w ρ' v H' G' fp' fv, PV K H G fp σ ρ' v w H' G' fp' fv → ResO pok (PexS K mg E M H G fp σ) (k w ρ') → R v H') : ResE K mg E H G fp σ R o :=
  ResO.imp (fun w ρ' q v H' G' fp' fv p => f w ρ' v H' G' fp' fv p q) (fun _ _ q => PexS.X q) (ResO.bind h)
theorem seqDS {α : Type} {pok : α → Rho → Prop} {o : Out FW.D} {k : FW.D → Rho → Out α} {R : VK} (h : ResO pok (PexS K mg E M H G fp σ) (o.bind k))
    (f : ∀ d ρ' v H' G' fp', Cfg K H' G' σ ρ' fp' → Step fp H G fp' H' G' → Dr K G' v d → ResO pok (PexS K mg E M H G fp σ) (k d ρ') → R v H') : ResD K mg E H G fp σ R o :=
  ResO.imp (fun d ρ' q v H' G' fp' c s dr => f d ρ' v H' G' fp' c s dr q) (fun _ _ q => PexS.X q) (ResO.bind h)
theorem seqTS {α : Type} {pok : α → Rho → Prop} {o : Out Bool} {k : Bool → Rho → Out α} {R : Bool → Hp → Prop} (h : ResO pok (PexS K mg E M H G fp σ) (o.bind k))
    (f : ∀ d ρ' H' G' fp', Cfg K H' G' σ ρ' fp' → Step fp H G fp' H' G' → ResO pok (PexS K mg E M H G fp σ) (k d ρ') → R d H') : ResT K mg E H G fp σ R o :=
  ResO.imp (fun d ρ' q H' G' fp' c s => f d ρ' H' G' fp' c s q) (fun _ _ q => PexS.X q) (ResO.bind h)
theorem seqWS {α : Type} {pok : α → Rho → Prop} {o : Out (List Wv)} {k : List Wv → Rho → Out α} {R : List V → Hp → Prop} (h : ResO pok (PexS K mg E M H G fp σ) (o.bind k))
    (f : ∀ ws ρ' vs H' G' fp' fv, PA' K H G fp σ ρ' vs ws H' G' fp' fv → ResO pok (PexS K mg E M H G fp σ) (k ws ρ') → R vs H') : ResW K mg E H G fp σ R o :=
  ResO.imp (fun w ρ' q v H' G' fp' fv p => f w ρ' v H' G' fp' fv p q) (fun _ _ q => PexS.X q) (ResO.bind h)
end
section
variable {X : Cx} {E : WX} {M : Nat → Bool} {e a b c : Expr} {es : List Expr} {f fa fb fc : ES} {g : Rho → Out Bool} {st : Stmt} {sts rest : List Stmt} {p q r : SSem} {pos : Pos}
def sNil : SSem := fun ρ => .ok .nx ρ
def sCons (p q : SSem) : SSem := fun ρ => (p ρ).bind fun fl r => match fl with
  | .nx => q r
  | fl => .ok fl r
theorem ss_nil : SS X E M [] sNil := pss_sub pss_nil fun D σ H ⟨G, ρ, fp, c, q⟩ => q σ H G fp c .refl .refl
theorem ss_cons (h1 : S1 X E M st p) (h2 : SS X E M rest q) : SS X E M (st :: rest) (sCons p q) :=
  pss_sub (pss_cons h1 h2) fun D σ H ⟨G, ρ, fp, c, h⟩ => ⟨G, ρ, fp, c, ResO.imp (fun fl r k => by
    cases fl with
    | nx => exact fun σ' H' G' fp' c' s' k' => ⟨G', r, fp', c', ResS.rebase s' k' c'.sg k⟩
    | bk => exact k
    | ct => exact k
    | ret w => exact k) (fun _ _ k => k) (ResO.bind h)⟩
theorem ss_one (h1 : S1 X E M st p) : SS X E M [st] p := pss_one h1
def sPass : SSem := fun ρ => .ok .nx ρ
def sBreak : SSem := fun ρ => .ok .bk ρ
def sCont : SSem := fun ρ => .ok .ct ρ
theorem s1_pass : S1 X E M (.Pass pos) sPass := ps_sub ps_pass fun D σ H ⟨G, ρ, fp, c, q⟩ => q σ H G fp c .refl .refl
theorem s1_break : S1 X E M (.Break pos) sBreak := ps_sub ps_break fun D σ H ⟨G, ρ, fp, c, q⟩ => q σ H G fp c .refl .refl
theorem s1_cont : S1 X E M (.Continue pos) sCont := ps_sub ps_continue fun D σ H ⟨G, ρ, fp, c, q⟩ => q σ H G fp c .refl .refl
theorem s1_doc {x : Str} {j : Nat} {pos' : Pos} : S1 X E M (.Expr (.Constant (.str x) j pos) pos') sPass := ps_sub ps_doc fun D σ H ⟨G, ρ, fp, c, q⟩ => q σ H G fp c .refl .refl
/-- an expression's value dropped -/
def sDrop (f : ES) : SSem := fun ρ => (f ρ).bind fun _ r => .ok .nx r
theorem PV.less {K : Frg} {H G : Hp} {fp : Fp} {σ : St} {ρ' : Rho} {v : V} {w : Wv} {H' G' : Hp} {fp' : Fp} {fv : List Addr} (p : PV K H G fp σ ρ' v w H' G' fp' fv) : Cfg K H' G' σ ρ' fp' ∧ Step fp H G fp' H' G' := ⟨p.c, p.st⟩
theorem s1_drop (h : SE X E e f) (hs : swapsWith e none pos.line X.env = pure false := by rfl) : S1 X E M (.Expr e pos) (sDrop f) :=
  ps_sub (ps_expr h hs) fun D σ H ⟨G, ρ, fp, c, q⟩ => ⟨G, ρ, fp, c, seqES q fun w r v H' G' fp' fv p q1 => q1 σ H' G' fp' p.c p.st .refl⟩
def sRet (f : ES) : SSem := fun ρ => (f ρ).bind fun w r => .ok (.ret w) r
def sRetN : SSem := fun ρ => .ok (.ret (.d .none)) ρ
theorem s1_ret (h : SE X E e f) : S1 X E M (.Return (some e) pos) (sRet f) :=
  ps_sub (ps_ret h) fun D σ H ⟨G, ρ, fp, c, q⟩ => ⟨G, ρ, fp, c, seqES q fun w r v H' G' fp' fv p q1 => q1 v σ H' G' fp' fv p .refl⟩
theorem s1_retN : S1 X E M (.Return none pos) sRetN :=
  ps_sub ps_retN fun D σ H ⟨G, ρ, fp, c, q⟩ => q .non σ H G fp [] ⟨c, .refl, by unfold Rw; exact ⟨rfl, Dr.none⟩, List.nodup_nil, (fun _ z => nomatch z), (fun _ z => nomatch z)⟩ .refl
def sIte (g : Rho → Out Bool) (p q : SSem) : SSem := fun ρ => (g ρ).bind fun b r => if b = true then p r else q r
theorem s1_if {aa bb : List Stmt} (hc : ST X E c g) (ha : SS X E M aa p) (hb : SS X E M bb q) : S1 X E M (.If c aa bb pos) (sIte g p q) :=
  ps_sub (ps_if hc ha hb) fun D σ H ⟨G, ρ, fp, c, h⟩ => ⟨G, ρ, fp, c, seqTS h fun b r H1 G1 fp1 c1 s1 h1 => by
    cases b with
    | true => rw [if_pos rfl] at h1 ⊢; exact ⟨G1, r, fp1, c1, ResS.rebase s1 .refl c1.sg h1⟩
    | false => rw [if_neg Bool.false_ne_true] at h1 ⊢; exact ⟨G1, r, fp1, c1, ResS.rebase s1 .refl c1.sg h1⟩⟩
/-! ### a name's new value -/
theorem Keep.set {σ : St} {i : Nat} {v : Option V} (h : M i = false) : Keep M σ (σ.set i v) := ⟨List.length_set, fun j hj => by
  by_cases e : i = j
  · subst e; rw [h] at hj; cases hj
  · rw [List.getElem?_set_ne e]⟩
def sSet (i : Nat) (f : ES) : SSem := fun ρ => (f ρ).bind fun w r => if i < r.length then .ok .nx (r.set i (some w)) else .bad
theorem PV.put {K : Frg} {H G : Hp} {fp : Fp} {σ : St} {ρ' : Rho} {v : V} {w : Wv} {H' G' : Hp} {fp' : Fp} {fv : List Addr} (p : PV K H G fp σ ρ' v w H' G' fp' fv) {i : Nat} (hi : i < ρ'.length) :
    Cfg K H' G' (σ.set i (some v)) (ρ'.set i (some w)) (upF fp' i fv) ∧ Step fp H G (upF fp' i fv) H' G' := by
  refine ⟨p.c.put (fun w' e => ⟨v, rfl, by cases e; exact p.r⟩) (fun e => nomatch e) p.nd (fun a ha j _ h => p.sep a ha ⟨j, h⟩) hi, p.st.x, fun a h => ?_⟩
  rcases h.up with z | ⟨j, _, z⟩
  · exact p.nwv a z
  · exact p.st.nw a ⟨j, z⟩
theorem set_rd {K : Frg} {mg : Mg} {i : Nat} {D : Ends} {σ : St} {H : Hp} (hM : M i = false) (h : tSt K mg E M (sSet i f) D σ H) : tS K mg E f σ H fun x H1 => gName i x σ H1 D.nx := by
  obtain ⟨G, ρ, fp, c, q⟩ := h
  refine ⟨G, ρ, fp, c, seqES q fun w r v H' G' fp' fv p q1 => ?_⟩
  split at q1
  · rename_i hi
    obtain ⟨c1, s1⟩ := p.put hi
    exact q1 _ _ _ _ c1 s1 (.set hM)
  · exact q1.elim
theorem s1_set {i : Nat} {x : Str} {pos' : Pos} (he : SE X E e f) (hM : M i = false := by rfl) (hN : X.N.Nodup) (hi : X.N[i]? = some x := by rfl) (hx : Loc X.env.scope x := by first | exact Or.inl rfl | exact Or.inr rfl) (hs : swapsWith e (some (.Name x pos')) pos.line X.env = pure false := by rfl)
    (hf : X.fn x = true ∨ X.env.scope.names.lookup x = some .local := by first | exact .inl rfl | exact .inr rfl) : S1 X E M (.Assign [.Name x pos'] e pos) (sSet i f) :=
  ps_sub (ps_set hN hi hx he hs hf) fun D σ H h => set_rd hM h
end
end FW

set_option Elab.async false
set_option linter.all false
set_option maxRecDepth 100000
set_option maxHeartbeats 1000001
namespace FW
open PySem PySem.Spec L2
/-! ## what is walked -/
structure Yld (K : Frg) (J : It) (xs : List D) (H G : Hp) : Prop where
  go : ∀ i H' G', Same G G' → Same G' H' → i < xs.length → J.go i H'
  stop : ∀ i H' G', Same G G' → Same G' H' → xs.length ≤ i → J.stop i H'
  yld : ∀ i H' G' x H'', Same G G' → Same G' H' → J.yld i H' x H'' → i < xs.length → ∃ G'' d, Ext (fun _ => False) H' G' H'' G'' ∧ Same G'' H'' ∧ xs[i]? = some d ∧ Dr K G'' x d
theorem Yld.mono {K : Frg} {J : It} {xs : List D} {H G H1 G1 : Hp} (y : Yld K J xs H G) (h : Same G G1) : Yld K J xs H1 G1 :=
  ⟨fun i H' G' s => y.go i H' G' (h.trans s), fun i H' G' s => y.stop i H' G' (h.trans s), fun i H' G' x H'' s => y.yld i H' G' x H'' (h.trans s)⟩
abbrev ISem := Rho → Out (List D)
abbrev ResI (K : Frg) (mg : Mg) (E : WX) (H G : Hp) (fp : Fp) (σ : St) (R : It → Hp → Prop) (o : Out (List D)) : Prop :=
  ResO (fun xs ρ' => ∀ J H' G' fp', Cfg K H' G' σ ρ' fp' → Step fp H G fp' H' G' → Yld K J xs H' G' → R J H') (ResX K mg E H G fp σ) o
def tIt (K : Frg) (mg : Mg) (E : WX) (f : ISem) : TI := fun σ H R => ∃ G ρ fp, Cfg K H G σ ρ fp ∧ ResI K mg E H G fp σ R (f ρ)
def SI (X : Cx) (E : WX) (tg iter : Expr) (f : ISem) : Prop := PI X tg iter (tIt X.K X.mg E f)
theorem pi_sub {X : Cx} {tg iter : Expr} {w w' : TI} (h : PI X tg iter w) (k : ∀ σ H R, w' σ H R → w σ H R) : PI X tg iter w' := ⟨fun pins s σ H R I q => h.run pins s σ H R I (k σ H R q)⟩
theorem pi_or {X : Cx} {tg iter : Expr} {w w' : TI} (h : PI X tg iter w) (h' : PI X tg iter w') : PI X tg iter (fun σ H R => w σ H R ∨ w' σ H R) :=
  ⟨fun pins s σ H R I q => q.elim (h.run pins s σ H R I) (h'.run pins s σ H R I)⟩
section
variable {X : Cx} {E : WX} {M : Nat → Bool} {tg e e2 a b : Expr} {es : List Expr} {f : ES} {fs : Rho → Out (List D)} {pos p tpos : Pos}
theorem yld_list {K : Frg} {H G : Hp} {a : Addr} {vs : List V} {ds : List D} (h : G a = some (.lst vs)) (r : Drs K G vs ds) : Yld K (Itl K a) ds H G := by
  refine ⟨fun i H' G' s s' hi => ?_, fun i H' G' s s' hi => ?_, fun i H' G' x H'' s s' y hi => ?_⟩
  · obtain ⟨v, hv, _⟩ := r.get (List.getElem?_eq_getElem hi)
    exact ⟨vs, v, SqL.of (s' _ _ (s _ _ h)), hv⟩
  · exact ⟨vs, SqL.of (s' _ _ (s _ _ h)), by rw [r.length]; exact hi⟩
  · obtain ⟨e, y⟩ := y
    subst e
    obtain ⟨v, hv, hr⟩ := r.get (List.getElem?_eq_getElem hi)
    have ev : x = v := Option.some.inj ((y vs (SqL.of (s' _ _ (s _ _ h)))).symm.trans hv)
    subst ev
    exact ⟨G', ds[i], .refl, s', List.getElem?_eq_getElem hi, Dr.mono s _ _ hr⟩
theorem yld_tup {K : Frg} {H G : Hp} {a : Addr} {vs : List V} {ds : List D} (h : SqT K G a vs) (r : Drs K G vs ds) : Yld K (Itt K a) ds H G := by
  have st : ∀ {H' G'}, Same G G' → Same G' H' → SqT K H' a vs := fun s s' => same_seqT s' (same_seqT s h)
  refine ⟨fun i H' G' s s' hi => ?_, fun i H' G' s s' hi => ?_, fun i H' G' x H'' s s' y hi => ?_⟩
  · obtain ⟨v, hv, _⟩ := r.get (List.getElem?_eq_getElem hi)
    exact ⟨vs, v, st s s', hv⟩
  · exact ⟨vs, st s s', by rw [r.length]; exact hi⟩
  · obtain ⟨e, y⟩ := y
    subst e
    obtain ⟨v, hv, hr⟩ := r.get (List.getElem?_eq_getElem hi)
    have ev : x = v := Option.some.inj ((y vs (st s s')).symm.trans hv)
    subst ev
    exact ⟨G', ds[i], .refl, s', List.getElem?_eq_getElem hi, Dr.mono s _ _ hr⟩
def iSeq (f : ES) : ISem := fun ρ => (fz (f ρ)).bind fun d r => ofO (itemsD d) r
theorem si_seq (h : SE X E e f) : SI X E tg e (iSeq f) :=
  pi_sub (pi_or (pi_list (tg := tg) h.D) (pi_tup (tg := tg) h.D)) fun σ H R ⟨G, ρ, fp, c, q⟩ => by
    unfold iSeq at q
    cases z : fz (f ρ) with
    | bad => rw [z] at q; exact q.elim
    | exc x r => rw [z] at q; exact .inl ⟨G, ρ, fp, c, by rw [z]; exact q⟩
    | ok d r =>
      rw [z] at q
      cases d with
      | list ds =>
        refine .inl ⟨G, ρ, fp, c, ?_⟩
        rw [z]
        intro v H' G' fp' c1 s1 d1
        obtain ⟨a, vs, ev, h1, h2⟩ := d1.lst_inv
        exact ⟨a, ev, ⟨vs, SqL.of (c1.sg _ _ h1)⟩, q _ _ _ _ c1 s1 (yld_list h1 h2)⟩
      | tuple ds =>
        refine .inr ⟨G, ρ, fp, c, ?_⟩
        rw [z]
        intro v H' G' fp' c1 s1 d1
        obtain ⟨a, vs, ev, h1, h2⟩ := d1.tup_inv
        exact ⟨a, ev, ⟨vs, same_seqT c1.sg h1⟩, q _ _ _ _ c1 s1 (yld_tup h1 h2)⟩
      | _ => exact q.elim
/-- range -/
def rngD (lo : Int) (n : Nat) : List D := (List.range n).map fun (i : Nat) => .int (lo + (i : Int))
theorem rngD_len {lo : Int} {n : Nat} : (rngD lo n).length = n := by unfold rngD; simp
theorem rngD_get {lo : Int} {n i : Nat} (h : i < n) : (rngD lo n)[i]? = some (.int (lo + (i : Int))) := by unfold rngD; simp [h]
theorem yld_rng {K : Frg} {H G : Hp} {lo : Int} {n : Nat} : Yld K (Itr lo n) (rngD lo n) H G := by
  refine ⟨fun i H' G' _ _ hi => by rw [rngD_len] at hi; exact hi, fun i H' G' _ _ hi => by rw [rngD_len] at hi; exact hi, fun i H' G' x H'' _ s' y hi => ?_⟩
  obtain ⟨e, ex⟩ := y
  subst e ex
  rw [rngD_len] at hi
  exact ⟨G', _, .refl, s', rngD_get hi, Dr.int⟩
def iRange1 (fs : Rho → Out (List D)) : ISem := fun ρ => (fs ρ).bind fun ds r => match ds with
  | [.int j] => if j ≤ 1000000 ∧ -1000000 ≤ j then .ok (rngD 0 j.toNat) r else .bad
  | _ => .bad
def iRange2 (fs : Rho → Out (List D)) : ISem := fun ρ => (fs ρ).bind fun ds r => match ds with
  | [.int i, .int j] => if (i ≤ 1000000 ∧ -1000000 ≤ i) ∧ j ≤ 1000000 ∧ -1000000 ≤ j then .ok (rngD i (j - i).toNat) r else .bad
  | _ => .bad
theorem si_range1 (hm : X.mg "range" = none) (ha : SA X E [a] fs) (hg : Gl X "range" := by rfl) (hs : starEach [a] X.env = [(false, eval a X.env)] := by rfl) : SI X E tg (.Call (.Name "range" p) [a] [] pos) (iRange1 fs) :=
  pi_sub (pi_range1 hg hm ha hs) fun σ H R ⟨G, ρ, fp, c, q⟩ => ⟨G, ρ, fp, c, seqA q fun ds r vs H1 G1 fp1 c1 s1 d1 q1 => by
    split at q1
    · rename_i j
      split at q1
      · rename_i h
        obtain ⟨v, e1, h1⟩ := d1.one
        exact ⟨j, by rw [e1, h1.int_inv], by omega, by omega, q1 _ _ _ _ c1 s1 yld_rng⟩
      · exact q1.elim
    · exact q1.elim⟩
theorem si_range2 (hm : X.mg "range" = none) (ha : SA X E [a, b] fs) (hg : Gl X "range" := by rfl) (hs : starEach [a, b] X.env = [(false, eval a X.env), (false, eval b X.env)] := by rfl) (hs2 : starEach [b] X.env = [(false, eval b X.env)] := by rfl) :
    SI X E tg (.Call (.Name "range" p) [a, b] [] pos) (iRange2 fs) :=
  pi_sub (pi_range2 hg hm ha hs hs2) fun σ H R ⟨G, ρ, fp, c, q⟩ => ⟨G, ρ, fp, c, seqA q fun ds r vs H1 G1 fp1 c1 s1 d1 q1 => by
    split at q1
    · rename_i i j
      split at q1
      · rename_i h
        obtain ⟨v, u, e1, h1, h2⟩ := d1.two
        exact ⟨i, j, by rw [e1, h1.int_inv, h2.int_inv], ⟨by omega, by omega, by omega, by omega⟩, q1 _ _ _ _ c1 s1 yld_rng⟩
      · exact q1.elim
    · exact q1.elim⟩
/-- pairs: a new tuple each -/
theorem newTup {K : Frg} {H G : Hp} {T : Addr} {vs : List V} {ds : List D} (sg : Same G H) (hT : H T = none) (r : Drs K G vs ds) : ∃ G', Ext (fun _ => False) H G (upd H T (.tup vs)) G' ∧ Same G' (upd H T (.tup vs)) ∧ Dr K G' (.ref T) (.tuple ds) := by
  have gp : G T = none := by
    cases e : G T with
    | none => rfl
    | some o => rw [sg T o e] at hT; cases hT
  have ne : ∀ a u, H a = some u → a ≠ T := fun a u h e => by rw [e, hT] at h; cases h
  have sg1 : Same G (upd G T (.tup vs)) := fun a u q => by rw [upd_ne (ne a u (sg a u q))]; exact q
  refine ⟨upd G T (.tup vs), ⟨sg1, fun a u q g _ => ?_, fun a q => ?_⟩, fun a u q => ?_, Dr.tup (.inl (.inl upd_same)) (Drs.mono sg1 _ _ r)⟩
  · have e := ne a u q
    rw [upd_ne e, upd_ne e]
    exact ⟨q, g⟩
  · by_cases e : a = T
    · rw [e]; exact hT
    · rw [upd_ne e] at q; exact q
  · by_cases e : a = T
    · subst e; rw [upd_same] at q ⊢; exact q
    · rw [upd_ne e] at q ⊢; exact sg a u q
theorem Dr.itemsB {K : Frg} {G : Hp} {v : V} {d : D} {ds : List D} (h : Dr K G v d) (e : itemsD d = some ds) : ∃ a b vs, v = .ref a ∧ (∀ H, Same G H → SqB b K H a vs) ∧ Drs K G vs ds := by
  cases d with
  | tuple es =>
    cases e
    obtain ⟨a, xs, e1, h1, h2⟩ := h.tup_inv
    exact ⟨a, true, xs, e1, fun H s => same_seqT s h1, h2⟩
  | list es =>
    cases e
    obtain ⟨a, xs, e1, h1, h2⟩ := h.lst_inv
    exact ⟨a, false, xs, e1, fun H s => SqL.of (s _ _ h1), h2⟩
  | _ => cases e
def zipD (xs ys : List D) : List D := List.zipWith (fun x y => .tuple [x, y]) xs ys
def iZip2 (fs : Rho → Out (List D)) : ISem := fun ρ => (fs ρ).bind fun ds r => match ds with
  | [x, y] => match itemsD x, itemsD y with
    | some xs, some ys => .ok (zipD xs ys) r
    | _, _ => .bad
  | _ => .bad
theorem si_zip {elts : List Expr} {kk : Nat} (hm : X.mg "zip" = none) (ha : SA X E [e, e2] fs) (hg : Gl X "zip" := by rfl)
    (hs : starEach [e, e2] X.env = (false, eval e X.env) :: starEach [e2] X.env := by rfl)
    (hpl : (backTo pos (starEach [e2] X.env)).any (·.1) = false := by rfl) :
    SI X E (.Tuple elts kk tpos) (.Call (.Name "zip" p) [e, e2] [] pos) (iZip2 fs) :=
  pi_sub (pi_zipB hg hm ha hs hpl) fun σ H R ⟨G, ρ, fp, c, q⟩ => ⟨G, ρ, fp, c, seqA q fun ds r vs H1 G1 fp1 c1 s1 d1 q1 => by
    split at q1
    · rename_i x y
      split at q1
      · rename_i xs ys ex ey
        obtain ⟨v, u, e1, h1, h2⟩ := d1.two
        obtain ⟨a1, b1, vs1, ev1, k1, r1⟩ := h1.itemsB ex
        obtain ⟨a2, b2, vs2, ev2, k2, r2⟩ := h2.itemsB ey
        refine ⟨a1, a2, b1, b2, vs1, vs2, by rw [e1, ev1, ev2], k1 _ c1.sg, k2 _ c1.sg, q1 _ _ _ _ c1 s1 ?_⟩
        have hl : (zipD xs ys).length = min vs1.length vs2.length := by unfold zipD; rw [List.length_zipWith, r1.length, r2.length]
        refine ⟨fun i H' G' s s' hi => ⟨by omega, k1 _ (s.trans s'), k2 _ (s.trans s')⟩, fun i H' G' s s' hi => ⟨by omega, k1 _ (s.trans s'), k2 _ (s.trans s')⟩, fun i H' G' z H'' s s' yy hi => ?_⟩
        obtain ⟨T, x', y', rfl, hT, rfl, hx, hy⟩ := yy
        have hi1 : i < xs.length := by rw [← r1.length]; omega
        have hi2 : i < ys.length := by rw [← r2.length]; omega
        obtain ⟨w1, hw1, hd1⟩ := r1.get (List.getElem?_eq_getElem hi1)
        obtain ⟨w2, hw2, hd2⟩ := r2.get (List.getElem?_eq_getElem hi2)
        rw [hx] at hw1; cases hw1
        rw [hy] at hw2; cases hw2
        obtain ⟨G'', x1, x2, x3⟩ := newTup (ds := [xs[i], ys[i]]) s' hT (Drs.cons (Dr.mono s _ _ hd1) (Drs.cons (Dr.mono s _ _ hd2) Drs.nil))
        refine ⟨G'', _, x1, x2, ?_, x3⟩
        unfold zipD
        rw [List.getElem?_zipWith, List.getElem?_eq_getElem hi1, List.getElem?_eq_getElem hi2]
      · exact q1.elim
    · exact q1.elim⟩
def enumD (n : Nat) : List D → List D
  | [] => []
  | x :: xs => .tuple [.int (n : Int), x] :: enumD (n + 1) xs
theorem enumD_len : ∀ (xs : List D) (n : Nat), (enumD n xs).length = xs.length
  | [], _ => rfl
  | x :: xs, n => by unfold enumD; rw [List.length_cons, enumD_len xs, List.length_cons]
theorem enumD_get : ∀ (xs : List D) (n i : Nat) (x : D), xs[i]? = some x → (enumD n xs)[i]? = some (.tuple [.int ((n + i : Nat) : Int), x])
  | [], _, _, _, hh => by simp at hh
  | y :: ys, n, 0, x, h => by
    simp at h
    subst h
    rfl
  | y :: ys, n, i + 1, x, h => by
    unfold enumD
    rw [List.getElem?_cons_succ, enumD_get ys (n + 1) i x (by simpa using h)]
    rw [show n + 1 + i = n + (i + 1) by omega]
def iEnum1 (fs : Rho → Out (List D)) : ISem := fun ρ => (fs ρ).bind fun ds r => match ds with
  | [x] => match itemsD x with
    | some xs => .ok (enumD 0 xs) r
    | none => .bad
  | _ => .bad
theorem si_enum {elts : List Expr} {kk : Nat} (hm : X.mg "enumerate" = none) (ha : SA X E [e] fs) (hg : Gl X "enumerate" := by rfl) (hs : starEach [e] X.env = [(false, eval e X.env)] := by rfl) :
    SI X E (.Tuple elts kk tpos) (.Call (.Name "enumerate" p) [e] [] pos) (iEnum1 fs) :=
  pi_sub (pi_enumB hg hm ha hs) fun σ H R ⟨G, ρ, fp, c, q⟩ => ⟨G, ρ, fp, c, seqA q fun ds r vs H1 G1 fp1 c1 s1 d1 q1 => by
    split at q1
    · rename_i x
      split at q1
      · rename_i xs ex
        obtain ⟨v, e1, h1⟩ := d1.one
        obtain ⟨a1, b1, vs1, ev1, k1, r1⟩ := h1.itemsB ex
        refine ⟨a1, b1, vs1, by rw [e1, ev1], k1 _ c1.sg, q1 _ _ _ _ c1 s1 ?_⟩
        have hl : (enumD 0 xs).length = vs1.length := by rw [enumD_len, r1.length]
        refine ⟨fun i H' G' s s' hi => ⟨by omega, k1 _ (s.trans s')⟩, fun i H' G' s s' hi => ⟨by omega, k1 _ (s.trans s')⟩, fun i H' G' z H'' s s' yy hi => ?_⟩
        obtain ⟨T, x', rfl, hT, rfl, hx⟩ := yy
        have hi1 : i < xs.length := by rw [← r1.length]; omega
        obtain ⟨w1, hw1, hd1⟩ := r1.get (List.getElem?_eq_getElem hi1)
        rw [hx] at hw1; cases hw1
        obtain ⟨G'', x1, x2, x3⟩ := newTup (ds := [.int ((0 + i : Nat) : Int), xs[i]]) s' hT (Drs.cons (by rw [Nat.zero_add]; exact Dr.int) (Drs.cons (Dr.mono s _ _ hd1) Drs.nil))
        exact ⟨G'', _, x1, x2, enumD_get xs 0 i _ (List.getElem?_eq_getElem hi1), x3⟩
      · exact q1.elim
    · exact q1.elim⟩

/-! ## targets -/
abbrev TgF := D → Rho → Option Rho
def tgt (K : Frg) (M : Nat → Bool) (t : TgF) : TG := fun v σ H Q => ∃ G ρ fp d ρ', Cfg K H G σ ρ fp ∧ Dr K G v d ∧ t d ρ = some ρ' ∧ ∀ σ' fp', Cfg K H G σ' ρ' fp' → Step fp H G fp' H G → Keep M σ σ' → Q σ' H
abbrev TgsF := List D → Rho → Option Rho
def tgts (K : Frg) (M : Nat → Bool) (t : TgsF) : TGs := fun vs σ H Q => ∃ G ρ fp ds ρ', Cfg K H G σ ρ fp ∧ Drs K G vs ds ∧ t ds ρ = some ρ' ∧ ∀ σ' fp', Cfg K H G σ' ρ' fp' → Step fp H G fp' H G → Keep M σ σ' → Q σ' H
def SG (X : Cx) (M : Nat → Bool) (tg : Expr) (t : TgF) : Prop := PG X tg (tgt X.K M t)
def SGs (X : Cx) (M : Nat → Bool) (tg : List Expr) (t : TgsF) : Prop := PGs X tg (tgts X.K M t)
theorem pg_sub {X : Cx} {tg : Expr} {t t' : TG} (h : PG X tg t) (w : ∀ v σ H Q, t' v σ H Q → t v σ H Q) : PG X tg t' := ⟨fun pins s σ H v u Q I r q => h.run pins s σ H v u Q I r (w v σ H Q q)⟩
theorem pgs_sub {X : Cx} {tg : List Expr} {t t' : TGs} (h : PGs X tg t) (w : ∀ v σ H Q, t' v σ H Q → t v σ H Q) : PGs X tg t' := ⟨fun pins s σ H v u Q I r q => h.run pins s σ H v u Q I r (w v σ H Q q)⟩
def gN (i : Nat) : TgF := fun d ρ => if i < ρ.length then some (ρ.set i (some (.d d))) else none
theorem sg_name {i : Nat} {x : Str} (hM : M i = false := by rfl) (hN : X.N.Nodup) (hi : X.N[i]? = some x := by rfl) (hx : Loc X.env.scope x := by first | exact Or.inl rfl | exact Or.inr rfl) (hf : X.fn x = true ∨ X.env.scope.names.lookup x = some .local := by first | exact .inl rfl | exact .inr rfl) : SG X M (.Name x pos) (gN i) :=
  pg_sub (pg_name hN hi hx hf) fun v σ H Q ⟨G, ρ, fp, d, ρ', c, dr, e, q⟩ => by
    unfold gN at e
    split at e
    · rename_i h
      cases e
      exact q _ _ (c.putD dr h) .less (.set hM)
    · cases e
def gsNil : TgsF := fun ds ρ => match ds with
  | [] => some ρ
  | _ => none
def gsCons (t : TgF) (u : TgsF) : TgsF := fun ds ρ => match ds with
  | d :: r => (t d ρ).bind (u r)
  | [] => none
theorem sgs_nil : SGs X M [] gsNil := pgs_sub pgs_nil fun vs σ H Q ⟨G, ρ, fp, ds, ρ', c, dr, e, q⟩ => by
  cases ds with
  | nil =>
    cases e
    unfold Drs at dr
    exact ⟨dr, q σ fp c .refl .refl⟩
  | cons _ _ => cases e
theorem sgs_cons {t : TgF} {u : TgsF} (h1 : SG X M e t) (h2 : SGs X M es u) (hs : (assignEach (e :: es) X.env).map (·.2) = assign e X.env :: (assignEach es X.env).map (·.2) := by rfl) : SGs X M (e :: es) (gsCons t u) :=
  pgs_sub (pgs_cons h1 h2 hs) fun vs σ H Q ⟨G, ρ, fp, ds, ρ', c, dr, e, q⟩ => by
    cases ds with
    | nil => cases e
    | cons d r =>
      unfold Drs at dr
      obtain ⟨v, vr, ev, d1, d2⟩ := dr
      cases z : t d ρ with
      | none =>
        have e2 : (t d ρ).bind (u r) = some ρ' := e
        rw [z] at e2; cases e2
      | some ρ1 =>
        have e2 : (t d ρ).bind (u r) = some ρ' := e
        rw [z] at e2
        have e : u r ρ1 = some ρ' := e2
        exact ⟨v, vr, ev, G, ρ, fp, d, ρ1, c, d1, z, fun σ1 fp1 c1 s1 k1 => ⟨G, ρ1, fp1, r, ρ', c1, d2, e, fun σ2 fp2 c2 s2 k2 => q σ2 fp2 c2 (s1.trans s2 c1.sg) (k1.trans k2)⟩⟩
def gT (n : Nat) (u : TgsF) : TgF := fun d ρ => match d with
  | .tuple ds => if ds.length = n then u ds ρ else none
  | _ => none
theorem sg_tup {k n : Nat} {u : TgsF} (hc : X.calm = true) (h : SGs X M es u) (hn : (assignEach es X.env).length = n := by rfl) (hst : (assignEach es X.env).findIdx? (·.1) = none := by rfl) : SG X M (.Tuple es k pos) (gT n u) :=
  pg_sub (pg_tup hc h hn hst) fun v σ H Q ⟨G, ρ, fp, d, ρ', c, dr, e, q⟩ => by
    cases d with
    | tuple ds =>
      unfold gT at e
      simp only [] at e
      split at e
      · rename_i hl
        obtain ⟨a, vs, ev, h1, h2⟩ := dr.tup_inv
        exact ⟨a, vs, ev, same_seqT c.sg h1, by rw [h2.length]; exact hl, G, ρ, fp, ds, ρ', c, h2, e, q⟩
      · cases e
    | _ => cases e
end
end FW

set_option Elab.async false
set_option linter.all false
set_option maxRecDepth 100000
set_option maxHeartbeats 1000001
namespace FW
open PySem PySem.Spec L2
/-! ## for, while -/
def forL (t : TgF) (body : SSem) : List D → SSem
  | [] => fun ρ => .ok .nx ρ
  | x :: xs => fun ρ => match t x ρ with
    | none => .bad
    | some ρ1 => (body ρ1).bind fun fl r => match fl with
      | .nx => forL t body xs r
      | .ct => forL t body xs r
      | .bk => .ok .nx r
      | .ret w => .ok (.ret w) r
def sFor (it : ISem) (t : TgF) (body : SSem) : SSem := fun ρ => (it ρ).bind fun xs r => forL t body xs r
theorem Ext.of0 {P : Addr → Prop} {H G H' G' : Hp} (x : Ext (fun _ => False) H G H' G') : Ext P H G H' G' := ⟨x.sg, fun a o h g _ => x.oth a o h g id, x.dom⟩
theorem Cfg.ext0 {K : Frg} {H G H' G' : Hp} {σ : St} {ρ : Rho} {fp : Fp} (c : Cfg K H G σ ρ fp) (x : Ext (fun _ => False) H G H' G') (sg : Same G' H') : Cfg K H' G' σ ρ fp ∧ Step fp H G fp H' G' :=
  ⟨c.ext x sg fun _ _ => id, ⟨x.of0, fun _ h => .inl h⟩⟩
theorem drop_eq {α : Type} {xs : List α} {i : Nat} {x : α} (h : xs[i]? = some x) : xs.drop i = x :: xs.drop (i + 1) := by
  obtain ⟨hi, e⟩ := List.getElem?_eq_some_iff.mp h; rw [List.drop_eq_getElem_cons hi, e]
theorem seqIS {α : Type} {K : Frg} {mg : Mg} {E : WX} {M : Nat → Bool} {H G : Hp} {fp : Fp} {σ : St} {pok : α → Rho → Prop} {o : Out (List D)} {k : List D → Rho → Out α} {R : It → Hp → Prop} (h : ResO pok (PexS K mg E M H G fp σ) (o.bind k))
    (f : ∀ xs ρ' J H' G' fp', Cfg K H' G' σ ρ' fp' → Step fp H G fp' H' G' → Yld K J xs H' G' → ResO pok (PexS K mg E M H G fp σ) (k xs ρ') → R J H') : ResI K mg E H G fp σ R o :=
  ResO.imp (fun d ρ' q J H' G' fp' c s y => f d ρ' J H' G' fp' c s y q) (fun _ _ q => PexS.X q) (ResO.bind h)
theorem seqI {α : Type} {K : Frg} {mg : Mg} {E : WX} {H G : Hp} {fp : Fp} {σ : St} {pok : α → Rho → Prop} {o : Out (List D)} {k : List D → Rho → Out α} {R : It → Hp → Prop} (h : ResO pok (ResX K mg E H G fp σ) (o.bind k))
    (f : ∀ xs ρ' J H' G' fp', Cfg K H' G' σ ρ' fp' → Step fp H G fp' H' G' → Yld K J xs H' G' → ResO pok (ResX K mg E H G fp σ) (k xs ρ') → R J H') : ResI K mg E H G fp σ R o :=
  ResO.imp (fun d ρ' q J H' G' fp' c s y => f d ρ' J H' G' fp' c s y q) (fun _ _ q => q) (ResO.bind h)
section
variable {X : Cx} {E : WX} {M : Nat → Bool} {c e tg iter : Expr} {es : List Expr} {f : ES} {g : Rho → Out Bool} {body : List Stmt} {it : ISem} {t : TgF} {p : SSem} {pos : Pos}
theorem s1_for (hp : PassesOwn (model X.prog X.w) X.A X.env X.xe) (hc : X.calm = true) (hi : SI X E tg iter it) (hg : SG X M tg t) (hb : SS X E M body p) (hs : ∀ x, foldedSetIterable iter X.env x = pure x := by intro _; rfl) : S1 X E M (.For tg iter body [] pos) (sFor it t p) :=
  ps_sub (ps_for hp hc hi hg hb hs) fun D σ H ⟨G, ρ, fp, c, q⟩ => ⟨G, ρ, fp, c, seqIS q fun xs r J H1 G1 fp1 c1 s1 y q1 => by
    refine ⟨fun i m σ' H' => m = xs.length - i ∧ i ≤ xs.length ∧ ∃ G' ρ' fp', Cfg X.K H' G' σ' ρ' fp' ∧ Same G1 G' ∧ ResS X.K X.mg E M D H' G' fp' σ' (forL t p (xs.drop i) ρ'), ⟨_, rfl, Nat.zero_le _, G1, r, fp1, c1, Same.refl _, ResS.rebase s1 .refl c1.sg q1⟩, fun i m σ' H' hW => ?_⟩
    obtain ⟨em, hi, G', ρ', fp', c', sm, q'⟩ := hW
    by_cases hlt : i < xs.length
    · have ex : xs[i]? = some xs[i] := List.getElem?_eq_getElem hlt
      rw [drop_eq ex] at q'
      refine .inr ⟨y.go i H' G' sm c'.sg hlt, fun σ2 H2 => ∃ G2 ρ2 fp2, Cfg X.K H2 G2 σ2 ρ2 fp2 ∧ Same G1 G2 ∧ ResS X.K X.mg E M D H2 G2 fp2 σ2 (forL t p (xs.drop (i + 1)) ρ2), fun σ2 H2 h2 => ⟨_, by omega, rfl, hlt, h2⟩, fun x H2 hy => ?_⟩
      obtain ⟨G2, d, xt, sg2, ed, dr⟩ := y.yld i H' G' x H2 sm c'.sg hy hlt
      rw [ex] at ed; cases ed
      obtain ⟨c2, st2⟩ := c'.ext0 xt sg2
      have q2 := ResS.rebase st2 .refl sg2 q'
      have q3 : ResS X.K X.mg E M D H2 G2 fp' σ' (match t xs[i] ρ' with | none => .bad | some ρ1 => (p ρ1).bind fun fl r => match fl with | .nx => forL t p (xs.drop (i + 1)) r | .ct => forL t p (xs.drop (i + 1)) r | .bk => .ok .nx r | .ret w => .ok (.ret w) r) := q2
      cases z : t xs[i] ρ' with
      | none => rw [z] at q3; exact q3.elim
      | some ρ1 =>
        rw [z] at q3
        refine ⟨G2, ρ', fp', xs[i], ρ1, c2, dr, z, fun σ3 fp3 c3 st3 k3 => ⟨G2, ρ1, fp3, c3, ?_⟩⟩
        have q4 := ResO.bind (ResS.rebase st3 k3 c3.sg q3)
        refine ResO.imp (fun fl r4 h4 => ?_) (fun _ _ h4 => h4) q4
        cases fl with
        | nx => exact fun σ5 H5 G5 fp5 c5 s5 k5 => ⟨G5, r4, fp5, c5, (sm.trans xt.sg).trans s5.x.sg, ResS.rebase s5 k5 c5.sg h4⟩
        | ct => exact fun σ5 H5 G5 fp5 c5 s5 k5 => ⟨G5, r4, fp5, c5, (sm.trans xt.sg).trans s5.x.sg, ResS.rebase s5 k5 c5.sg h4⟩
        | bk => exact h4
        | ret w => exact h4
    · have ei : i = xs.length := by omega
      subst ei
      rw [List.drop_length] at q'
      exact .inl ⟨y.stop _ H' G' sm c'.sg (Nat.le_refl _), q' σ' H' G' fp' c' .refl .refl⟩⟩
def whileL (g : Rho → Out Bool) (body : SSem) : Nat → SSem
  | 0 => fun _ => .bad
  | n + 1 => fun ρ => (g ρ).bind fun b r => if b = true then (body r).bind fun fl r => match fl with
      | .nx => whileL g body n r
      | .ct => whileL g body n r
      | .bk => .ok .nx r
      | .ret w => .ok (.ret w) r
    else .ok .nx r
open Classical in
noncomputable def sWhile (g : Rho → Out Bool) (body : SSem) : SSem := fun ρ => if h : ∃ n, whileL g body n ρ ≠ .bad then whileL g body h.choose ρ else .bad
theorem s1_while (hp : PassesOwn (model X.prog X.w) X.A X.env X.xe) (hc : ST X E c g) (hb : SS X E M body p) : S1 X E M (.While c body [] pos) (sWhile g p) :=
  ps_sub (ps_while hp hc hb) fun D σ H ⟨G, ρ, fp, cf, q⟩ => by
    unfold sWhile at q
    split at q
    · rename_i hn
      refine ⟨fun m σ' H' => ∃ G' ρ' fp', Cfg X.K H' G' σ' ρ' fp' ∧ ResS X.K X.mg E M D H' G' fp' σ' (whileL g p m ρ'), ⟨_, G, ρ, fp, cf, q⟩, fun m σ' H' hW => ?_⟩
      obtain ⟨G', ρ', fp', c', q'⟩ := hW
      cases m with
      | zero => exact q'.elim
      | succ m =>
        refine ⟨G', ρ', fp', c', seqTS q' fun b r H1 G1 fp1 c1 s1 q1 => ?_⟩
        cases b with
        | false =>
          rw [if_neg Bool.false_ne_true] at q1 ⊢
          exact q1 σ' H1 G1 fp1 c1 s1 .refl
        | true =>
          rw [if_pos rfl] at q1 ⊢
          refine ⟨fun σ2 H2 => ∃ G2 ρ2 fp2, Cfg X.K H2 G2 σ2 ρ2 fp2 ∧ ResS X.K X.mg E M D H2 G2 fp2 σ2 (whileL g p m ρ2), fun σ2 H2 h2 => ⟨m, Nat.lt_succ_self _, h2⟩, G1, r, fp1, c1, ?_⟩
          have q4 := ResO.bind (ResS.rebase s1 .refl c1.sg q1)
          refine ResO.imp (fun fl r4 h4 => ?_) (fun _ _ h4 => h4) q4
          cases fl with
          | nx => exact fun σ5 H5 G5 fp5 c5 s5 k5 => ⟨G5, r4, fp5, c5, ResS.rebase s5 k5 c5.sg h4⟩
          | ct => exact fun σ5 H5 G5 fp5 c5 s5 k5 => ⟨G5, r4, fp5, c5, ResS.rebase s5 k5 c5.sg h4⟩
          | bk => exact h4
          | ret w => exact h4
    · exact q.elim
theorem whileL_mono {g : Rho → Out Bool} {p : SSem} : ∀ (n k : Nat) (ρ : Rho), whileL g p n ρ ≠ .bad → whileL g p (n + k) ρ = whileL g p n ρ
  | 0, _, _, h => absurd rfl h
  | n + 1, k, ρ, h => by
    rw [show n + 1 + k = (n + k) + 1 by omega]
    unfold whileL at h ⊢
    cases z : g ρ with
    | bad => rfl
    | exc x r => rfl
    | ok b r =>
      rw [z] at h
      simp only [Out.bind_ok] at h ⊢
      cases b with
      | false => rfl
      | true =>
        simp only [if_true] at h ⊢
        cases z2 : p r with
        | bad => rfl
        | exc x r => rfl
        | ok fl r2 =>
          rw [z2] at h
          simp only [Out.bind_ok] at h ⊢
          cases fl with
          | nx => exact whileL_mono n k r2 h
          | ct => exact whileL_mono n k r2 h
          | bk => rfl
          | ret w => rfl
/-- how a while comes out -/
theorem sWhile_eq {g : Rho → Out Bool} {p : SSem} {ρ : Rho} (n : Nat) {o : Out Fl} (h : whileL g p n ρ = o) (ho : o ≠ .bad) : sWhile g p ρ = o := by
  have hn : ∃ n, whileL g p n ρ ≠ .bad := ⟨n, by rw [h]; exact ho⟩
  unfold sWhile
  rw [dif_pos hn]
  have e1 := whileL_mono n hn.choose ρ (by rw [h]; exact ho)
  have e2 := whileL_mono hn.choose n ρ hn.choose_spec
  rw [Nat.add_comm] at e1
  rw [← e2, e1, h]
end

/-! ## a block's own slots -/
def wipeR (ρ : Rho) : List Nat → Rho
  | [] => ρ
  | v :: vs => (wipeR ρ vs).set v none
def wipeF (fp : Fp) : List Nat → Fp
  | [] => fp
  | v :: vs => upF (wipeF fp vs) v []
def restR (ρ0 : Rho) : List Nat → Rho → Rho
  | [], r => r
  | i :: is, r => (restR ρ0 is r).set i (match ρ0[i]? with
    | some (some (.d x)) => some (.d x)
    | _ => none)
theorem wipeR_len (ρ : Rho) : ∀ vs, (wipeR ρ vs).length = ρ.length
  | [] => rfl
  | v :: vs => by unfold wipeR; rw [List.length_set, wipeR_len ρ vs]
theorem restR_len (ρ0 r : Rho) : ∀ vs, (restR ρ0 vs r).length = r.length
  | [] => rfl
  | v :: vs => by unfold restR; rw [List.length_set, restR_len ρ0 r vs]
theorem set_out {α : Type} {l : List α} {i : Nat} {x : α} (h : ¬ i < l.length) : l.set i x = l := List.set_eq_of_length_le (by omega)
section
variable {K : Frg} {H G : Hp} {σ : St} {ρ : Rho} {fp : Fp}
theorem Cfg.wipe1 (c : Cfg K H G σ ρ fp) (i : Nat) : Cfg K H G (σ.set i none) (ρ.set i none) (upF fp i []) := by
  by_cases hi : i < ρ.length
  · exact c.put (fun w e => nomatch e) (fun _ => rfl) List.nodup_nil (fun _ z => nomatch z) hi
  · rw [set_out hi, set_out (by rw [c.len]; exact hi)]
    have e : fp i = [] := c.nil i fun w z => by rw [List.getElem?_eq_none (by omega)] at z; cases z
    have e2 : upF fp i [] = fp := by
      funext j
      by_cases h : j = i
      · rw [h, upF_same, e]
      · rw [upF_ne h]
    rw [e2]; exact c
theorem Cfg.wipe (c : Cfg K H G σ ρ fp) : ∀ vs, Cfg K H G (L2.wipe σ vs) (wipeR ρ vs) (wipeF fp vs)
  | [] => c
  | v :: vs => (Cfg.wipe c vs).wipe1 v
theorem wipeF_own : ∀ (vs : List Nat) {a : Addr}, Own (wipeF fp vs) a → Own fp a
  | [], _, h => h
  | v :: vs, a, h => by
    have h' : Own (upF (wipeF fp vs) v []) a := h
    rcases h'.up with z | ⟨j, _, z⟩
    · cases z
    · exact wipeF_own vs ⟨j, z⟩
/-- the slots put back -/
def restS (σ : St) : List Nat → St → St
  | [], s => s
  | i :: is, s => (restS σ is s).set i (σ.getD i none)
theorem restS_eq {σ σ1 : St} (hl : σ1.length = σ.length) : ∀ vs, (∀ i, i ∉ vs → σ1[i]? = σ[i]?) → restS σ vs σ1 = σ := by
  intro vs h
  have key : ∀ ws, (restS σ ws σ1).length = σ.length ∧ ∀ i, i ∈ ws ∨ σ1[i]? = σ[i]? → (restS σ ws σ1)[i]? = σ[i]? := by
    intro ws
    induction ws with
    | nil => exact ⟨hl, fun i hi => hi.elim (fun z => nomatch z) id⟩
    | cons w ws ih =>
      unfold restS
      refine ⟨by rw [List.length_set]; exact ih.1, fun i hi => ?_⟩
      by_cases e : w = i
      · subst e
        by_cases hw : w < σ.length
        · rw [List.getElem?_set_self (by rw [ih.1]; exact hw), List.getElem?_eq_getElem hw]
          simp [List.getD, hw]
        · rw [List.getElem?_eq_none (by rw [List.length_set, ih.1]; omega), List.getElem?_eq_none (by omega)]
      · rw [List.getElem?_set_ne e]
        refine ih.2 i ?_
        rcases hi with z | z
        · rcases List.mem_cons.mp z with y | y
          · exact absurd y.symm e
          · exact .inl y
        · exact .inr z
  apply List.ext_getElem?
  intro i
  by_cases hi : i ∈ vs
  · exact (key vs).2 i (.inl hi)
  · exact (key vs).2 i (.inr (h i hi))
theorem Cfg.rest {σ0 : St} {ρ0 : Rho} (c : Cfg K H G σ ρ fp) (h0 : ∀ (i : Nat) (x : FW.D), ρ0[i]? = some (some (Wv.d x)) → ∃ v, σ0[i]? = some (some v) ∧ Dr K G v x) : ∀ vs, Cfg K H G (restS σ0 vs σ) (restR ρ0 vs ρ) (wipeF fp vs)
  | [] => c
  | i :: is => by
    have ih := Cfg.rest c h0 is
    show Cfg K H G ((restS σ0 is σ).set i _) ((restR ρ0 is ρ).set i _) (upF (wipeF fp is) i [])
    by_cases hi : i < (restR ρ0 is ρ).length
    · refine ih.put (fun w e => ?_) (fun _ => rfl) List.nodup_nil (fun _ z => nomatch z) hi
      split at e
      · rename_i x ex
        obtain ⟨v, hv, dr⟩ := h0 i x ex
        refine ⟨v, by rw [List.getD, hv]; rfl, ?_⟩
        cases e
        unfold Rw
        exact ⟨rfl, dr⟩
      · cases e
    · have e := ih.wipe1 i
      rw [set_out hi, set_out (by rw [ih.len]; exact hi)] at e
      rw [set_out hi, set_out (by rw [ih.len]; exact hi)]
      exact e
end
end FW

set_option Elab.async false
set_option linter.all false
set_option maxRecDepth 100000
set_option maxHeartbeats 1000001
namespace FW
open PySem PySem.Spec L2
/-! ## list comprehensions -/
/-- within a comprehension nothing is raised -/
def nox {α : Type} : Out α → Out α
  | .exc _ _ => .bad
  | o => o
@[simp] theorem nox_ok {α : Type} (a : α) (r : Rho) : nox (.ok a r) = .ok a r := rfl
@[simp] theorem nox_bad {α : Type} : nox (.bad : Out α) = .bad := rfl
def compL (vs : List Nat) (t : TgF) (tt : Rho → Out Bool) (el : ES) : List D → Rho → Out (List Wv)
  | [] => fun ρ => .ok [] ρ
  | x :: xs => fun ρ => match t x (wipeR ρ vs) with
    | none => .bad
    | some ρ1 => (nox (tt ρ1)).bind fun b r => if b = true then (nox (el r)).bind fun w r => (compL vs t tt el xs r).bind fun ws r => .ok (w :: ws) r else compL vs t tt el xs r
def sComp (vs : List Nat) (it : ISem) (t : TgF) (tt : Rho → Out Bool) (el : ES) : ES := fun ρ => (it ρ).bind fun xs r => if xs.length ≤ 1000000 then (compL vs t tt el xs r).bind fun ws r' => .ok (.o ws) (restR r vs r') else .bad
def EF : WX := fun _ _ _ _ => False
def notIn (vs : List Nat) : Nat → Bool := fun i => !vs.contains i
def tYesB : Rho → Out Bool := fun ρ => .ok true ρ
def STs (X : Cx) (E : WX) (ifs : List Expr) (g : Rho → Out Bool) : Prop := PTs X ifs (tT X.K X.mg E g)
theorem pts_sub {X : Cx} {e : List Expr} {t t' : TT} (h : PTs X e t) (w : ∀ σ H Q, t' σ H Q → t σ H Q) : PTs X e t' := ⟨fun pins s σ H Q I q => h.run pins s σ H Q I (w σ H Q q)⟩
theorem st_nil {X : Cx} {E : WX} : STs X E [] tYesB := pts_sub pts_nil fun σ H Q ⟨G, ρ, fp, c, q⟩ => q H G fp c .refl
theorem st_one {X : Cx} {E : WX} {c : Expr} {g : Rho → Out Bool} (h : ST X E c g) : STs X E [c] g := pts_one h
theorem wipe_len (σ : St) : ∀ vs, (wipe σ vs).length = σ.length := wipe_length σ
/-- what a target changes is wiped -/
theorem wipe_keep {σ σ2 : St} {vs : List Nat} (k : Keep (notIn vs) (wipe σ vs) σ2) : wipe σ2 vs = wipe σ vs := by
  have hl : σ2.length = σ.length := k.1.trans (wipe_length σ vs)
  have hw : ∀ (τ : St) (ws : List Nat) (i : Nat), i ∈ ws → i < τ.length → (wipe τ ws)[i]? = some none := by
    intro τ ws
    induction ws with
    | nil => intro i h; cases h
    | cons w ws ih =>
      intro i h hi
      unfold wipe
      by_cases e : w = i
      · subst e
        rw [List.getElem?_set_self (by rw [wipe_length]; exact hi)]
      · rw [List.getElem?_set_ne e]
        rcases List.mem_cons.mp h with (z | z)
        · exact absurd z.symm e
        · exact ih i z hi
  apply List.ext_getElem?
  intro i
  by_cases hi : i ∈ vs
  · by_cases hlt : i < σ.length
    · rw [hw σ2 vs i hi (by rw [hl]; exact hlt), hw σ vs i hi hlt]
    · rw [List.getElem?_eq_none (by rw [wipe_length, hl]; omega), List.getElem?_eq_none (by rw [wipe_length]; omega)]
  · rw [wipe_out hi, k.2 i (by unfold notIn; simp [hi])]
theorem wipe_wipe {σ σ2 : St} {vs : List Nat} (hl : σ2.length = σ.length) (h : wipe σ2 vs = wipe σ vs) : ∀ i, i ∉ vs → σ2[i]? = σ[i]? := fun i hi => by
  rw [← wipe_out (σ := σ2) hi, h, wipe_out hi]
theorem Keep.wipe {M : Nat → Bool} {σ : St} : Keep M σ σ := .refl
section
variable {K : Frg} {mg : Mg} {E : WX} {vs : List Nat} {t : TgF} {tt : Rho → Out Bool} {el : ES}
/-- the state between two turns of a comprehension: the new list stands at L -/
structure CSt (K : Frg) (G0 : Hp) (L : Addr) (vs : List Nat) (σ : St) (H0 : Hp) (fp0 : Fp) (acc : List Wv) (ρ : Rho) (H G : Hp) (σi : St) (fp : Fp) (va : List V) (fa : List Addr) : Prop where
  c : Cfg K H G σi ρ fp
  w : wipe σi vs = wipe σ vs
  len : σi.length = σ.length
  st : Step fp0 H0 G0 fp H G
  hL : H L = some (.lst va)
  gL : G L = none
  nL : H0 L = none
  r : Rws K H G va acc fa
  nd : (L :: fa).Nodup
  sep : ∀ a ∈ L :: fa, ¬ Own fp a
  nw : ∀ a ∈ fa, Own fp0 a ∨ H0 a = none
/-- a step of the machine between two states -/
theorem CSt.step {G0 H0 H G H1 G1 : Hp} {L : Addr} {σ σi σ1 : St} {fp0 fp fp1 : Fp} {acc : List Wv} {ρ ρ1 : Rho} {va : List V} {fa : List Addr} (s : CSt K G0 L vs σ H0 fp0 acc ρ H G σi fp va fa) (c1 : Cfg K H1 G1 σ1 ρ1 fp1) (hw : wipe σ1 vs = wipe σ vs) (hl : σ1.length = σ.length)
    (st : Step fp H G fp1 H1 G1) : CSt K G0 L vs σ H0 fp0 acc ρ1 H1 G1 σ1 fp1 va fa := by
  have nL := s.sep L List.mem_cons_self
  obtain ⟨k1, k2⟩ := s.r.keep st fun a h => s.sep a (List.mem_cons_of_mem _ h)
  obtain ⟨h1, g1⟩ := st.x.oth L _ s.hL s.gL nL
  refine ⟨c1, hw, hl, s.st.trans st s.c.sg, h1, g1, s.nL, k1, s.nd, fun a h => ?_, s.nw⟩
  rcases List.mem_cons.mp h with (z | z)
  · subst z
    intro q
    rcases st.nw a q with y | y
    · exact nL y
    · rw [s.hL] at y; cases y
  · exact k2 a z
end
section
variable {X : Cx} {E : WX} {elt tg iter : Expr} {ifs : List Expr} {scope : Scope} {own : List (Str × Nat)} {pos : Pos} {it : ISem} {t : TgF} {tt : Rho → Out Bool} {el : ES}
theorem Step.wipe {H G : Hp} {fp : Fp} (vs : List Nat) : Step fp H G (wipeF fp vs) H G := ⟨.refl, fun a h => .inl (wipeF_own vs h)⟩
/-- the new list one longer -/
theorem CSt.more {K : Frg} {vs : List Nat} {G0 H0 H G H1 G1 : Hp} {L : Addr} {σ σi : St} {fp0 fp fp1 : Fp} {acc : List Wv} {ρ ρ1 : Rho} {va : List V} {fa fv : List Addr} {v : V} {w : Wv} (s : CSt K G0 L vs σ H0 fp0 acc ρ H G σi fp va fa) (p : PV K H G fp σi ρ1 v w H1 G1 fp1 fv) :
    H1 L = some (.lst va) ∧ CSt K G0 L vs σ H0 fp0 (acc ++ [w]) ρ1 (upd H1 L (.lst (va ++ [v]))) G1 σi fp1 (va ++ [v]) (fa ++ fv) := by
  have s1 := s.step p.c s.w s.len p.st
  have nLv : L ∉ fv := fun h => (p.nwv L h).elim (s.sep L List.mem_cons_self) fun z => by rw [s.hL] at z; cases z
  have nLa : L ∉ fa := (List.nodup_cons.mp s1.nd).1
  have mv : ∀ a, a ≠ L → upd H1 L (.lst (va ++ [v])) a = H1 a := fun a h => upd_ne h
  have neG : ∀ a u, G1 a = some u → a ≠ L := fun a u h e => by rw [e, s1.gL] at h; cases h
  refine ⟨s1.hL, ?_, s1.w, s1.len, ⟨⟨s1.st.x.sg, fun a o h g np => ?_, fun a h => ?_⟩, s1.st.nw⟩, upd_same, s1.gL, s1.nL, ?_, ?_, fun a h => ?_, fun a h => ?_⟩
  · refine s1.c.grow (fun a u h => ?_) (Same.refl _) fun a h => ?_
    · rw [mv a (neG a u h)]; exact s1.c.sg a u h
    · have e : a ≠ L := fun e => s1.sep L List.mem_cons_self (e ▸ h)
      obtain ⟨_, _, g⟩ := s1.c.own h
      exact ⟨mv a e, g⟩
  · have e : a ≠ L := fun e => by rw [e, s.nL] at h; cases h
    rw [mv a e]
    exact s1.st.x.oth a o h g np
  · by_cases e : a = L
    · rw [e]; exact s.nL
    · rw [mv a e] at h; exact s1.st.x.dom a h
  · refine Rws.append (Rws.move (Same.refl _) _ _ _ s1.r fun a ha => ?_) ?_
    · obtain ⟨_, _, g⟩ := Rws.there _ _ _ s1.r a ha
      exact ⟨mv a fun e => nLa (e ▸ ha), g⟩
    · unfold Rws
      refine ⟨v, [], fv, [], rfl, by simp, Rw.move (Same.refl _) _ _ _ p.r fun a ha => ?_, by unfold Rws; exact ⟨rfl, rfl⟩⟩
      obtain ⟨_, _, g⟩ := Rw.there _ _ _ p.r a ha
      exact ⟨mv a fun e => nLv (e ▸ ha), g⟩
  · have na := (List.nodup_cons.mp s1.nd).2
    refine List.nodup_cons.mpr ⟨fun h => (List.mem_append.mp h).elim nLa nLv, List.nodup_append.mpr ⟨na, p.nd, fun a ha b hb e => ?_⟩⟩
    subst e
    rcases p.nwv a hb with z | z
    · exact s.sep a (List.mem_cons_of_mem _ ha) z
    · obtain ⟨_, h1, _⟩ := Rws.there _ _ _ s.r a ha
      rw [h1] at z; cases z
  · rcases List.mem_cons.mp h with z | z
    · rw [z]; exact s1.sep L List.mem_cons_self
    · rcases List.mem_append.mp z with y | y
      · exact s1.sep a (List.mem_cons_of_mem _ y)
      · exact p.sep a y
  · rcases List.mem_append.mp h with y | y
    · exact s1.nw a y
    · rcases p.nwv a y with z | z
      · exact s.st.nw a z
      · exact .inr (s.st.x.dom a z)
/-- the end -/
theorem CSt.fin {K : Frg} {vs : List Nat} {G0 H0 H G : Hp} {L : Addr} {σ σi : St} {fp0 fp : Fp} {acc : List Wv} {ρ r0 : Rho} {va : List V} {fa : List Addr} (s : CSt K G0 L vs σ H0 fp0 acc ρ H G σi fp va fa) (c0 : Cfg K H0 G0 σ r0 fp0) :
    PV K H0 G0 fp0 σ (restR r0 vs ρ) (.ref L) (.o acc) H G (wipeF fp vs) (L :: fa) := by
  have e : restS σ vs σi = σ := restS_eq s.len vs (wipe_wipe s.len s.w)
  have c1 := Cfg.rest (σ0 := σ) (ρ0 := r0) s.c (fun i x h => by
    obtain ⟨v, hv, hr⟩ := c0.get i _ h
    unfold Rw at hr
    exact ⟨v, hv, Dr.mono s.st.x.sg _ _ hr.2⟩) vs
  rw [e] at c1
  refine ⟨c1, s.st.trans (Step.wipe vs) s.c.sg, ?_, s.nd, fun a h q => s.sep a h (wipeF_own vs q), fun a h => ?_⟩
  · unfold Rw
    exact ⟨L, va, fa, rfl, s.hL, s.gL, rfl, s.r⟩
  · rcases List.mem_cons.mp h with z | z
    · rw [z]; exact .inr s.nL
    · exact s.nw a z
theorem line7 {n : Nat} (h : n ≤ 1000000) : n ≤ sizeLine := Nat.le_trans h line6
theorem comp_rd {K : Frg} {mg : Mg} {vs : List Nat} {σ : St} {H : Hp} {Q : VK} (h : tS K mg E (sComp vs it t tt el) σ H Q) : tLc (tIt K mg E it) (tgt K (notIn vs) t) (tT K mg EF tt) (tS K mg EF el) vs σ H Q := by
  obtain ⟨G, ρ, fp, c, q⟩ := h
  refine ⟨G, ρ, fp, c, seqI q fun xs r J H1 G1 fp1 c1 s1 y q1 => ?_⟩
  split at q1
  · rename_i hlen
    have q2 := ResE.rebase s1 c1.sg q1
    intro L hL
    have gL : G1 L = none := by
      cases e : G1 L with
      | none => rfl
      | some o => rw [c1.sg L o e] at hL; cases hL
    refine ⟨fun i m H' => m = xs.length - i ∧ i ≤ xs.length ∧ ∃ acc ρi G' σi fpi va fa, CSt K G1 L vs σ H1 fp1 acc ρi H' G' σi fpi va fa ∧ va.length ≤ i ∧
      ResE K mg E H1 G1 fp1 σ Q ((compL vs t tt el (xs.drop i) ρi).bind fun ws r' => .ok (.o (acc ++ ws)) (restR r vs r')),
      ⟨_, rfl, Nat.zero_le _, [], r, G1, σ, fp1, [], [], ⟨c1.new hL, rfl, rfl, .new hL, upd_same, gL, hL, by unfold Rws; exact ⟨rfl, rfl⟩, by simp, fun a h q => ?_, fun a h => nomatch h⟩, Nat.le_refl _, q2⟩, fun i m H' hW => ?_⟩
    · have e : a = L := List.mem_singleton.mp h
      obtain ⟨_, z, _⟩ := c1.own q
      rw [e, hL] at z; cases z
    · obtain ⟨em, hi, acc, ρi, G', σi, fpi, va, fa, s, hva, q3⟩ := hW
      by_cases hlt : i < xs.length
      · have ex : xs[i]? = some xs[i] := List.getElem?_eq_getElem hlt
        refine .inr ⟨y.go i H' G' s.st.x.sg s.c.sg hlt, fun H2 => ∃ acc ρi G' σi fpi va fa, CSt K G1 L vs σ H1 fp1 acc ρi H2 G' σi fpi va fa ∧ va.length ≤ i + 1 ∧
          ResE K mg E H1 G1 fp1 σ Q ((compL vs t tt el (xs.drop (i + 1)) ρi).bind fun ws r' => .ok (.o (acc ++ ws)) (restR r vs r')), fun H2 h2 => ⟨_, by omega, rfl, hlt, h2⟩, fun x H2 hy => ?_⟩
        obtain ⟨G2, d, xt, sg2, ed, dr⟩ := y.yld i H' G' x H2 s.st.x.sg s.c.sg hy hlt
        rw [ex] at ed; cases ed
        obtain ⟨c2, st2⟩ := s.c.ext0 xt sg2
        have s2 := s.step c2 s.w s.len st2
        rw [drop_eq ex] at q3
        have q4 : ResE K mg E H1 G1 fp1 σ Q ((match t xs[i] (wipeR ρi vs) with | none => (.bad : Out (List Wv)) | some ρ1 => (nox (tt ρ1)).bind fun b r => if b = true then (nox (el r)).bind fun w r => (compL vs t tt el (xs.drop (i + 1)) r).bind fun ws r => .ok (w :: ws) r else compL vs t tt el (xs.drop (i + 1)) r).bind fun ws r' => .ok (.o (acc ++ ws)) (restR r vs r')) := q3
        have c3 := c2.wipe vs
        rw [s.w] at c3
        cases z : t xs[i] (wipeR ρi vs) with
        | none => rw [z] at q4; exact q4.elim
        | some ρ1 =>
          rw [z] at q4
          dsimp only at q4
          refine ⟨G2, wipeR ρi vs, wipeF fpi vs, xs[i], ρ1, c3, dr, z, fun σ3 fp3 c4 st4 k4 => ?_⟩
          have hl3 : σ3.length = σ.length := k4.1.trans (wipe_length σ vs)
          have hw3 : wipe σ3 vs = wipe σ vs := wipe_keep k4
          refine ⟨hw3, G2, ρ1, fp3, c4, ?_⟩
          have s4 := s2.step c4 hw3 hl3 ((Step.wipe vs).trans st4 sg2)
          cases z2 : tt ρ1 with
          | bad => rw [z2] at q4; exact q4.elim
          | exc x5 r5 => rw [z2] at q4; exact q4.elim
          | ok b r5 =>
            rw [z2] at q4
            intro H5 G5 fp5 c5 st5
            have s5 := s4.step c5 hw3 hl3 st5
            cases b with
            | false =>
              rw [if_neg Bool.false_ne_true]; exact ⟨acc, r5, G5, σ3, fp5, va, fa, s5, by omega, q4⟩
            | true =>
              rw [if_pos rfl]
              refine ⟨G5, r5, fp5, c5, ?_⟩
              have q5 : ResE K mg E H1 G1 fp1 σ Q (((nox (el r5)).bind fun w r => (compL vs t tt el (xs.drop (i + 1)) r).bind fun ws r => .ok (w :: ws) r).bind fun ws r' => .ok (.o (acc ++ ws)) (restR r vs r')) := q4
              cases z3 : el r5 with
              | bad => rw [z3] at q5; exact q5.elim
              | exc x6 r6 => rw [z3] at q5; exact q5.elim
              | ok w r6 =>
                rw [z3] at q5
                intro v H6 G6 fp6 fv p
                obtain ⟨hL6, s6⟩ := s5.more p
                refine ⟨va, hL6, by have := line7 hlen; omega, acc ++ [w], r6, G6, σ3, fp6, va ++ [v], fa ++ fv, s6, by rw [List.length_append]; simp; omega, ?_⟩
                have e : (((nox (Out.ok w r6)).bind fun w r => (compL vs t tt el (xs.drop (i + 1)) r).bind fun ws r => .ok (w :: ws) r).bind fun ws r' => (.ok (.o (acc ++ ws)) (restR r vs r') : Out Wv)) = (compL vs t tt el (xs.drop (i + 1)) r6).bind fun ws r' => .ok (.o (acc ++ [w] ++ ws)) (restR r vs r') := by
                  simp only [nox_ok, Out.bind_ok]
                  cases compL vs t tt el (xs.drop (i + 1)) r6 with
                  | bad => rfl
                  | exc _ _ => rfl
                  | ok ws r7 => simp
                rw [← e]; exact q5
      · have ei : i = xs.length := by omega
        subst ei
        rw [List.drop_length] at q3
        have q4 : ResE K mg E H1 G1 fp1 σ Q (.ok (.o (acc ++ [])) (restR r vs ρi)) := q3
        rw [List.append_nil] at q4
        exact .inl ⟨y.stop _ H' G' s.st.x.sg s.c.sg (Nat.le_refl _), q4 _ _ _ _ _ (s.fin c1)⟩
  · exact q1.elim
end
end FW

set_option Elab.async false
set_option linter.all false
set_option maxRecDepth 100000
set_option maxHeartbeats 1000001
namespace FW
open PySem PySem.Spec L2
section
variable {X : Cx} {E : WX} {M : Nat → Bool} {elt tg iter tg1 iter1 : Expr} {ifs ifs1 : List Expr} {scope : Scope} {own : List (Str × Nat)} {pos spos : Pos} {it it1 : ISem} {t t1 : TgF} {tt tt1 : Rho → Out Bool} {el : ES}
theorem se_comp (hc : X.calm = true) (hN : X.N.Nodup) (hi : SI X E tg iter it) (ok : BlkOk X.N X.env.scope scope own)
    (hg : ∀ (s : Shared) (H : Hp) (C : Addr) (cl : List (Str × Addr)) (fp : List Addr), SG (X.blk s H scope (compEnvC scope cl C X.env) fp) (notIn (own.map (·.2))) tg t) (ht : ∀ (s : Shared) (H : Hp) (C : Addr) (cl : List (Str × Addr)) (fp : List Addr), STs (X.blk s H scope (compEnvC scope cl C X.env) fp) EF ifs tt)
    (he : ∀ (s : Shared) (H : Hp) (C : Addr) (cl : List (Str × Addr)) (fp : List Addr), SE (X.blk s H scope (compEnvC scope cl C X.env) fp) EF elt el) (hs : ∀ x, foldedSetIterable iter X.env x = pure x := by intro _; rfl) :
    SE X E (.ListComp elt [⟨tg, iter, ifs, 0⟩] scope pos) (sComp (own.map (·.2)) it t tt el) := pe_sub (pe_lc (g := tgt X.K (notIn (List.map (fun (p : Str × Nat) => p.2) own)) t) (tt := tT X.K X.mg EF tt) (te := tS X.K X.mg EF el) hc hN hi ok hg ht he hs) fun σ H Q h => comp_rd h
theorem s1_setLc {i : Nat} {y : Str} {py : Pos} (hc : X.calm = true) (hN : X.N.Nodup) (hsw : swapsWith (.ListComp elt [⟨tg, iter, ifs, 0⟩] scope pos) (some (.Name y py)) spos.line X.env = pure true) (hi : SI X E tg iter it) (ok : BlkOk X.N X.env.scope scope own)
    (hg : ∀ (s : Shared) (H : Hp) (C : Addr) (cl : List (Str × Addr)) (fp : List Addr), SG (X.blk s H scope (compEnvC scope cl C X.env) fp) (notIn (own.map (·.2))) tg t) (ht : ∀ (s : Shared) (H : Hp) (C : Addr) (cl : List (Str × Addr)) (fp : List Addr), STs (X.blk s H scope (compEnvC scope cl C X.env) fp) EF ifs tt)
    (he : ∀ (s : Shared) (H : Hp) (C : Addr) (cl : List (Str × Addr)) (fp : List Addr), SE (X.blk s H scope (compEnvC scope cl C X.env) fp) EF elt el) (hM : M i = false := by rfl) (hy : X.N[i]? = some y := by rfl) (hyl : X.env.scope.names.lookup y = some .local := by rfl) (hs : ∀ x, foldedSetIterable iter X.env x = pure x := by intro _; rfl) :
    S1 X E M (.Assign [.Name y py] (.ListComp elt [⟨tg, iter, ifs, 0⟩] scope pos) spos) (sSet i (sComp (own.map (·.2)) it t tt el)) :=
  ps_sub (ps_setLc (g := tgt X.K (notIn (List.map (fun (p : Str × Nat) => p.2) own)) t) (tt := tT X.K X.mg EF tt) (te := tS X.K X.mg EF el) hc hN hy hyl hsw hi ok hg ht he hs) fun D σ H h => comp_rd (set_rd hM h)

/-! ## two clauses -/
def compL2 (vs vs1 : List Nat) (t : TgF) (tt : Rho → Out Bool) (it1 : ISem) (t1 : TgF) (tt1 : Rho → Out Bool) (el : ES) : List D → Rho → Out (List Wv)
  | [] => fun ρ => .ok [] ρ
  | x :: xs => fun ρ => match t x (wipeR ρ vs) with
    | none => .bad
    | some ρ1 => (nox (tt ρ1)).bind fun b r => if b = true then
        (nox (it1 r)).bind fun ys r => if ys.length ≤ 1000 then (compL vs1 t1 tt1 el ys r).bind fun us r => (compL2 vs vs1 t tt it1 t1 tt1 el xs r).bind fun ws r => .ok (us ++ ws) r else .bad
      else compL2 vs vs1 t tt it1 t1 tt1 el xs r
def sComp2 (vs vs1 : List Nat) (it : ISem) (t : TgF) (tt : Rho → Out Bool) (it1 : ISem) (t1 : TgF) (tt1 : Rho → Out Bool) (el : ES) : ES :=
  fun ρ => (it ρ).bind fun xs r => if xs.length ≤ 1000 then (compL2 vs vs1 t tt it1 t1 tt1 el xs r).bind fun ws r' => .ok (.o ws) (restR r vs r') else .bad
theorem wipe_sub {σ τ : St} {vs ws : List Nat} (hl : σ.length = τ.length) (h : wipe σ vs = wipe τ vs) (sub : ∀ i ∈ vs, i ∈ ws) : wipe σ ws = wipe τ ws := by
  have k : ∀ i, i ∉ ws → σ[i]? = τ[i]? := fun i hi => wipe_wipe hl h i fun z => hi (sub i z)
  refine wipe_keep (σ := τ) (σ2 := σ) (vs := ws) ⟨by rw [wipe_length]; exact hl, fun i hi => ?_⟩
  have hi' : i ∉ ws := by unfold notIn at hi; simpa using hi
  rw [wipe_out hi', k i hi']
section
variable {K : Frg} {mg : Mg} {vs vs1 : List Nat}
/-- the inner loop, from any state, to what its end is to reach -/
theorem inner_rd {G0 H0 : Hp} {L : Addr} {σ2 : St} {fp0 : Fp} {Nx : Hp → Prop} {J1 : It} {ys : List FW.D} {Hs Gs : Hp} {m0 : Nat} (y : Yld K J1 ys Hs Gs) (hm0 : m0 + ys.length ≤ 1000000) {acc0 : List Wv} {ρ0 : Rho} {Hb Gb : Hp} {fpb : Fp} {va0 : List V} {fa0 : List Addr} {pok : List Wv → Rho → Prop}
    (s0 : CSt K G0 L vs1 σ2 H0 fp0 acc0 ρ0 Hb Gb σ2 fpb va0 fa0) (hs : Same Gs Gb) (hva : va0.length ≤ m0) (h0 : ResO pok (fun _ _ => False) (compL vs1 t1 tt1 el ys ρ0))
    (hend : ∀ (us : List Wv) (ρi : Rho) (H G : Hp) (σi : St) (fp : Fp) (va : List V) (fa : List Addr), CSt K G0 L vs1 σ2 H0 fp0 (acc0 ++ us) ρi H G σi fp va fa → va.length ≤ m0 + ys.length → pok us ρi → Nx H) :
    ∃ W1 : Nat → Nat → Hp → Prop, (∃ m, W1 0 m Hb) ∧ ∀ j k H, W1 j k H →
      (J1.stop j H ∧ Nx H) ∨ (J1.go j H ∧ ∃ Nx1 : Hp → Prop, (∀ H', Nx1 H' → ∃ k', k' < k ∧ W1 (j + 1) k' H') ∧ ∀ x H', J1.yld j H x H' → tgt K (notIn vs1) t1 x (wipe σ2 vs1) H' fun σ3 H5 => wipe σ3 vs1 = wipe σ2 vs1 ∧ tT K mg EF tt1 σ3 H5 fun b H6 =>
        if b = true then tS K mg EF el σ3 H6 fun y H7 => ∃ acc, H7 L = some (.lst acc) ∧ acc.length < sizeLine ∧ Nx1 (upd H7 L (.lst (acc ++ [y]))) else Nx1 H6) := by
  refine ⟨fun j k H' => k = ys.length - j ∧ j ≤ ys.length ∧ ∃ us ρi G' σi fpi va fa, CSt K G0 L vs1 σ2 H0 fp0 (acc0 ++ us) ρi H' G' σi fpi va fa ∧ Same Gs G' ∧ va.length ≤ m0 + j ∧
    ResO (fun ws r => pok (us ++ ws) r) (fun _ _ => False) (compL vs1 t1 tt1 el (ys.drop j) ρi), ⟨_, rfl, Nat.zero_le _, [], ρ0, Gb, σ2, fpb, va0, fa0, by rw [List.append_nil]; exact s0, hs, by omega, h0⟩, fun j k H' hW => ?_⟩
  obtain ⟨ek, hj, us, ρi, G', σi, fpi, va, fa, s, sm, hv, q⟩ := hW
  by_cases hlt : j < ys.length
  · have ex : ys[j]? = some ys[j] := List.getElem?_eq_getElem hlt
    refine .inr ⟨y.go j H' G' sm s.c.sg hlt, fun H2 => ∃ us ρi G' σi fpi va fa, CSt K G0 L vs1 σ2 H0 fp0 (acc0 ++ us) ρi H2 G' σi fpi va fa ∧ Same Gs G' ∧ va.length ≤ m0 + (j + 1) ∧
      ResO (fun ws r => pok (us ++ ws) r) (fun _ _ => False) (compL vs1 t1 tt1 el (ys.drop (j + 1)) ρi), fun H2 h2 => ⟨_, by omega, rfl, hlt, h2⟩, fun x H2 hy => ?_⟩
    obtain ⟨G2, d, xt, sg2, ed, dr⟩ := y.yld j H' G' x H2 sm s.c.sg hy hlt
    rw [ex] at ed; cases ed
    obtain ⟨c2, st2⟩ := s.c.ext0 xt sg2
    have s2 := s.step c2 s.w s.len st2
    rw [drop_eq ex] at q
    have q4 : ResO (fun ws r => pok (us ++ ws) r) (fun _ _ => False) (match t1 ys[j] (wipeR ρi vs1) with | none => (.bad : Out (List Wv)) | some ρ1 => (nox (tt1 ρ1)).bind fun b r => if b = true then (nox (el r)).bind fun w r => (compL vs1 t1 tt1 el (ys.drop (j + 1)) r).bind fun ws r => .ok (w :: ws) r else compL vs1 t1 tt1 el (ys.drop (j + 1)) r) := q
    have c3 := c2.wipe vs1
    rw [s.w] at c3
    cases z : t1 ys[j] (wipeR ρi vs1) with
    | none => rw [z] at q4; exact q4.elim
    | some ρ1 =>
      rw [z] at q4
      dsimp only at q4
      refine ⟨G2, wipeR ρi vs1, wipeF fpi vs1, ys[j], ρ1, c3, dr, z, fun σ3 fp3 c4 st4 k4 => ?_⟩
      have hl3 : σ3.length = σ2.length := k4.1.trans (wipe_length σ2 vs1)
      have hw3 : wipe σ3 vs1 = wipe σ2 vs1 := wipe_keep k4
      refine ⟨hw3, G2, ρ1, fp3, c4, ?_⟩
      have s4 := s2.step c4 hw3 hl3 ((Step.wipe vs1).trans st4 sg2)
      cases z2 : tt1 ρ1 with
      | bad => rw [z2] at q4; exact q4.elim
      | exc x5 r5 => rw [z2] at q4; exact q4.elim
      | ok b r5 =>
        rw [z2] at q4
        intro H5 G5 fp5 c5 st5
        have s5 := s4.step c5 hw3 hl3 st5
        have sm5 : Same Gs G5 := (sm.trans xt.sg).trans st5.x.sg
        cases b with
        | false =>
          rw [if_neg Bool.false_ne_true]; exact ⟨us, r5, G5, σ3, fp5, va, fa, s5, sm5, by omega, q4⟩
        | true =>
          rw [if_pos rfl]
          refine ⟨G5, r5, fp5, c5, ?_⟩
          have q5 : ResO (fun ws r => pok (us ++ ws) r) (fun _ _ => False) ((nox (el r5)).bind fun w r => (compL vs1 t1 tt1 el (ys.drop (j + 1)) r).bind fun ws r => .ok (w :: ws) r) := q4
          cases z3 : el r5 with
          | bad => rw [z3] at q5; exact q5.elim
          | exc x6 r6 => rw [z3] at q5; exact q5.elim
          | ok w r6 =>
            rw [z3] at q5
            intro v H6 G6 fp6 fv p
            obtain ⟨hL6, s6⟩ := s5.more p
            refine ⟨va, hL6, by have := line6; omega, us ++ [w], r6, G6, σ3, fp6, va ++ [v], fa ++ fv, by rw [← List.append_assoc]; exact s6, sm5.trans p.st.x.sg, by rw [List.length_append]; simp; omega, ?_⟩
            have q6 := ResO.bind q5
            refine ResO.imp (fun ws r h => ?_) (fun _ _ h => h) (ResO.bind (o := compL vs1 t1 tt1 el (ys.drop (j + 1)) r6) (k := fun ws r => .ok (w :: ws) r) q6)
            rw [List.append_assoc]
            exact h
  · have ei : j = ys.length := by omega
    subst ei
    rw [List.drop_length] at q
    have q' : pok (us ++ []) ρi := q
    rw [List.append_nil] at q'
    exact .inl ⟨y.stop _ H' G' sm s.c.sg (Nat.le_refl _), hend us ρi H' G' σi fpi va fa s hv q'⟩
theorem CSt.turn {G0 H0 H G : Hp} {L : Addr} {σ σi τ : St} {fp0 fp : Fp} {acc : List Wv} {ρ : Rho} {va : List V} {fa : List Addr} {ws : List Nat} (s : CSt K G0 L vs σ H0 fp0 acc ρ H G σi fp va fa) (hw : wipe σi ws = wipe τ ws) (hl : σi.length = τ.length) : CSt K G0 L ws τ H0 fp0 acc ρ H G σi fp va fa :=
  ⟨s.c, hw, hl, s.st, s.hL, s.gL, s.nL, s.r, s.nd, s.sep, s.nw⟩
theorem compL_noexc {t : TgF} {tt : Rho → Out Bool} {el : ES} {x : Xn} {r : Rho} : ∀ (xs : List FW.D) (ρ : Rho), compL vs t tt el xs ρ ≠ .exc x r
  | [], ρ => fun h => nomatch h
  | y :: ys, ρ => by
    unfold compL
    cases t y (wipeR ρ vs) with
    | none => exact fun h => nomatch h
    | some ρ1 =>
      dsimp only
      cases tt ρ1 with
      | bad => exact fun h => nomatch h
      | exc _ _ => exact fun h => nomatch h
      | ok b r1 =>
        simp only [nox_ok, Out.bind_ok]
        cases b with
        | false => exact compL_noexc ys r1
        | true =>
          simp only [if_true]
          cases el r1 with
          | bad => exact fun h => nomatch h
          | exc _ _ => exact fun h => nomatch h
          | ok w r2 =>
            simp only [nox_ok, Out.bind_ok]
            have ih := compL_noexc (t := t) (tt := tt) (el := el) (x := x) (r := r) ys r2
            intro h
            cases z : compL vs t tt el ys r2 with
            | bad => rw [z] at h; cases h
            | exc x5 r5 =>
              rw [z] at h
              have e : Out.exc x5 r5 = (.exc x r : Out (List Wv)) := by
                injection h with h1 h2
                rw [h1, h2]
              exact ih (z.trans e)
            | ok ws r5 => rw [z] at h; cases h
theorem comp2_rd {σ : St} {H : Hp} {Q : VK} (hv : ∀ i ∈ vs1, i ∈ vs) (h : tS K mg E (sComp2 vs vs1 it t tt it1 t1 tt1 el) σ H Q) : tLc2 (tIt K mg E it) (tgt K (notIn vs) t) (tT K mg EF tt) (tIt K mg EF it1) (tgt K (notIn vs1) t1) (tT K mg EF tt1) (tS K mg EF el) vs vs1 σ H Q := by
  obtain ⟨G, ρ, fp, c, q⟩ := h
  refine ⟨G, ρ, fp, c, seqI q fun xs r J H1 G1 fp1 c1 s1 y q1 => ?_⟩
  split at q1
  · rename_i hlen
    have q2 := ResE.rebase s1 c1.sg q1
    intro L hL
    have gL : G1 L = none := by
      cases e : G1 L with
      | none => rfl
      | some o => rw [c1.sg L o e] at hL; cases hL
    refine ⟨fun i m H' => m = xs.length - i ∧ i ≤ xs.length ∧ ∃ acc ρi G' σi fpi va fa, CSt K G1 L vs σ H1 fp1 acc ρi H' G' σi fpi va fa ∧ va.length ≤ i * 1000 ∧
      ResE K mg E H1 G1 fp1 σ Q ((compL2 vs vs1 t tt it1 t1 tt1 el (xs.drop i) ρi).bind fun ws r' => .ok (.o (acc ++ ws)) (restR r vs r')),
      ⟨_, rfl, Nat.zero_le _, [], r, G1, σ, fp1, [], [], ⟨c1.new hL, rfl, rfl, .new hL, upd_same, gL, hL, by unfold Rws; exact ⟨rfl, rfl⟩, by simp, fun a h q => ?_, fun a h => nomatch h⟩, Nat.le_refl _, q2⟩, fun i m H' hW => ?_⟩
    · have e : a = L := List.mem_singleton.mp h
      obtain ⟨_, z, _⟩ := c1.own q
      rw [e, hL] at z; cases z
    · obtain ⟨em, hi, acc, ρi, G', σi, fpi, va, fa, s, hva, q3⟩ := hW
      by_cases hlt : i < xs.length
      · have ex : xs[i]? = some xs[i] := List.getElem?_eq_getElem hlt
        refine .inr ⟨y.go i H' G' s.st.x.sg s.c.sg hlt, fun H2 => ∃ acc ρi G' σi fpi va fa, CSt K G1 L vs σ H1 fp1 acc ρi H2 G' σi fpi va fa ∧ va.length ≤ (i + 1) * 1000 ∧
          ResE K mg E H1 G1 fp1 σ Q ((compL2 vs vs1 t tt it1 t1 tt1 el (xs.drop (i + 1)) ρi).bind fun ws r' => .ok (.o (acc ++ ws)) (restR r vs r')), fun H2 h2 => ⟨_, by omega, rfl, hlt, h2⟩, fun x H2 hy => ?_⟩
        obtain ⟨G2, d, xt, sg2, ed, dr⟩ := y.yld i H' G' x H2 s.st.x.sg s.c.sg hy hlt
        rw [ex] at ed; cases ed
        obtain ⟨c2, st2⟩ := s.c.ext0 xt sg2
        have s2 := s.step c2 s.w s.len st2
        rw [drop_eq ex] at q3
        have q4 : ResE K mg E H1 G1 fp1 σ Q ((match t xs[i] (wipeR ρi vs) with | none => (.bad : Out (List Wv)) | some ρ1 => (nox (tt ρ1)).bind fun b r => if b = true then (nox (it1 r)).bind fun ys r => if ys.length ≤ 1000 then (compL vs1 t1 tt1 el ys r).bind fun us r => (compL2 vs vs1 t tt it1 t1 tt1 el (xs.drop (i + 1)) r).bind fun ws r => .ok (us ++ ws) r else .bad else compL2 vs vs1 t tt it1 t1 tt1 el (xs.drop (i + 1)) r).bind fun ws r' => .ok (.o (acc ++ ws)) (restR r vs r')) := q3
        have c3 := c2.wipe vs
        rw [s.w] at c3
        cases z : t xs[i] (wipeR ρi vs) with
        | none => rw [z] at q4; exact q4.elim
        | some ρ1 =>
          rw [z] at q4
          dsimp only at q4
          refine ⟨G2, wipeR ρi vs, wipeF fpi vs, xs[i], ρ1, c3, dr, z, fun σ3 fp3 c4 st4 k4 => ?_⟩
          have hl3 : σ3.length = σ.length := k4.1.trans (wipe_length σ vs)
          have hw3 : wipe σ3 vs = wipe σ vs := wipe_keep k4
          refine ⟨hw3, G2, ρ1, fp3, c4, ?_⟩
          have s4 := s2.step c4 hw3 hl3 ((Step.wipe vs).trans st4 sg2)
          cases z2 : tt ρ1 with
          | bad => rw [z2] at q4; exact q4.elim
          | exc x5 r5 => rw [z2] at q4; exact q4.elim
          | ok b r5 =>
            rw [z2] at q4
            intro H5 G5 fp5 c5 st5
            have s5 := s4.step c5 hw3 hl3 st5
            cases b with
            | false =>
              rw [if_neg Bool.false_ne_true]; exact ⟨acc, r5, G5, σ3, fp5, va, fa, s5, by omega, q4⟩
            | true =>
              rw [if_pos rfl]
              refine ⟨G5, r5, fp5, c5, ?_⟩
              have q5 : ResE K mg E H1 G1 fp1 σ Q (((nox (it1 r5)).bind fun ys r => if ys.length ≤ 1000 then (compL vs1 t1 tt1 el ys r).bind fun us r => (compL2 vs vs1 t tt it1 t1 tt1 el (xs.drop (i + 1)) r).bind fun ws r => .ok (us ++ ws) r else .bad).bind fun ws r' => .ok (.o (acc ++ ws)) (restR r vs r')) := q4
              cases z3 : it1 r5 with
              | bad => rw [z3] at q5; exact q5.elim
              | exc x6 r6 => rw [z3] at q5; exact q5.elim
              | ok ys r6 =>
                rw [z3] at q5
                intro J1 H6 G6 fp6 c6 st6 y6
                have q6 : ResE K mg E H1 G1 fp1 σ Q ((if ys.length ≤ 1000 then (compL vs1 t1 tt1 el ys r6).bind fun us r => (compL2 vs vs1 t tt it1 t1 tt1 el (xs.drop (i + 1)) r).bind fun ws r => .ok (us ++ ws) r else .bad).bind fun ws r' => .ok (.o (acc ++ ws)) (restR r vs r')) := q5
                split at q6
                · rename_i hys
                  have s6 := (s5.step c6 hw3 hl3 st6).turn (ws := vs1) (τ := σ3) rfl rfl
                  refine inner_rd (m0 := va.length) (pok := fun us r7 => ResE K mg E H1 G1 fp1 σ Q ((compL2 vs vs1 t tt it1 t1 tt1 el (xs.drop (i + 1)) r7).bind fun ws r' => .ok (.o (acc ++ us ++ ws)) (restR r vs r'))) y6 (by omega) s6 (Same.refl _) (Nat.le_refl _) ?_ fun us ρ7 H7 G7 σ7 fp7 va7 fa7 s7 hv7 q7 => ⟨acc ++ us, ρ7, G7, σ7, fp7, va7, fa7, s7.turn ?_ (s7.len.trans hl3), by omega, q7⟩
                  · have q7 : ResE K mg E H1 G1 fp1 σ Q (((compL vs1 t1 tt1 el ys r6).bind fun us r => (compL2 vs vs1 t tt it1 t1 tt1 el (xs.drop (i + 1)) r).bind fun ws r => .ok (us ++ ws) r).bind fun ws r' => .ok (.o (acc ++ ws)) (restR r vs r')) := q6
                    cases z8 : compL vs1 t1 tt1 el ys r6 with
                    | bad => rw [z8] at q7; exact q7.elim
                    | exc x8 r8 => exact absurd z8 (compL_noexc _ _)
                    | ok us r8 =>
                      rw [z8] at q7
                      show ResE K mg E H1 G1 fp1 σ Q _
                      have e : (((Out.ok us r8).bind fun us r => (compL2 vs vs1 t tt it1 t1 tt1 el (xs.drop (i + 1)) r).bind fun ws r => .ok (us ++ ws) r).bind fun ws r' => (.ok (.o (acc ++ ws)) (restR r vs r') : Out Wv)) = (compL2 vs vs1 t tt it1 t1 tt1 el (xs.drop (i + 1)) r8).bind fun ws r' => .ok (.o (acc ++ us ++ ws)) (restR r vs r') := by
                        simp only [Out.bind_ok]
                        cases compL2 vs vs1 t tt it1 t1 tt1 el (xs.drop (i + 1)) r8 with
                        | bad => rfl
                        | exc _ _ => rfl
                        | ok ws r9 => simp
                      rw [← e]; exact q7
                  · rw [← hw3]
                    exact wipe_sub s7.len s7.w hv
                · exact q6.elim
      · have ei : i = xs.length := by omega
        subst ei
        rw [List.drop_length] at q3
        have q4 : ResE K mg E H1 G1 fp1 σ Q (.ok (.o (acc ++ [])) (restR r vs ρi)) := q3
        rw [List.append_nil] at q4
        exact .inl ⟨y.stop _ H' G' s.st.x.sg s.c.sg (Nat.le_refl _), q4 _ _ _ _ _ (s.fin c1)⟩
  · exact q1.elim
end
theorem se_comp2 {vs1 : List Nat} (hc : X.calm = true) (hN : X.N.Nodup) (hi : SI X E tg iter it) (ok : BlkOk X.N X.env.scope scope own) (hv : ∀ i ∈ vs1, i ∈ own.map (·.2))
    (hg : ∀ (s : Shared) (H : Hp) (C : Addr) (cl : List (Str × Addr)) (fp : List Addr), SG (X.blk s H scope (compEnvC scope cl C X.env) fp) (notIn (own.map (·.2))) tg t) (ht : ∀ (s : Shared) (H : Hp) (C : Addr) (cl : List (Str × Addr)) (fp : List Addr), STs (X.blk s H scope (compEnvC scope cl C X.env) fp) EF ifs tt)
    (hi1 : ∀ (s : Shared) (H : Hp) (C : Addr) (cl : List (Str × Addr)) (fp : List Addr), SI (X.blk s H scope (compEnvC scope cl C X.env) fp) EF tg1 iter1 it1)
    (hg1 : ∀ (s : Shared) (H : Hp) (C : Addr) (cl : List (Str × Addr)) (fp : List Addr), SG (X.blk s H scope (compEnvC scope cl C X.env) fp) (notIn vs1) tg1 t1) (ht1 : ∀ (s : Shared) (H : Hp) (C : Addr) (cl : List (Str × Addr)) (fp : List Addr), STs (X.blk s H scope (compEnvC scope cl C X.env) fp) EF ifs1 tt1)
    (he : ∀ (s : Shared) (H : Hp) (C : Addr) (cl : List (Str × Addr)) (fp : List Addr), SE (X.blk s H scope (compEnvC scope cl C X.env) fp) EF elt el) (hs : ∀ x, foldedSetIterable iter X.env x = pure x := by intro _; rfl) (hs1 : ∀ env x, foldedSetIterable iter1 env x = pure x := by intro _ _; rfl) :
    SE X E (.ListComp elt [⟨tg, iter, ifs, 0⟩, ⟨tg1, iter1, ifs1, 0⟩] scope pos) (sComp2 (own.map (·.2)) vs1 it t tt it1 t1 tt1 el) :=
  pe_sub (pe_lc2 (g := tgt X.K (notIn (List.map (fun (p : Str × Nat) => p.2) own)) t) (tt := tT X.K X.mg EF tt) (wi1 := tIt X.K X.mg EF it1) (g1 := tgt X.K (notIn vs1) t1) (tt1 := tT X.K X.mg EF tt1) (te := tS X.K X.mg EF el) hc hN hi ok hv hg ht hi1 hg1 ht1 he hs hs1) fun σ H Q h => comp2_rd hv h
theorem s1_setLc2 {i : Nat} {y : Str} {py : Pos} {vs1 : List Nat} (hc : X.calm = true) (hN : X.N.Nodup) (hsw : swapsWith (.ListComp elt [⟨tg, iter, ifs, 0⟩, ⟨tg1, iter1, ifs1, 0⟩] scope pos) (some (.Name y py)) spos.line X.env = pure true) (hi : SI X E tg iter it) (ok : BlkOk X.N X.env.scope scope own) (hv : ∀ i ∈ vs1, i ∈ own.map (·.2))
    (hg : ∀ (s : Shared) (H : Hp) (C : Addr) (cl : List (Str × Addr)) (fp : List Addr), SG (X.blk s H scope (compEnvC scope cl C X.env) fp) (notIn (own.map (·.2))) tg t) (ht : ∀ (s : Shared) (H : Hp) (C : Addr) (cl : List (Str × Addr)) (fp : List Addr), STs (X.blk s H scope (compEnvC scope cl C X.env) fp) EF ifs tt)
    (hi1 : ∀ (s : Shared) (H : Hp) (C : Addr) (cl : List (Str × Addr)) (fp : List Addr), SI (X.blk s H scope (compEnvC scope cl C X.env) fp) EF tg1 iter1 it1)
    (hg1 : ∀ (s : Shared) (H : Hp) (C : Addr) (cl : List (Str × Addr)) (fp : List Addr), SG (X.blk s H scope (compEnvC scope cl C X.env) fp) (notIn vs1) tg1 t1) (ht1 : ∀ (s : Shared) (H : Hp) (C : Addr) (cl : List (Str × Addr)) (fp : List Addr), STs (X.blk s H scope (compEnvC scope cl C X.env) fp) EF ifs1 tt1)
    (he : ∀ (s : Shared) (H : Hp) (C : Addr) (cl : List (Str × Addr)) (fp : List Addr), SE (X.blk s H scope (compEnvC scope cl C X.env) fp) EF elt el) (hM : M i = false := by rfl) (hy : X.N[i]? = some y := by rfl) (hyl : X.env.scope.names.lookup y = some .local := by rfl)
    (hs : ∀ x, foldedSetIterable iter X.env x = pure x := by intro _; rfl) (hs1 : ∀ env x, foldedSetIterable iter1 env x = pure x := by intro _ _; rfl) :
    S1 X E M (.Assign [.Name y py] (.ListComp elt [⟨tg, iter, ifs, 0⟩, ⟨tg1, iter1, ifs1, 0⟩] scope pos) spos) (sSet i (sComp2 (own.map (·.2)) vs1 it t tt it1 t1 tt1 el)) :=
  ps_sub (ps_setLc2 (g := tgt X.K (notIn (List.map (fun (p : Str × Nat) => p.2) own)) t) (tt := tT X.K X.mg EF tt) (wi1 := tIt X.K X.mg EF it1) (g1 := tgt X.K (notIn vs1) t1) (tt1 := tT X.K X.mg EF tt1) (te := tS X.K X.mg EF el) hc hN hy hyl hsw hi ok hv hg ht hi1 hg1 ht1 he hs hs1) fun D σ H h => comp2_rd hv (set_rd hM h)
end
end FW

set_option Elab.async false
set_option linter.all false
set_option maxRecDepth 100000
set_option maxHeartbeats 1000001
namespace FW
open PySem PySem.Spec L2
/-! ## plain ints as places: nothing is made -/
abbrev IxF := Rho → Option Int
def tIx (K : Frg) (g : IxF) : TE := fun σ H Q => ∃ G ρ fp i, Cfg K H G σ ρ fp ∧ g ρ = some i ∧ Q (.int i) H
def SX (X : Cx) (e : Expr) (g : IxF) : Prop := PE X e (tIx X.K g)
/-- an item, by its place -/
def atW : Wv → Int → Option Wv
  | .d (.tuple ds), k => (atI ds k).map .d
  | .d (.list ds), k => (atI ds k).map .d
  | .d _, _ => none
  | .o ws, k => atI ws k
  | .s ns, k => (atI ns k).map fun i => .d (.int i)
def slotI (ρ : Rho) (i : Nat) : Option Int := match ρ[i]? with
  | some (some (.d (.int k))) => some k
  | _ => none
def intW : Wv → Option Int
  | .d (.int i) => some i
  | _ => none
def datW : Wv → Option D
  | .d x => some x
  | _ => none
theorem Rws.get {K : Frg} {H G : Hp} : ∀ {ws : List Wv} {vs : List V} {f : List Addr} {k : Nat} {w : Wv}, Rws K H G vs ws f → ws[k]? = some w → ∃ v g, vs[k]? = some v ∧ Rw K H G v w g ∧ ∀ a ∈ g, a ∈ f
  | [], _, _, _, _, _, e => by simp at e
  | w :: ws, _, _, 0, _, h, e => by
    unfold Rws at h
    obtain ⟨v, r, f, g, e1, e2, h1, h2⟩ := h
    subst e1 e2
    simp at e
    subst e
    exact ⟨v, f, rfl, h1, fun a ha => List.mem_append_left _ ha⟩
  | w :: ws, _, _, k + 1, _, h, e => by
    unfold Rws at h
    obtain ⟨v, r, f, g, e1, e2, h1, h2⟩ := h
    subst e1 e2
    obtain ⟨v', g', e3, h3, h4⟩ := Rws.get (k := k) h2 (by simpa using e)
    exact ⟨v', g', by simpa using e3, h3, fun a ha => List.mem_append_right _ (h4 a ha)⟩
theorem atI_map {α β : Type} (f : α → β) (xs : List α) (k : Int) : atI (xs.map f) k = (atI xs k).map f := by
  unfold atI
  rw [List.length_map]
  cases ixN xs.length k with
  | none => rfl
  | some j => simp
theorem Rws.atI {K : Frg} {H G : Hp} {ws : List Wv} {vs : List V} {f : List Addr} {k : Int} {w : Wv} (h : Rws K H G vs ws f) (e : L2.atI ws k = some w) : ∃ v g, L2.atI vs k = some v ∧ Rw K H G v w g ∧ ∀ a ∈ g, a ∈ f := by
  unfold L2.atI at e ⊢
  rw [h.length]
  cases z : ixN ws.length k with
  | none => rw [z] at e; cases e
  | some j =>
    rw [z] at e
    exact h.get (k := j) e
/-- the item of a list or tuple: what stands where -/
theorem Rw.at {K : Frg} {H G : Hp} {w w' : Wv} {v : V} {f : List Addr} {k : Int} (sg : Same G H) (h : Rw K H G v w f) (e : atW w k = some w') : ∃ p xs v' g, v = .ref p ∧ (SqL K H p xs ∨ SqT K H p xs) ∧ L2.atI xs k = some v' ∧ Rw K H G v' w' g ∧ ∀ a ∈ g, a ∈ f := by
  cases w with
  | o ws =>
    unfold Rw at h
    obtain ⟨a, vs, f', e1, h1, g1, e2, h3⟩ := h
    obtain ⟨v', g, e4, h4, h5⟩ := h3.atI e
    exact ⟨a, vs, v', g, e1, .inl (SqL.of h1), e4, h4, fun b hb => by rw [e2]; exact List.mem_cons_of_mem _ (h5 b hb)⟩
  | s ns =>
    unfold Rw at h
    obtain ⟨e1, a, e2, h1⟩ := h
    simp only [atW] at e
    cases z : L2.atI ns k with
    | none => rw [z] at e; cases e
    | some i =>
      rw [z] at e; cases e
      exact ⟨a, _, .int i, [], e2, .inl (sg.seq h1), by rw [atI_map, z]; rfl, by unfold Rw; exact ⟨rfl, Dr.int⟩, fun _ z => nomatch z⟩
  | d x =>
    unfold Rw at h
    obtain ⟨e1, h⟩ := h
    cases x with
    | tuple ds =>
      simp only [atW] at e
      cases z : L2.atI ds k with
      | none => rw [z] at e; cases e
      | some d =>
        rw [z] at e; cases e
        obtain ⟨a, xs, ea, h2, h3⟩ := h.tup_inv
        obtain ⟨v', hv, hr⟩ := h3.atI z
        exact ⟨a, xs, v', [], ea, .inr (same_seqT sg h2), hv, by unfold Rw; exact ⟨rfl, hr⟩, fun _ z => nomatch z⟩
    | list ds =>
      simp only [atW] at e
      cases z : L2.atI ds k with
      | none => rw [z] at e; cases e
      | some d =>
        rw [z] at e; cases e
        obtain ⟨a, xs, ea, h2, h3⟩ := h.lst_inv
        obtain ⟨v', hv, hr⟩ := h3.atI z
        exact ⟨a, xs, v', [], ea, .inl (SqL.of (sg _ _ h2)), hv, by unfold Rw; exact ⟨rfl, hr⟩, fun _ z => nomatch z⟩
    | _ => cases e
section
variable {X : Cx} {E : WX} {M : Nat → Bool} {e a b o i1 i2 : Expr} {es : List Expr} {f fi : ES} {g ga gb : IxF} {pos p2 apos : Pos} {x : Str}
theorem sx_int {i : Int} {j : Nat} : SX X (.Constant (.int i) j pos) (fun _ => some i) := pe_sub pe_int fun σ H Q ⟨G, ρ, fp, k, c, e, q⟩ => by cases e; exact q
theorem sx_var (i : Nat) (hN : X.N[i]? = some x := by rfl) (hv : Vis X.env.scope x := by first | exact Or.inl rfl | exact Or.inr (Or.inl rfl) | exact Or.inr (Or.inr rfl)) (hd : (x == ("__debug__" : Str)) = false := by decide)
    (hcd : (x == ("__classdict__" : Str)) = false := by decide) : SX X (.Name x pos) (fun ρ => slotI ρ i) := pe_sub (pe_var hN hv hd hcd) fun σ H Q ⟨G, ρ, fp, k, c, e, q⟩ => by
  have e : slotI ρ i = some k := e
  unfold slotI at e
  split at e
  · rename_i j ej
    cases e
    obtain ⟨v, hv, hr⟩ := c.get i _ ej
    unfold Rw at hr
    exact ⟨v, hv, by rw [hr.2.int_inv]; exact q⟩
  · cases e
def gAdd (ga gb : IxF) : IxF := fun ρ => (ga ρ).bind fun i => (gb ρ).map fun j => i + j
def gSubI (ga gb : IxF) : IxF := fun ρ => (ga ρ).bind fun i => (gb ρ).map fun j => i - j
theorem sx_add (ha : SX X a ga) (hb : SX X b gb) : SX X (.BinOp a .Add b pos) (gAdd ga gb) := pe_sub (pe_add ha hb) fun σ H Q ⟨G, ρ, fp, k, c, e, q⟩ => by
  unfold gAdd at e
  cases z : ga ρ with
  | none => rw [z] at e; cases e
  | some i =>
    rw [z] at e
    cases z2 : gb ρ with
    | none => simp [z2] at e
    | some j =>
      simp [z2] at e
      exact ⟨G, ρ, fp, i, c, z, G, ρ, fp, j, c, z2, i, j, rfl, rfl, by subst e; exact q⟩
theorem sx_sub (ha : SX X a ga) (hb : SX X b gb) : SX X (.BinOp a .Sub b pos) (gSubI ga gb) := pe_sub (L2.pe_sub ha hb) fun σ H Q ⟨G, ρ, fp, k, c, e, q⟩ => by
  unfold gSubI at e
  cases z : ga ρ with
  | none => rw [z] at e; cases e
  | some i =>
    rw [z] at e
    cases z2 : gb ρ with
    | none => simp [z2] at e
    | some j =>
      simp [z2] at e
      exact ⟨G, ρ, fp, i, c, z, G, ρ, fp, j, c, z2, i, j, rfl, rfl, by subst e; exact q⟩
def gNeg (ga : IxF) : IxF := fun ρ => (ga ρ).map fun i => -i
theorem sx_neg (ha : SX X a ga) : SX X (.UnaryOp .USub a pos) (gNeg ga) := pe_sub (pe_un un_neg ha) fun σ H Q ⟨G, ρ, fp, k, c, e, q⟩ => by
  unfold gNeg at e
  cases z : ga ρ with
  | none => rw [z] at e; cases e
  | some i =>
    rw [z] at e
    cases e
    exact ⟨G, ρ, fp, i, c, z, i, rfl, q⟩
def gAt (s : Nat) (ga : IxF) : IxF := fun ρ => (ga ρ).bind fun k => match ρ[s]? with
  | some (some w) => (atW w k).bind intW
  | _ => none
theorem ix_any : IxR X (fun x y H Q => ∃ p xs i v, x = .ref p ∧ y = .int i ∧ (SqL X.K H p xs ∨ SqT X.K H p xs) ∧ atI xs i = some v ∧ Q v H) := by
  intro value slice pins s σ H x y v u Q I rx ry ⟨p, xs, i, w, ex, ey, h, e, q⟩ hs
  rcases h with h | h
  · exact ix_list value slice pins s σ H x y v u Q I rx ry ⟨p, xs, i, w, ex, ey, h, e, q⟩ hs
  · exact ix_tup value slice pins s σ H x y v u Q I rx ry ⟨p, xs, i, w, ex, ey, h, e, q⟩ hs
theorem sx_at (s : Nat) (ha : SX X a ga) (hN : X.N[s]? = some x := by rfl) (hv : Vis X.env.scope x := by first | exact Or.inl rfl | exact Or.inr (Or.inl rfl) | exact Or.inr (Or.inr rfl)) (hd : (x == ("__debug__" : Str)) = false := by decide)
    (hcd : (x == ("__classdict__" : Str)) = false := by decide) (hs : PlainIx a := by exact fun _ _ => rfl) : SX X (.Subscript (.Name x p2) a pos) (gAt s ga) := pe_sub (pe_ix ix_any (pe_var hN hv hd hcd) ha hs) fun σ H Q ⟨G, ρ, fp, k, c, e, q⟩ => by
  unfold gAt at e
  cases z : ga ρ with
  | none => rw [z] at e; cases e
  | some i =>
    rw [z] at e
    simp only [Option.bind_some] at e
    split at e
    · rename_i w ew
      obtain ⟨v, hv, hr⟩ := c.get s w ew
      cases z2 : atW w i with
      | none => rw [z2] at e; cases e
      | some w' =>
        rw [z2] at e
        obtain ⟨p, xs, v', g', ev, h1, h2, h3, _⟩ := hr.at c.sg z2
        refine ⟨v, hv, G, ρ, fp, i, c, z, p, xs, i, v', ev, rfl, h1, h2, ?_⟩
        cases w' with
        | d y =>
          cases y with
          | int n =>
            cases e
            unfold Rw at h3
            rw [h3.2.int_inv]; exact q
          | _ => cases e
        | _ => cases e
    · cases e
/-- x[i], x a slot: its item, data; nothing of x is frozen -/
def sAt (s : Nat) (fi : ES) : ES := fun ρ => match ρ[s]? with
  | some (some _) => (fz (fi ρ)).bind fun d r => match d, r[s]? with
    | .int k, some (some w) => ofO (((atW w k).bind datW).map .d) r
    | _, _ => .bad
  | _ => .bad
theorem se_at (s : Nat) (hi : SE X E a fi) (hN : X.N[s]? = some x := by rfl) (hv : Vis X.env.scope x := by first | exact Or.inl rfl | exact Or.inr (Or.inl rfl) | exact Or.inr (Or.inr rfl)) (hd : (x == ("__debug__" : Str)) = false := by decide)
    (hcd : (x == ("__classdict__" : Str)) = false := by decide) (hs : PlainIx a := by exact fun _ _ => rfl) : SE X E (.Subscript (.Name x p2) a pos) (sAt s fi) := pe_sub (pe_ix ix_any (pe_var hN hv hd hcd) hi.D hs) fun σ H Q ⟨G, ρ, fp, c, q⟩ => by
  unfold sAt at q
  split at q
  · rename_i w0 e0
    obtain ⟨v, hv, _⟩ := c.get s w0 e0
    refine ⟨v, hv, G, ρ, fp, c, seqD q fun d r u H1 G1 fp1 c1 s1 d1 q1 => ?_⟩
    split at q1
    · rename_i k w ew
      obtain ⟨v2, hv2, hr⟩ := c1.get s w ew
      rw [hv] at hv2
      have e : v = v2 := Option.some.inj (Option.some.inj hv2)
      subst e
      cases z2 : atW w k with
      | none => rw [z2] at q1; exact q1.elim
      | some w' =>
        rw [z2] at q1
        obtain ⟨p, xs, v', g', ev, h1, h2, h3, _⟩ := hr.at c1.sg z2
        cases w' with
        | d y =>
          unfold Rw at h3
          exact ⟨p, xs, k, v', ev, d1.int_inv, h1, h2, ResE.val c1 h3.2 (ResE.rebase s1 c1.sg q1)⟩
        | _ => exact q1.elim
    · exact q1.elim
  · exact q.elim
/-- x[i][j], x a slot, i and j plain -/
def sAt2 (s : Nat) (ga gb : IxF) : ES := fun ρ => match ρ[s]?, ga ρ, gb ρ with
  | some (some w), some i, some j => ofO ((((atW w i).bind (atW · j)).bind datW).map .d) ρ
  | _, _, _ => .bad
theorem se_at2 (s : Nat) (ha : SX X a ga) (hb : SX X b gb) (hN : X.N[s]? = some x := by rfl) (hv : Vis X.env.scope x := by first | exact Or.inl rfl | exact Or.inr (Or.inl rfl) | exact Or.inr (Or.inr rfl)) (hd : (x == ("__debug__" : Str)) = false := by decide)
    (hcd : (x == ("__classdict__" : Str)) = false := by decide) (hs : PlainIx a := by exact fun _ _ => rfl) (hs2 : PlainIx b := by exact fun _ _ => rfl) : SE X E (.Subscript (.Subscript (.Name x p2) a apos) b pos) (sAt2 s ga gb) :=
  pe_sub (pe_ix ix_any (pe_ix ix_any (pe_var hN hv hd hcd) ha hs) hb hs2) fun σ H Q ⟨G, ρ, fp, c, q⟩ => by
    unfold sAt2 at q
    split at q
    · rename_i w i j ew ei ej
      obtain ⟨v, hv, hr⟩ := c.get s w ew
      cases z : atW w i with
      | none => rw [z] at q; exact q.elim
      | some w1 =>
        rw [z] at q
        obtain ⟨p, xs, v1, g1, ev, h1, h2, h3, _⟩ := hr.at c.sg z
        cases z2 : atW w1 j with
        | none => simp [z2] at q; exact q.elim
        | some w' =>
          simp only [Option.bind_some, z2] at q
          obtain ⟨p', xs', v', g', ev', h1', h2', h3', _⟩ := h3.at c.sg z2
          cases w' with
          | d y =>
            unfold Rw at h3'
            exact ⟨v, hv, G, ρ, fp, i, c, ei, p, xs, i, v1, ev, rfl, h1, h2, G, ρ, fp, j, c, ej, p', xs', j, v', ev', rfl, h1', h2', ResE.val c h3'.2 q⟩
          | _ => exact q.elim
    · exact q.elim
/-! ## stores -/
theorem Rws.split {K : Frg} {H G : Hp} : ∀ {ws : List Wv} {vs : List V} {f : List Addr} {k : Nat} {w : Wv}, Rws K H G vs ws f → ws[k]? = some w → ∃ v f1 g f2, vs[k]? = some v ∧ f = f1 ++ g ++ f2 ∧ Rw K H G v w g ∧
    ∀ (H' G' : Hp) (v' : V) (w' : Wv) (g' : List Addr), Same G G' → (∀ a, a ∈ f1 ∨ a ∈ f2 → H' a = H a ∧ G' a = none) → Rw K H' G' v' w' g' → Rws K H' G' (vs.set k v') (ws.set k w') (f1 ++ g' ++ f2)
  | [], _, _, _, _, _, e => by simp at e
  | w :: ws, _, _, 0, _, h, e => by
    unfold Rws at h
    obtain ⟨v, r, f, g, e1, e2, h1, h2⟩ := h
    subst e1 e2
    simp at e
    subst e
    refine ⟨v, [], f, g, rfl, rfl, h1, fun H' G' v' w' g' sm k r' => ?_⟩
    show Rws K H' G' (v' :: r) (w' :: ws) (g' ++ g)
    unfold Rws
    exact ⟨v', r, g', g, rfl, rfl, r', Rws.move sm _ _ _ h2 fun a ha => k a (.inr ha)⟩
  | w :: ws, _, _, k + 1, _, h, e => by
    unfold Rws at h
    obtain ⟨v, r, f, g, e1, e2, h1, h2⟩ := h
    subst e1 e2
    obtain ⟨v0, f1, g0, f2, e3, e4, h3, h4⟩ := Rws.split (k := k) h2 (by simpa using e)
    refine ⟨v0, f ++ f1, g0, f2, by simpa using e3, by rw [e4]; simp [List.append_assoc], h3, fun H' G' v' w' g' sm kk r' => ?_⟩
    show Rws K H' G' (v :: r.set k v') (w :: ws.set k w') (f ++ f1 ++ g' ++ f2)
    unfold Rws
    refine ⟨v, r.set k v', f, f1 ++ g' ++ f2, rfl, by simp [List.append_assoc], Rw.move sm _ _ _ h1 fun a ha => kk a (.inl (List.mem_append_left _ ha)), h4 H' G' v' w' g' sm (fun a ha => kk a ?_) r'⟩
    rcases ha with z | z
    · exact .inl (List.mem_append_right _ z)
    · exact .inr z
theorem nodup_mid {f1 g f2 g' : List Addr} (h : (f1 ++ g ++ f2).Nodup) (hg : g'.Nodup) (d : ∀ a ∈ g', a ∉ f1 ∧ a ∉ f2) : (f1 ++ g' ++ f2).Nodup := by
  rw [List.append_assoc, List.nodup_append] at h ⊢
  obtain ⟨h1, h2, h3⟩ := h
  rw [List.nodup_append] at h2 ⊢
  refine ⟨h1, ⟨hg, h2.2.1, fun a ha b hb e => (d a ha).2 (e ▸ hb)⟩, fun a ha b hb e => ?_⟩
  rcases List.mem_append.mp hb with z | z
  · exact (d b z).1 (e ▸ ha)
  · exact h3 a ha b (List.mem_append_right _ z) e
/-- a target that takes a value with what it owns -/
abbrev TwF := Wv → Rho → Option Rho
def tgW (K : Frg) (M : Nat → Bool) (t : TwF) : TG := fun v σ H Q => ∃ G ρ fp w fv ρ', Cfg K H G σ ρ fp ∧ Rw K H G v w fv ∧ fv.Nodup ∧ (∀ a ∈ fv, ¬ Own fp a) ∧ t w ρ = some ρ' ∧
  ∀ σ' H' fp', Cfg K H' G σ' ρ' fp' → Ext (fun a => Own fp a ∨ a ∈ fv) H G H' G → (∀ a, Own fp' a → Own fp a ∨ a ∈ fv) → Keep M σ σ' → Q σ' H'
abbrev TwsF := List Wv → Rho → Option Rho
def tgsW (K : Frg) (M : Nat → Bool) (t : TwsF) : TGs := fun vs σ H Q => ∃ G ρ fp ws fv ρ', Cfg K H G σ ρ fp ∧ Rws K H G vs ws fv ∧ fv.Nodup ∧ (∀ a ∈ fv, ¬ Own fp a) ∧ t ws ρ = some ρ' ∧
  ∀ σ' H' fp', Cfg K H' G σ' ρ' fp' → Ext (fun a => Own fp a ∨ a ∈ fv) H G H' G → (∀ a, Own fp' a → Own fp a ∨ a ∈ fv) → Keep M σ σ' → Q σ' H'
def SW' (X : Cx) (M : Nat → Bool) (tg : Expr) (t : TwF) : Prop := PG X tg (tgW X.K M t)
def SWs' (X : Cx) (M : Nat → Bool) (tg : List Expr) (t : TwsF) : Prop := PGs X tg (tgsW X.K M t)
def wN (i : Nat) : TwF := fun w ρ => if i < ρ.length then some (ρ.set i (some w)) else none
theorem sw_name {i : Nat} (hM : M i = false := by rfl) (hN : X.N.Nodup) (hi : X.N[i]? = some x := by rfl) (hx : Loc X.env.scope x := by first | exact Or.inl rfl | exact Or.inr rfl) (hf : X.fn x = true ∨ X.env.scope.names.lookup x = some .local := by first | exact .inl rfl | exact .inr rfl) : SW' X M (.Name x pos) (wN i) :=
  pg_sub (pg_name hN hi hx hf) fun v σ H Q ⟨G, ρ, fp, w, fv, ρ', c, r, nd, sep, e, q⟩ => by
    unfold wN at e
    split at e
    · rename_i h
      cases e
      refine q _ H _ (c.put (i := i) (x := some v) (y := some w) (f := fv) (fun w' e => ⟨v, rfl, by cases e; exact r⟩) (fun e => nomatch e) nd (fun a ha j _ z => sep a ha ⟨j, z⟩) h) .refl (fun a h => ?_) (.set hM)
      rcases h.up with z | ⟨j, _, z⟩
      · exact .inr z
      · exact .inl ⟨j, z⟩
    · cases e
def wsNil : TwsF := fun ws ρ => match ws with
  | [] => some ρ
  | _ => none
def wsCons (t : TwF) (u : TwsF) : TwsF := fun ws ρ => match ws with
  | w :: r => (t w ρ).bind (u r)
  | [] => none
theorem sws_nil : SWs' X M [] wsNil := pgs_sub pgs_nil fun vs σ H Q ⟨G, ρ, fp, ws, fv, ρ', c, r, nd, sep, e, q⟩ => by
  cases ws with
  | nil =>
    cases e
    unfold Rws at r
    exact ⟨r.1, q σ H fp c .refl (fun _ z => .inl z) .refl⟩
  | cons _ _ => cases e
theorem sws_cons {t : TwF} {u : TwsF} (h1 : SW' X M e t) (h2 : SWs' X M es u) (hs : (assignEach (e :: es) X.env).map (·.2) = assign e X.env :: (assignEach es X.env).map (·.2) := by rfl) : SWs' X M (e :: es) (wsCons t u) :=
  pgs_sub (pgs_cons h1 h2 hs) fun vs σ H Q ⟨G, ρ, fp, ws, fv, ρ', c, r, nd, sep, e, q⟩ => by
    cases ws with
    | nil => cases e
    | cons w wr =>
      unfold Rws at r
      obtain ⟨v, vr, f, g, ev, ef, r1, r2⟩ := r
      subst ef
      have e2 : (t w ρ).bind (u wr) = some ρ' := e
      rw [List.nodup_append] at nd
      cases z : t w ρ with
      | none => rw [z] at e2; cases e2
      | some ρ1 =>
        rw [z] at e2
        refine ⟨v, vr, ev, G, ρ, fp, w, f, ρ1, c, r1, nd.1, fun a ha => sep a (List.mem_append_left _ ha), z, fun σ1 H1 fp1 c1 x1 n1 k1 => ?_⟩
        have sg : ∀ a ∈ g, ¬ Own fp a := fun a ha => sep a (List.mem_append_right _ ha)
        refine ⟨G, ρ1, fp1, wr, g, ρ', c1, Rws.move (Same.refl _) _ _ _ r2 fun a ha => ?_, nd.2.1, fun a ha h => ?_, e2, fun σ2 H2 fp2 c2 x2 n2 k2 => q σ2 H2 fp2 c2 ⟨Same.refl _, fun a o h gg np => ?_, fun a h => x1.dom a (x2.dom a h)⟩ (fun a h => ?_) (k1.trans k2)⟩
        · obtain ⟨vs', h1, g1⟩ := Rws.there _ _ _ r2 a ha
          exact ⟨(x1.oth a _ h1 g1 fun y => y.elim (sg a ha) fun y => nd.2.2 a y a ha rfl).1.trans h1.symm, g1⟩
        · rcases n1 a h with y | y
          · exact sg a ha y
          · exact nd.2.2 a y a ha rfl
        · obtain ⟨h3, g3⟩ := x1.oth a o h gg fun y => np (y.imp id (List.mem_append_left _))
          refine x2.oth a o h3 g3 fun y => np ?_
          rcases y with y | y
          · rcases n1 a y with y2 | y2
            · exact .inl y2
            · exact .inr (List.mem_append_left _ y2)
          · exact .inr (List.mem_append_right _ y)
        · rcases n2 a h with y | y
          · rcases n1 a y with y2 | y2
            · exact .inl y2
            · exact .inr (List.mem_append_left _ y2)
          · exact .inr (List.mem_append_right _ y)
def wT (n : Nat) (u : TwsF) (ws : List Wv) : Rho → Option Rho := fun ρ => if ws.length = n then u ws ρ else none
/-- a, b, .. = x, y, ..: by a tuple that is taken apart -/
def sTupW (n : Nat) (u : TwsF) (aw : Rho → Out (List Wv)) : SSem := fun ρ => (aw ρ).bind fun ws r => if ws.length ≤ 1000000 then (ofO (wT n u ws r) r).bind fun r' _ => .ok .nx r' else .bad
theorem tupW_end {K : Frg} {D : Ends} {H0 G0 H1 G1 : Hp} {fp0 fp1 : Fp} {σ : St} {r ρ' : Rho} {vs : List V} {ws : List Wv} {fv : List Addr} {n : Nat} {u : TwsF} (p : PA' K H0 G0 fp0 σ r vs ws H1 G1 fp1 fv) (z : wT n u ws r = some ρ') (q : PokS K M D H0 G0 fp0 σ .nx ρ') {t : Addr} (ht : H1 t = none) :
    gTup K n (tgsW K M u) (.ref t) σ (upd H1 t (.tup vs)) D.nx := by
  unfold wT at z
  split at z
  · rename_i hn
    have mv : ∀ a ∈ fv, upd H1 t (.tup vs) a = H1 a ∧ G1 a = none := fun a ha => by
      obtain ⟨_, h1, g1⟩ := Rws.there _ _ _ p.r a ha
      exact ⟨upd_ne (fun e => by rw [e, ht] at h1; cases h1), g1⟩
    refine ⟨t, vs, rfl, .inl (.inl upd_same), by rw [p.r.length]; exact hn, G1, r, fp1, ws, fv, ρ', p.c.new ht, Rws.move (Same.refl _) _ _ _ p.r mv, p.nd, p.sep, z, fun σ' H' fp' c' x' n' k' => q σ' H' G1 fp' c' ⟨⟨p.st.x.sg, fun a o h g np => ?_, fun a h => p.st.x.dom a ?_⟩, fun a h => ?_⟩ k'⟩
    · obtain ⟨h1, g1⟩ := p.st.x.oth a o h g np
      have e : a ≠ t := fun e => by rw [e, ht] at h1; cases h1
      refine ⟨(x'.oth a o ((upd_ne e).trans h1) g1 fun y => ?_).1, g1⟩
      rcases y with y | y
      · rcases p.st.nw a y with y2 | y2
        · exact np y2
        · rw [h] at y2; cases y2
      · rcases p.nwv a y with y2 | y2
        · exact np y2
        · rw [h] at y2; cases y2
    · have h2 := x'.dom a h
      by_cases e : a = t
      · rw [e]; exact ht
      · rw [upd_ne e] at h2; exact h2
    · rcases n' a h with y | y
      · exact p.st.nw a y
      · exact p.nwv a y
  · cases z
theorem s1_tupW {es ts : List Expr} {aw : Rho → Out (List Wv)} {u : TwsF} {k1 k2 n : Nat} {p1 p3 : Pos} (hc : X.calm = true) (ha : SAW X E es aw) (ht : SWs' X M ts u) (hn : (assignEach ts X.env).length = n := by rfl) (hst : (assignEach ts X.env).findIdx? (·.1) = none := by rfl)
    (hs : swapsWithSole [.Tuple ts k1 p1] (.Tuple es k2 p3) pos.line X.env = pure false := by rfl) (hw : swappedStores [.Tuple ts k1 p1] (.Tuple es k2 p3) X.env = pure none := by rfl)
    (h1 : (assignEach [.Tuple ts k1 p1] X.env).map (·.2) = [assign (.Tuple ts k1 p1) X.env] := by rfl) : S1 X E M (.Assign [.Tuple ts k1 p1] (.Tuple es k2 p3) pos) (sTupW n u aw) :=
  ps_sub (ps_asg (pe_tup ha) (pg_tup hc ht hn hst) hs hw h1) fun D σ H ⟨G, ρ, fp, c, q⟩ => ⟨G, ρ, fp, c, seqWS q fun ws r vs H1 G1 fp1 fv p q1 => by
    split at q1
    · rename_i hl
      cases z : wT n u ws r with
      | none => rw [z] at q1; exact q1.elim
      | some ρ' =>
        rw [z] at q1
        exact ⟨by rw [p.r.length]; exact Nat.le_trans hl line6, fun t ht => tupW_end p z q1 ht⟩
    · exact q1.elim⟩
/-- two plain local names -/
theorem s1_par {i j : Nat} {y : Str} {px py pt p3 : Pos} {k1 k2 : Nat} {aw : Rho → Out (List Wv)} (hc : X.calm = true) (ha : SAW X E [a, b] aw) (hN : X.N.Nodup) (hij : i ≠ j := by decide) (hM : M i = false := by rfl) (hM2 : M j = false := by rfl) (hi : X.N[i]? = some x := by rfl) (hj : X.N[j]? = some y := by rfl)
    (hx : X.env.scope.names.lookup x = some .local := by rfl) (hy : X.env.scope.names.lookup y = some .local := by rfl)
    (hw : swappedStores [.Tuple [.Name x px, .Name y py] k1 pt] (.Tuple [a, b] k2 p3) X.env = pure (some [x, y]) := by rfl)
    (hs : swapsWithSole [.Tuple [.Name x px, .Name y py] k1 pt] (.Tuple [a, b] k2 p3) pos.line X.env = pure false := by rfl) : S1 X E M (.Assign [.Tuple [.Name x px, .Name y py] k1 pt] (.Tuple [a, b] k2 p3) pos) (sTupW 2 (wsCons (wN i) (wsCons (wN j) wsNil)) aw) :=
  ps_sub (ps_par hc hN hi hj hij hx hy ha hw hs) fun D σ H ⟨G, ρ, fp, c, q⟩ => ⟨G, ρ, fp, c, seqWS q fun ws r vs H1 G1 fp1 fv p q1 => by
    split at q1
    · cases z : wT 2 (wsCons (wN i) (wsCons (wN j) wsNil)) ws r with
      | none => rw [z] at q1; exact q1.elim
      | some ρ' =>
        rw [z] at q1
        have q1 : PokS X.K M D H G fp σ .nx ρ' := q1
        unfold wT at z
        split at z
        · rename_i hn
          match ws, hn, z, p with
          | [w1, w2], _, z, p =>
            have pr := p.r
            unfold Rws at pr
            obtain ⟨v1, r1, f, g, ev, ef, k1, k2⟩ := pr
            unfold Rws at k2
            obtain ⟨v2, r2, f2, g2, ev2, ef2, k3, k4⟩ := k2
            unfold Rws at k4
            obtain ⟨e5, e6⟩ := k4
            subst e5 e6
            rw [List.append_nil] at ef2
            subst ef2 ef ev2 ev
            refine ⟨v1, v2, rfl, ?_⟩
            have nd := List.nodup_append.mp p.nd
            have z' : (wN i w1 r).bind (wsCons (wN j) wsNil [w2]) = some ρ' := z
            unfold wN at z'
            split at z'
            · rename_i hir
              have z2 : (wN j w2 (r.set i (some w1))).bind (wsNil []) = some ρ' := z'
              unfold wN at z2
              split at z2
              · rename_i hjr
                have e : (r.set i (some w1)).set j (some w2) = ρ' := Option.some.inj z2
                subst e
                have c1 : Cfg X.K H1 G1 (σ.set i (some v1)) (r.set i (some w1)) (upF fp1 i f) := p.c.put (fun w' e => ⟨v1, rfl, by cases e; exact k1⟩) (fun e => nomatch e) nd.1 (fun a ha j _ h => p.sep a (List.mem_append_left _ ha) ⟨j, h⟩) hir
                have c2 : Cfg X.K H1 G1 ((σ.set i (some v1)).set j (some v2)) ((r.set i (some w1)).set j (some w2)) (upF (upF fp1 i f) j g) := c1.put (fun w' e => ⟨v2, rfl, by cases e; exact k3⟩) (fun e => nomatch e) nd.2.1 (fun a ha l _ h => by
                  rcases Own.up (⟨l, h⟩ : Own (upF fp1 i f) a) with y | ⟨m, _, y⟩
                  · exact nd.2.2 a y a ha rfl
                  · exact p.sep a (List.mem_append_right _ ha) ⟨m, y⟩) hjr
                refine q1 _ H1 G1 _ c2 ⟨p.st.x, fun a h => ?_⟩ ((Keep.set hM).trans (Keep.set hM2))
                rcases h.up with y | ⟨m, _, y⟩
                · exact p.nwv a (List.mem_append_right _ y)
                · rcases Own.up (⟨m, y⟩ : Own (upF fp1 i f) a) with y | ⟨m, _, y⟩
                  · exact p.nwv a (List.mem_append_left _ y)
                  · exact p.st.nw a ⟨m, y⟩
              · cases z2
            · cases z'
        · cases z
    · exact q1.elim⟩
end
end FW

set_option Elab.async false
set_option linter.all false
set_option maxRecDepth 100000
set_option maxHeartbeats 1000001
namespace FW
open PySem PySem.Spec L2
section
variable {K : Frg} {H G : Hp} {σ : St} {ρ : Rho} {fp : Fp}
/-- a slot's own tree changed at one of its lists -/
theorem Cfg.updAt (c : Cfg K H G σ ρ fp) {s : Nat} {w0 w1 : Wv} {v : V} {p : Addr} {o : HO} {f1 fv : List Addr} (e : ρ[s]? = some (some w0)) (hv : σ[s]? = some (some v)) (hp : p ∈ fp s) (r : Rw K (upd H p o) G v w1 f1) (nd : f1.Nodup)
    (sub : ∀ a ∈ f1, a ∈ fp s ∨ a ∈ fv) (sep : ∀ a ∈ fv, ¬ Own fp a) :
    Cfg K (upd H p o) G σ (ρ.set s (some w1)) (upF fp s f1) ∧ Ext (fun a => Own fp a ∨ a ∈ fv) H G (upd H p o) G ∧ ∀ a, Own (upF fp s f1) a → Own fp a ∨ a ∈ fv := by
  have hs : s < ρ.length := (List.getElem?_eq_some_iff.mp e).1
  obtain ⟨xs0, hp0, gp0⟩ := c.own ⟨s, hp⟩
  have ne : ∀ a u, G a = some u → a ≠ p := fun a u h q => by rw [q, gp0] at h; cases h
  have c1 : Cfg K H G (σ.set s (some v)) (ρ.set s none) (upF fp s []) := c.put (fun w e => nomatch e) (fun _ => rfl) List.nodup_nil (fun _ z => nomatch z) hs
  rw [set_same hv] at c1
  have c2 : Cfg K (upd H p o) G σ (ρ.set s none) (upF fp s []) := c1.grow (fun a u h => by rw [upd_ne (ne a u h)]; exact c.sg a u h) (Same.refl _) fun a h => by
    rcases h.up with z | ⟨j, hj, z⟩
    · cases z
    · obtain ⟨_, _, g1⟩ := c.own ⟨j, z⟩
      exact ⟨upd_ne fun q => hj (c.dis j s a z (by rw [q]; exact hp)), g1⟩
  have c3 := c2.put (i := s) (x := some v) (y := some w1) (f := f1) (fun w' e => ⟨v, rfl, by cases e; exact r⟩) (fun e => nomatch e) nd (fun a ha j hj z => by
    rw [upF_ne hj] at z
    rcases sub a ha with y | y
    · exact hj (c.dis j s a z y)
    · exact sep a y ⟨j, z⟩) (by simpa using hs)
  rw [set_set, set_same hv] at c3
  have ef : upF (upF fp s []) s f1 = upF fp s f1 := by
    funext j
    by_cases h : j = s
    · rw [h, upF_same, upF_same]
    · rw [upF_ne h, upF_ne h, upF_ne h]
  rw [ef] at c3
  refine ⟨c3, ⟨Same.refl _, fun a u h g np => ⟨?_, g⟩, fun a h => ?_⟩, fun a h => ?_⟩
  · rw [upd_ne fun q => np (.inl ⟨s, by rw [q]; exact hp⟩)]; exact h
  · by_cases q : a = p
    · rw [q, upd_same] at h; cases h
    · rw [upd_ne q] at h; exact h
  · rcases h.up with z | ⟨j, _, z⟩
    · exact (sub a z).imp (fun y => ⟨s, y⟩) id
    · exact .inl ⟨j, z⟩
theorem Rw.out {w : Wv} {v : V} {f : List Addr} {p : Addr} {o : HO} (r : Rw K H G v w f) (h : p ∉ f) : Rw K (upd H p o) G v w f := Rw.move (Same.refl _) _ _ _ r fun a ha => by
  obtain ⟨_, _, g⟩ := Rw.there _ _ _ r a ha
  exact ⟨upd_ne fun e => h (e ▸ ha), g⟩
theorem Rws.out {w : List Wv} {v : List V} {f : List Addr} {p : Addr} {o : HO} (r : Rws K H G v w f) (h : p ∉ f) : Rws K (upd H p o) G v w f := Rws.move (Same.refl _) _ _ _ r fun a ha => by
  obtain ⟨_, _, g⟩ := Rws.there _ _ _ r a ha
  exact ⟨upd_ne fun e => h (e ▸ ha), g⟩
/-- one item put anew -/
theorem Rw.setO {ws : List Wv} {w : Wv} {v u : V} {f g : List Addr} {j : Nat} (r : Rw K H G v (.o ws) f) (nd : f.Nodup) (hj : j < ws.length) (ru : Rw K H G u w g) (ndg : g.Nodup) (d : ∀ a ∈ g, a ∉ f) :
    ∃ p xs f1, v = .ref p ∧ p ∈ f ∧ H p = some (.lst xs) ∧ xs.length = ws.length ∧ Rw K (upd H p (.lst (xs.set j u))) G v (.o (ws.set j w)) f1 ∧ f1.Nodup ∧ ∀ a ∈ f1, a ∈ f ∨ a ∈ g := by
  unfold Rw at r
  obtain ⟨p, xs, f0, ev, h1, g1, ef, rs⟩ := r
  subst ef
  obtain ⟨np, nd0⟩ := List.nodup_cons.mp nd
  obtain ⟨v0, fa, gg, fb, e1, e2, _, k⟩ := rs.split (List.getElem?_eq_getElem hj)
  subst e2
  have npg : p ∉ g := fun h => d p h List.mem_cons_self
  have rs' := k (upd H p (.lst (xs.set j u))) G u w g (Same.refl _) (fun a ha => by
    have hm : a ∈ fa ++ gg ++ fb := by
      rcases ha with z | z
      · exact List.mem_append_left _ (List.mem_append_left _ z)
      · exact List.mem_append_right _ z
    obtain ⟨_, _, ga⟩ := Rws.there _ _ _ rs a hm
    exact ⟨upd_ne fun e => np (e ▸ hm), ga⟩) (ru.out npg)
  refine ⟨p, xs, p :: (fa ++ g ++ fb), ev, List.mem_cons_self, h1, rs.length, ?_, List.nodup_cons.mpr ⟨fun h => ?_, nodup_mid nd0 ndg fun a ha => ⟨fun z => d a ha (List.mem_cons_of_mem _ (List.mem_append_left _ (List.mem_append_left _ z))), fun z => d a ha (List.mem_cons_of_mem _ (List.mem_append_right _ z))⟩⟩, fun a ha => ?_⟩
  · unfold Rw
    exact ⟨p, xs.set j u, _, ev, upd_same, g1, rfl, rs'⟩
  · rcases List.mem_append.mp h with z | z
    · rcases List.mem_append.mp z with y | y
      · exact np (List.mem_append_left _ (List.mem_append_left _ y))
      · exact npg y
    · exact np (List.mem_append_right _ z)
  · rcases List.mem_cons.mp ha with z | z
    · exact .inl (by rw [z]; exact List.mem_cons_self)
    · rcases List.mem_append.mp z with y | y
      · rcases List.mem_append.mp y with x | x
        · exact .inl (List.mem_cons_of_mem _ (List.mem_append_left _ (List.mem_append_left _ x)))
        · exact .inr x
      · exact .inl (List.mem_cons_of_mem _ (List.mem_append_right _ y))
/-- an item of an item put anew -/
theorem Rw.setO2 {ws us : List Wv} {w : Wv} {v u : V} {f g : List Addr} {i j : Nat} (r : Rw K H G v (.o ws) f) (nd : f.Nodup) (hi : ws[i]? = some (.o us)) (hj : j < us.length) (ru : Rw K H G u w g) (ndg : g.Nodup) (d : ∀ a ∈ g, a ∉ f) :
    ∃ p xs p2 ys f1, v = .ref p ∧ H p = some (.lst xs) ∧ xs.length = ws.length ∧ xs[i]? = some (.ref p2) ∧ p2 ∈ f ∧ H p2 = some (.lst ys) ∧ ys.length = us.length ∧ Rw K (upd H p2 (.lst (ys.set j u))) G v (.o (ws.set i (.o (us.set j w)))) f1 ∧ f1.Nodup ∧ ∀ a ∈ f1, a ∈ f ∨ a ∈ g := by
  unfold Rw at r
  obtain ⟨p, xs, f0, ev, h1, g1, ef, rs⟩ := r
  subst ef
  obtain ⟨np, nd0⟩ := List.nodup_cons.mp nd
  obtain ⟨v0, fa, gg, fb, e1, e2, r0, k⟩ := rs.split hi
  subst e2
  have ndm := nd0
  rw [List.append_assoc, List.nodup_append] at ndm
  have ndg0 : gg.Nodup := (List.nodup_append.mp ndm.2.1).1
  have hin : ∀ a, a ∈ gg → a ∈ fa ++ gg ++ fb := fun a h => List.mem_append_left _ (List.mem_append_right _ h)
  obtain ⟨p2, ys, f1, ev2, hp2, h2, l2, r2, nd2, sub2⟩ := r0.setO ndg0 hj ru ndg fun a ha z => d a ha (List.mem_cons_of_mem _ (hin a z))
  have nab : ∀ a, a ∈ fa ∨ a ∈ fb → a ≠ p2 := fun a ha e => by
    subst e
    rcases ha with z | z
    · exact ndm.2.2 a z a (List.mem_append_left _ hp2) rfl
    · exact (List.nodup_append.mp ndm.2.1).2.2 a hp2 a z rfl
  have rs' := k (upd H p2 (.lst (ys.set j u))) G v0 (.o (us.set j w)) f1 (Same.refl _) (fun a ha => by
    have hm : a ∈ fa ++ gg ++ fb := by
      rcases ha with z | z
      · exact List.mem_append_left _ (List.mem_append_left _ z)
      · exact List.mem_append_right _ z
    obtain ⟨_, _, ga⟩ := Rws.there _ _ _ rs a hm
    exact ⟨upd_ne (nab a ha), ga⟩) r2
  have pp2 : p ≠ p2 := fun e => np (hin p (e ▸ hp2))
  have same : xs.set i v0 = xs := set_same e1
  rw [same] at rs'
  refine ⟨p, xs, p2, ys, p :: (fa ++ f1 ++ fb), ev, h1, rs.length, by rw [e1, ev2], List.mem_cons_of_mem _ (hin _ hp2), h2, l2, ?_, List.nodup_cons.mpr ⟨fun h => ?_, nodup_mid nd0 nd2 fun a ha => ?_⟩, fun a ha => ?_⟩
  · unfold Rw
    exact ⟨p, xs, _, ev, (upd_ne pp2).trans h1, g1, rfl, rs'⟩
  · rcases List.mem_append.mp h with z | z
    · rcases List.mem_append.mp z with y | y
      · exact np (List.mem_append_left _ (List.mem_append_left _ y))
      · rcases sub2 p y with x | x
        · exact np (hin p x)
        · exact d p x List.mem_cons_self
    · exact np (List.mem_append_right _ z)
  · rcases sub2 a ha with x | x
    · exact ⟨fun z => ndm.2.2 a z a (List.mem_append_left _ x) rfl, fun z => (List.nodup_append.mp ndm.2.1).2.2 a x a z rfl⟩
    · exact ⟨fun z => d a x (List.mem_cons_of_mem _ (List.mem_append_left _ (List.mem_append_left _ z))), fun z => d a x (List.mem_cons_of_mem _ (List.mem_append_right _ z))⟩
  · rcases List.mem_cons.mp ha with z | z
    · exact .inl (by rw [z]; exact List.mem_cons_self)
    · rcases List.mem_append.mp z with y | y
      · rcases List.mem_append.mp y with x | x
        · exact .inl (List.mem_cons_of_mem _ (List.mem_append_left _ (List.mem_append_left _ x)))
        · rcases sub2 a x with x | x
          · exact .inl (List.mem_cons_of_mem _ (hin a x))
          · exact .inr x
      · exact .inl (List.mem_cons_of_mem _ (List.mem_append_right _ y))
/-- one more item -/
theorem Rw.appO {ws : List Wv} {w : Wv} {v u : V} {f g : List Addr} (r : Rw K H G v (.o ws) f) (nd : f.Nodup) (ru : Rw K H G u w g) (ndg : g.Nodup) (d : ∀ a ∈ g, a ∉ f) :
    ∃ p xs f1, v = .ref p ∧ p ∈ f ∧ H p = some (.lst xs) ∧ xs.length = ws.length ∧ Rw K (upd H p (.lst (xs ++ [u]))) G v (.o (ws ++ [w])) f1 ∧ f1.Nodup ∧ ∀ a ∈ f1, a ∈ f ∨ a ∈ g := by
  unfold Rw at r
  obtain ⟨p, xs, f0, ev, h1, g1, ef, rs⟩ := r
  subst ef
  obtain ⟨np, nd0⟩ := List.nodup_cons.mp nd
  have npg : p ∉ g := fun h => d p h List.mem_cons_self
  refine ⟨p, xs, p :: (f0 ++ g), ev, List.mem_cons_self, h1, rs.length, ?_, List.nodup_cons.mpr ⟨fun h => (List.mem_append.mp h).elim np npg, List.nodup_append.mpr ⟨nd0, ndg, fun a ha b hb e => d b hb (by rw [← e]; exact List.mem_cons_of_mem _ ha)⟩⟩, fun a ha => ?_⟩
  · unfold Rw
    refine ⟨p, xs ++ [u], f0 ++ g, ev, upd_same, g1, rfl, Rws.append (rs.out np) ?_⟩
    unfold Rws
    exact ⟨u, [], g, [], rfl, by simp, ru.out npg, by unfold Rws; exact ⟨rfl, rfl⟩⟩
  · rcases List.mem_cons.mp ha with z | z
    · exact .inl (by rw [z]; exact List.mem_cons_self)
    · rcases List.mem_append.mp z with y | y
      · exact .inl (List.mem_cons_of_mem _ y)
      · exact .inr y
end
section
variable {X : Cx} {E : WX} {M : Nat → Bool} {e a b o i1 i2 : Expr} {es : List Expr} {f fi : ES} {g ga gb : IxF} {pos p2 apos cpos : Pos} {x : Str}
/-- x[i] as a target, x a slot's own list, i plain -/
def setW (w0 : Wv) (k : Int) (w : Wv) : Option Wv := match w0 with
  | .o ws => (ixN ws.length k).bind fun j => if j < ws.length then some (.o (ws.set j w)) else none
  | _ => none
def wAt (s : Nat) (ga : IxF) : TwF := fun w ρ => match ρ[s]?, ga ρ with
  | some (some w0), some k => (setW w0 k w).map fun w1 => ρ.set s (some w1)
  | _, _ => none
theorem set_core {K : Frg} {H G : Hp} {σ : St} {ρ : Rho} {fp : Fp} {s : Nat} {w0 w w1 : Wv} {k : Int} {u : V} {fv : List Addr} (c : Cfg K H G σ ρ fp) (e : ρ[s]? = some (some w0)) (hz : setW w0 k w = some w1) (ru : Rw K H G u w fv) (nd : fv.Nodup) (sep : ∀ a ∈ fv, ¬ Own fp a) :
    ∃ p xs j fp', σ[s]? = some (some (.ref p)) ∧ H p = some (.lst xs) ∧ ixN xs.length k = some j ∧ Cfg K (upd H p (.lst (xs.set j u))) G σ (ρ.set s (some w1)) fp' ∧ Ext (fun a => Own fp a ∨ a ∈ fv) H G (upd H p (.lst (xs.set j u))) G ∧ ∀ a, Own fp' a → Own fp a ∨ a ∈ fv := by
  obtain ⟨v, hv, r⟩ := c.get s w0 e
  cases w0 with
  | o ws =>
    unfold setW at hz
    simp only at hz
    cases zj : ixN ws.length k with
    | none => rw [zj] at hz; cases hz
    | some j =>
      rw [zj] at hz
      simp only [Option.bind_some] at hz
      split at hz
      · rename_i hj
        cases hz
        obtain ⟨p, xs, f1, ev, hp, h1, l1, r1, nd1, sub1⟩ := r.setO (c.nd s) hj ru nd fun a ha z => sep a ha ⟨s, z⟩
        obtain ⟨c1, x1, n1⟩ := c.updAt e hv hp r1 nd1 sub1 sep
        exact ⟨p, xs, j, _, by rw [hv, ev], h1, by rw [l1]; exact zj, c1, x1, n1⟩
      · cases hz
  | _ => cases hz
theorem sw_at (s : Nat) (ha : SX X a ga) (hN : X.N[s]? = some x := by rfl) (hv : Vis X.env.scope x := by first | exact Or.inl rfl | exact Or.inr (Or.inl rfl) | exact Or.inr (Or.inr rfl)) (hd : (x == ("__debug__" : Str)) = false := by decide)
    (hcd : (x == ("__classdict__" : Str)) = false := by decide)
    (hs : ∀ v, assign (.Subscript (.Name x p2) a pos) X.env v = (do
      let ov ← holding [v] (eval (.Name x p2) X.env)
      let iv ← holding [v, ov] (eval a X.env)
      standAt pos
      (holding [v, ov, iv] (setItem ov iv v))
      release [v, ov, iv] []) := by intro _; rfl) : SW' X M (.Subscript (.Name x p2) a pos) (wAt s ga) :=
  pg_sub (L2.pg_sub (pe_var hN hv hd hcd) ha set_list hs) fun v σ H Q ⟨G, ρ, fp, w, fv, ρ', c, r, nd, sep, e, q⟩ => by
    unfold wAt at e
    split at e
    · rename_i w0 k e0 ek
      cases z : setW w0 k w with
      | none => rw [z] at e; cases e
      | some w1 =>
        rw [z] at e
        cases e
        obtain ⟨p, xs, j, fp', hp, h1, hj, c1, x1, n1⟩ := set_core c e0 z r nd sep
        exact ⟨.ref p, hp, G, ρ, fp, k, c, ek, p, xs, k, j, rfl, rfl, h1, hj, q σ _ fp' c1 x1 n1 .refl⟩
    · cases e
/-- target = value, any such target -/
def sAsgW (t : TwF) (f : ES) : SSem := fun ρ => (f ρ).bind fun w r => (ofO (t w r) r).bind fun r' _ => .ok .nx r'
theorem asgW_end {K : Frg} {D : Ends} {H0 G0 H1 G1 : Hp} {fp0 fp1 : Fp} {σ : St} {r ρ' : Rho} {v : V} {w : Wv} {fv : List Addr} {t : TwF} (p : PV K H0 G0 fp0 σ r v w H1 G1 fp1 fv) (z : t w r = some ρ') (q : PokS K M D H0 G0 fp0 σ .nx ρ') : tgW K M t v σ H1 D.nx :=
  ⟨G1, r, fp1, w, fv, ρ', p.c, p.r, p.nd, p.sep, z, fun σ' H' fp' c' x' n' k' => q σ' H' G1 fp' c' ⟨⟨p.st.x.sg, (fun a o h g np => by
    obtain ⟨h1, g1⟩ := p.st.x.oth a o h g np
    refine ⟨(x'.oth a o h1 g1 fun y => ?_).1, g1⟩
    rcases y with y | y
    · rcases p.st.nw a y with y2 | y2
      · exact np y2
      · rw [h] at y2; cases y2
    · rcases p.nwv a y with y2 | y2
      · exact np y2
      · rw [h] at y2; cases y2), fun a h => p.st.x.dom a (x'.dom a h)⟩, fun a h => by
    rcases n' a h with y | y
    · exact p.st.nw a y
    · exact p.nwv a y⟩ k'⟩
theorem s1_asgW {tg : Expr} {t : TwF} (he : SE X E e f) (ht : SW' X M tg t) (hs : swapsWithSole [tg] e pos.line X.env = pure false := by rfl) (hw : swappedStores [tg] e X.env = pure none := by rfl) (h1 : (assignEach [tg] X.env).map (·.2) = [assign tg X.env] := by rfl) : S1 X E M (.Assign [tg] e pos) (sAsgW t f) :=
  ps_sub (ps_asg he ht hs hw h1) fun D σ H ⟨G, ρ, fp, c, q⟩ => ⟨G, ρ, fp, c, seqES q fun w r v H1 G1 fp1 fv p q1 => by
    cases z : t w r with
    | none => rw [z] at q1; exact q1.elim
    | some ρ' => rw [z] at q1; exact asgW_end p z q1⟩
/-- x[i][j] = e -/
def set2W (w0 : Wv) (i j : Int) (w : Wv) : Option Wv := match w0 with
  | .o ws => (ixN ws.length i).bind fun k => match ws[k]? with
    | some w2 => (setW w2 j w).map fun w3 => .o (ws.set k w3)
    | none => none
  | _ => none
def wAt2 (s : Nat) (ga gb : IxF) : TwF := fun w ρ => match ρ[s]?, ga ρ, gb ρ with
  | some (some w0), some i, some j => (set2W w0 i j w).map fun w1 => ρ.set s (some w1)
  | _, _, _ => none
theorem sw_at2 (s : Nat) (ha : SX X a ga) (hb : SX X b gb) (hN : X.N[s]? = some x := by rfl) (hv : Vis X.env.scope x := by first | exact Or.inl rfl | exact Or.inr (Or.inl rfl) | exact Or.inr (Or.inr rfl)) (hd : (x == ("__debug__" : Str)) = false := by decide)
    (hcd : (x == ("__classdict__" : Str)) = false := by decide) (hs0 : PlainIx a := by exact fun _ _ => rfl)
    (hs : ∀ v, assign (.Subscript (.Subscript (.Name x p2) a apos) b pos) X.env v = (do
      let ov ← holding [v] (eval (.Subscript (.Name x p2) a apos) X.env)
      let iv ← holding [v, ov] (eval b X.env)
      standAt pos
      (holding [v, ov, iv] (setItem ov iv v))
      release [v, ov, iv] []) := by intro _; rfl) : SW' X M (.Subscript (.Subscript (.Name x p2) a apos) b pos) (wAt2 s ga gb) :=
  pg_sub (L2.pg_sub (pe_ix ix_any (pe_var hN hv hd hcd) ha hs0) hb set_list hs) fun v σ H Q ⟨G, ρ, fp, w, fv, ρ', c, r, nd, sep, e, q⟩ => by
    unfold wAt2 at e
    split at e
    · rename_i w0 i j e0 ei ej
      cases z : set2W w0 i j w with
      | none => rw [z] at e; cases e
      | some w1 =>
        rw [z] at e
        cases e
        obtain ⟨v0, hv0, r0⟩ := c.get s w0 e0
        cases w0 with
        | o ws =>
          unfold set2W at z
          simp only at z
          cases zk : ixN ws.length i with
          | none => rw [zk] at z; cases z
          | some k =>
            rw [zk] at z
            simp only [Option.bind_some] at z
            cases zw : ws[k]? with
            | none => rw [zw] at z; cases z
            | some w2 =>
              rw [zw] at z
              simp only at z
              cases w2 with
              | o us =>
                unfold setW at z
                simp only at z
                cases zj : ixN us.length j with
                | none => rw [zj] at z; cases z
                | some l =>
                  rw [zj] at z
                  simp only [Option.bind_some] at z
                  split at z
                  · rename_i hl
                    cases z
                    obtain ⟨p, xs, p2, ys, f1, ev, h1, l1, hx, hp2, h2, l2, r1, nd1, sub1⟩ := r0.setO2 (c.nd s) zw hl r nd fun a ha z => sep a ha ⟨s, z⟩
                    obtain ⟨c1, x1, n1⟩ := c.updAt e0 hv0 hp2 r1 nd1 sub1 sep
                    refine ⟨v0, hv0, G, ρ, fp, i, c, ei, p, xs, i, .ref p2, ev, rfl, .inl (SqL.of h1), ?_, G, ρ, fp, j, c, ej, p2, ys, j, l, rfl, rfl, h2, by rw [l2]; exact zj, q σ _ _ c1 x1 n1 .refl⟩
                    unfold L2.atI
                    rw [l1, zk]
                    exact hx
                  · cases z
              | _ => cases z
        | _ => cases z
    · cases e
/-- x.append(e) -/
def sApp (s : Nat) (f : ES) : SSem := fun ρ => match ρ[s]? with
  | some (some (.o _)) => (f ρ).bind fun w r => match r[s]? with
    | some (some (.o ws)) => if ws.length < 1000000 then .ok .nx (r.set s (some (.o (ws ++ [w])))) else .bad
    | _ => .bad
  | _ => .bad
theorem s1_app (s : Nat) (he : SE X E e f) (hN : X.N[s]? = some x := by rfl) (hv : Vis X.env.scope x := by first | exact Or.inl rfl | exact Or.inr (Or.inl rfl) | exact Or.inr (Or.inr rfl)) (hd : (x == ("__debug__" : Str)) = false := by decide)
    (hcd : (x == ("__classdict__" : Str)) = false := by decide) (hbase : attributeBase (.Name x p2) "append" X.env (eval (.Name x p2) X.env) = eval (.Name x p2) X.env := by rfl)
    (hfew : ((backTo cpos (starEach [e] X.env)).all (fun y => !y.1) && (backToKw cpos (keywordEach [] X.env)).all (fun y => y.1.isSome) && decide ([e].length + ([] : List Keyword).length + (if ([] : List Keyword).isEmpty then 0 else 1) < 30)) = true := by rfl)
    (hline : (apos.endLine == cpos.line) = true := by rfl) (hse : starEach [e] X.env = (false, eval e X.env) :: starEach [] X.env := by rfl) (hplain : (backTo cpos (starEach [] X.env)).any (·.1) = false := by rfl)
    (hsw : swapsWith (.Call (.Attribute (.Name x p2) "append" apos) [e] [] cpos) none pos.line X.env = pure false := by rfl) :
    S1 X E M (.Expr (.Call (.Attribute (.Name x p2) "append" apos) [e] [] cpos) pos) (sApp s f) :=
  ps_sub (ps_expr (pe_bm PySem.F.plainAttrs_list PySem.F.slot_list_append PySem.F.type_list_append mt_append (pe_var hN hv hd hcd) (pa_cons he pa_nil hse) hbase hfew hline hse hplain) hsw) fun D σ H ⟨G, ρ, fp, c, q⟩ => by
    unfold sApp at q
    split at q
    · rename_i ws0 e0
      obtain ⟨v, hv0, r0⟩ := c.get s _ e0
      obtain ⟨p, xs0, f0, ev, h0, g0, _⟩ := (show ∃ a vs f, v = .ref a ∧ H a = some (.lst vs) ∧ G a = none ∧ fp s = a :: f ∧ Rws X.K H G vs ws0 f by unfold Rw at r0; exact r0)
      subst ev
      refine ⟨.ref p, hv0, .inl ⟨rfl, xs0, SqL.of h0⟩, G, ρ, fp, c, seqES q fun w r u H1 G1 fp1 fv pv q1 => ?_⟩
      split at q1
      · rename_i ws e1
        split at q1
        · rename_i hlen
          obtain ⟨v1, hv1, r1⟩ := pv.c.get s _ e1
          rw [hv0] at hv1
          cases hv1
          obtain ⟨p', xs, f1, ev, hp, h1, l1, r2, nd2, sub2⟩ := r1.appO (pv.c.nd s) pv.r pv.nd fun a ha z => pv.sep a ha ⟨s, z⟩
          cases ev
          obtain ⟨c1, x1, n1⟩ := pv.c.updAt e1 hv0 hp r2 nd2 sub2 pv.sep
          refine ⟨p, xs, u, rfl, rfl, h1, by rw [l1]; exact Nat.lt_of_lt_of_le hlen line6, q1 σ _ G1 _ c1 ⟨⟨pv.st.x.sg, fun a o h g np => ?_, fun a h => pv.st.x.dom a (x1.dom a h)⟩, fun a h => ?_⟩ .refl⟩
          · obtain ⟨h3, g3⟩ := pv.st.x.oth a o h g np
            refine ⟨(x1.oth a o h3 g3 fun y => ?_).1, g3⟩
            rcases y with y | y
            · rcases pv.st.nw a y with y2 | y2
              · exact np y2
              · rw [h] at y2; cases y2
            · rcases pv.nwv a y with y2 | y2
              · exact np y2
              · rw [h] at y2; cases y2
          · rcases n1 a h with y | y
            · exact pv.st.nw a y
            · exact pv.nwv a y
        · exact q1.elim
      · exact q1.elim
    · exact q.elim
end
end FW

set_option Elab.async false
set_option linter.all false
set_option maxRecDepth 100000
set_option maxHeartbeats 1000001
namespace FW
open PySem PySem.Spec L2
/-! ## defs: what they promise -/
/-- as the layer's FnOk, in places where nothing is being shown by repr -/
structure FnG (P : Program) (w : World) (K : Frg) (mg : Mg) (base : Heap) (k : Nat) (f : Addr) (fd : FuncData) (ps : List Str) (sp : Sp) : Prop where
  len : ∀ zs H Q E, sp zs H Q E → zs.length = ps.length
  run : ∀ (A : Around) (outer : List Env) (s : Shared) (H : Hp) (args : Args) (us : List Value) (vs : List V) (Q : VK) (E : XK), Room k A → A.guards = some [] → Env0 P w K mg base A outer s H → BindsTo s fd args (ps.zip us) → Vals vs us → sp vs H Q E →
    codeAny (model P w) A (.call (.ref f) args) (CR (L2.CX P w) outer P w H s Q E) s
theorem FnG.mono {P : Program} {w : World} {K : Frg} {mg : Mg} {base : Heap} {j k : Nat} {f : Addr} {fd : FuncData} {ps : List Str} {sp : Sp} (F : FnG P w K mg base j f fd ps sp) (h : j ≤ k) : FnG P w K mg base k f fd ps sp :=
  ⟨F.len, fun A outer s H args us vs Q E hr => F.run A outer s H args us vs Q E (hr.mono h)⟩
abbrev DS := List Wv → Out Wv
def spD (K : Frg) (mg : Mg) (np : Nat) (f : DS) : Sp := fun vs H Q E => ∃ G ws fv, Same G H ∧ Rws K H G vs ws fv ∧ fv.Nodup ∧ ws.length = np ∧
  ResO (fun w ρ' => ∀ v H' G' fp' fr, Cfg K H' G' (vs.map some) ρ' fp' → Ext (· ∈ fv) H G H' G' → Rw K H' G' v w fr → fr.Nodup → (∀ a ∈ fr, ¬ Own fp' a) → (∀ a, a ∈ fr ∨ Own fp' a → a ∈ fv ∨ H a = none) → Q v H')
    (fun x ρ' => ∀ cls dd H' G' fp', Cfg K H' G' (vs.map some) ρ' fp' → Ext (· ∈ fv) H G H' G' → (∀ a, Own fp' a → a ∈ fv ∨ H a = none) → XRep K mg G' H' x cls dd → E cls dd H') (f ws)
def finR (np : Nat) (M : Nat → Bool) (r : Rho) : Rho := (List.range np).map fun i => if M i = true then r.getD i none else none
def mkDef (n np : Nat) (M : Nat → Bool) (body : SSem) : DS := fun ws => if ws.length = np then (match body (ws.map some ++ List.replicate (n - np) none) with
    | .ok (.ret w) r => .ok w (finR np M r)
    | .ok .nx r => .ok (.d .none) (finR np M r)
    | .exc x r => .exc x (finR np M r)
    | _ => .bad) else .bad
section
variable {K : Frg} {H G : Hp}
/-- the parameters' values as slots -/
theorem cfg_args (sg : Same G H) : ∀ {ws : List Wv} {vs : List V} {fv : List Addr}, Rws K H G vs ws fv → fv.Nodup → ∃ fp, Cfg K H G (vs.map some) (ws.map some) fp ∧ ∀ a, Own fp a → a ∈ fv
  | [], _, _, r, _ => by
    unfold Rws at r
    obtain ⟨e1, e2⟩ := r
    subst e1 e2
    exact ⟨fun _ => [], ⟨sg, rfl, fun i w e => by simp at e, fun _ _ => rfl, fun _ => List.nodup_nil, fun _ _ _ h => nomatch h⟩, fun a ⟨_, h⟩ => nomatch h⟩
  | w :: ws, _, _, r, nd => by
    unfold Rws at r
    obtain ⟨v, vr, f, g, e1, e2, r1, r2⟩ := r
    subst e1 e2
    have nd3 := List.nodup_append.mp nd
    obtain ⟨fp, c, own⟩ := cfg_args sg r2 nd3.2.1
    refine ⟨fun i => match i with | 0 => f | i + 1 => fp i, ⟨sg, by simp [r2.length], fun i w' e => ?_, fun i h => ?_, fun i => ?_, fun i j a h1 h2 => ?_⟩, fun a h => ?_⟩
    · cases i with
      | zero =>
        simp at e
        subst e
        exact ⟨v, rfl, r1⟩
      | succ i =>
        obtain ⟨v', e3, r3⟩ := c.get i w' (by simpa using e)
        exact ⟨v', by simpa using e3, r3⟩
    · cases i with
      | zero => exact absurd rfl (h w)
      | succ i => exact c.nil i fun w' e => h w' (by simpa using e)
    · cases i with
      | zero => exact nd3.1
      | succ i => exact c.nd i
    · cases i with
      | zero =>
        cases j with
        | zero => rfl
        | succ j => exact absurd rfl (nd3.2.2 a h1 a (own a ⟨j, h2⟩))
      | succ i =>
        cases j with
        | zero => exact absurd rfl (nd3.2.2 a h2 a (own a ⟨i, h1⟩))
        | succ j => exact congrArg Nat.succ (c.dis i j a h1 h2)
    · obtain ⟨i, h⟩ := h
      cases i with
      | zero => exact List.mem_append_left _ h
      | succ i => exact List.mem_append_right _ (own a ⟨i, h⟩)
theorem Cfg.pad {σ : St} {ρ : Rho} {fp : Fp} (c : Cfg K H G σ ρ fp) (n : Nat) : Cfg K H G (σ ++ List.replicate n none) (ρ ++ List.replicate n none) fp := by
  have hout : ∀ i, ρ.length ≤ i → ∀ w, (ρ ++ List.replicate n (none : Option Wv))[i]? ≠ some (some w) := fun i hi w h => by
    rw [List.getElem?_append_right hi] at h
    have := List.mem_of_getElem? h
    rw [List.mem_replicate] at this
    cases this.2
  refine ⟨c.sg, by simp [c.len], fun i w e => ?_, fun i h => ?_, c.nd, c.dis⟩
  · by_cases hi : i < ρ.length
    · rw [List.getElem?_append_left hi] at e
      obtain ⟨v, h1, h2⟩ := c.get i w e
      exact ⟨v, by rw [List.getElem?_append_left (by rw [c.len]; exact hi)]; exact h1, h2⟩
    · exact absurd e (hout i (by omega) w)
  · refine c.nil i fun w e => h w ?_
    rw [List.getElem?_append_left (List.getElem?_eq_some_iff.mp e).1]
    exact e
/-- the parameters at the end -/
theorem Cfg.finR {σ : St} {ρ : Rho} {fp : Fp} (c : Cfg K H G σ ρ fp) {vs : List V} {M : Nat → Bool} (k : ∀ i v, M i = true → vs[i]? = some v → σ[i]? = some (some v)) :
    ∃ fp', Cfg K H G (vs.map some) (FW.finR vs.length M ρ) fp' ∧ ∀ a, Own fp' a → Own fp a := by
  refine ⟨fun i => if i < vs.length ∧ M i = true then fp i else [], ⟨c.sg, by unfold FW.finR; simp, fun i w e => ?_, fun i h => ?_, fun i => ?_, fun i j a h1 h2 => ?_⟩, fun a ⟨i, h⟩ => ?_⟩
  · unfold FW.finR at e
    by_cases hi : i < vs.length
    · rw [List.getElem?_map, List.getElem?_range hi] at e
      simp only [Option.map_some, Option.some.injEq] at e; split at e
      · rename_i hm
        rw [List.getD] at e
        cases z : ρ[i]? with
        | none => rw [z] at e; cases e
        | some y =>
          rw [z] at e
          simp only [Option.getD_some] at e
          subst e
          obtain ⟨v, h1, h2⟩ := c.get i w z
          have h3 := k i _ hm (List.getElem?_eq_getElem hi)
          rw [h1] at h3
          cases h3
          exact ⟨_, by rw [List.getElem?_map, List.getElem?_eq_getElem hi]; rfl, by rw [if_pos ⟨hi, hm⟩]; exact h2⟩
      · cases e
    · rw [List.getElem?_eq_none (by simpa using hi)] at e; cases e
  · split
    · rename_i hh
      refine c.nil i fun w e => h w ?_
      unfold FW.finR
      rw [List.getElem?_map, List.getElem?_range hh.1]
      simp [hh.2, List.getD, e]
    · rfl
  · split
    · exact c.nd i
    · exact List.nodup_nil
  · split at h1
    · split at h2
      · exact c.dis i j a h1 h2
      · cases h2
    · cases h1
  · dsimp only at h
    split at h
    · exact ⟨i, h⟩
    · cases h
end
section
variable {P : Program} {w : World} {K : Frg} {mg : Mg} {base : Heap}
theorem guards_deeper {A : Around} {env : Env} (h : A.guards = some []) : (A.deeper env).guards = some [] := h
/-- a def of the text keeps what its body promises -/
theorem fnG_body {x qual : Str} {st : Stmt} {f : Addr} {fd : FuncData} {N ps : List Str} {k : Nat} {sp : Sp} (F : Fun K x qual st f fd) (S : FnScope N ps (defScope st)) (hlen : ∀ vs H Q E, sp vs H Q E → vs.length = ps.length)
    (hb : ∀ (cdv : Value) (A : Around) (outer : List Env) (s : Shared) (H : Hp) (vs : List V) (Q : VK) (E : XK), Room k (A.deeper (PyProof.Rows.envOfC qual (defScope st) s.heap.objs.size f cdv)) → A.guards = some [] → sp vs H Q E →
      ∃ t, PSs (cxOf (L2.CX P w) P w K mg base N qual (defScope st) f cdv A outer s H E) (defBody st) t ∧ t { nx := fun _ H' => Q .non H', rt := Q } (L2.start N vs) H) : FnG P w K mg base (k + 1) f fd ps sp := by
  obtain ⟨oc, od, kV, doc, pm, an, cdv, ct, osl, rfl, lk, hcd⟩ := F.ex; refine ⟨hlen, fun A outer s H args us vs Q E hr hg e0 hbd r hsp => ?_⟩
  have hl := hlen _ _ _ _ hsp
  have kin : K.In s.heap := e0.mod.kin.keeps fun b o e => (e0.bs b o e).1
  have nol : s.heap.NoLimit := e0.mod.nolimit.keeps fun b o e => (e0.bs b o e).1
  have kinds : ∀ y ∈ ps.zip us, (defScope st).names.lookup y.1 = some .local ∨ ((defScope st).names.lookup y.1 = some .cell ∧ ((cellsFrom (s.heap.objs.size + 1) (defScope st).names []).lookup y.1).isSome = true) := by
    intro y hy
    rcases S.par y.1 (List.of_mem_zip (show (y.1, y.2) ∈ ps.zip us from hy)).1 with q | q
    · exact .inl q
    · exact .inr ⟨q, (PySem.W.cellsFrom_some _ _ _ (.inl q))⟩ 
  refine codeAny_call_function hr.depth (kin _ _ lk) rfl S.co S.gen rfl (PySem.W.codeRec_of kin hcd) (hbd _ _ _ _ ?_)
  refine wpAny_newFunctionEnv_cells S.kind kinds fun env he s1 ic => ?_
  subst he
  refine ⟨nol.keeps ic.toInCall.keep, codeAny_func ?_⟩
  obtain ⟨t, ht, hq⟩ := hb cdv A outer s H vs Q E (hr.deeper _) hg hsp
  have I : Inv (cxOf (L2.CX P w) P w K mg base N qual (defScope st) f cdv A outer s H E) [] (L2.start N vs) H s1 := inv_start S hr.hd e0 hl r ic
  refine wpAny_mono (ht.run [] s1 (L2.start N vs) H _ I hq) (fun fl s' hs => ?_) fun e s' hs => hs; cases fl with
  | ret u =>
    obtain ⟨v, σ', H', J, rv, q⟩ := hs; exact ⟨v, H', J.os, J.bare, J.base, J.hok, rv, q⟩
  | next =>
    obtain ⟨σ', H', J, q⟩ := hs
    exact ⟨V.non, H', J.os, J.bare, J.base, J.hok, rfl, q⟩
  | brk =>
    obtain ⟨_, _, _, q⟩ := hs
    exact q.elim
  | cont =>
    obtain ⟨_, _, _, q⟩ := hs
    exact q.elim
/-- .. by the meaning of its body -/
theorem fnG_of {x qual : Str} {st : Stmt} {f : Addr} {fd : FuncData} {N ps : List Str} {k : Nat} {M : Nat → Bool} {body : SSem} (F : Fun K x qual st f fd) (S : FnScope N ps (defScope st)) (hnp : ps.length ≤ N.length)
    (hb : ∀ (cdv : Value) (A : Around) (outer : List Env) (s : Shared) (H : Hp) (E : XK), Room k (A.deeper (PyProof.Rows.envOfC qual (defScope st) s.heap.objs.size f cdv)) → A.guards = some [] →
      SS (cxOf (L2.CX P w) P w K mg base N qual (defScope st) f cdv A outer s H E) (fun cls d _ H => E cls d H) M (defBody st) body) : FnG P w K mg base (k + 1) f fd ps (spD K mg ps.length (mkDef N.length ps.length M body)) := by
  refine fnG_body F S (fun vs H Q E ⟨G, ws, fv, _, r, _, hl, _⟩ => by rw [r.length]; exact hl) fun cdv A outer s H vs Q E hr hg hsp => ?_
  refine ⟨_, hb cdv A outer s H E hr hg, ?_⟩
  obtain ⟨G, ws, fv, sg, r, nd, hl, q⟩ := hsp
  obtain ⟨fp, c, own⟩ := cfg_args sg r nd
  have c0 := c.pad (N.length - ps.length)
  have hvs : vs.length = ps.length := by rw [r.length]; exact hl
  have e0 : vs.map some ++ List.replicate (N.length - ps.length) none = L2.start N vs := by unfold L2.start; rw [hvs]
  rw [e0] at c0
  refine ⟨G, _, fp, c0, ?_⟩
  unfold mkDef at q
  rw [if_pos hl] at q
  have keepP : ∀ {σ' : St}, Keep M (L2.start N vs) σ' → ∀ i v, M i = true → vs[i]? = some v → σ'[i]? = some (some v) := fun k i v hm hv => by
    rw [k.2 i hm, ← e0, List.getElem?_append_left (by rw [List.length_map]; exact (List.getElem?_eq_some_iff.mp hv).1), List.getElem?_map, hv]
    rfl
  have up : ∀ {H' G' : Hp} {fp' : Fp}, Step fp H G fp' H' G' → Ext (· ∈ fv) H G H' G' := fun s => ⟨s.x.sg, fun a o h g np => s.x.oth a o h g fun y => np (own a y), s.x.dom⟩
  cases z : body (ws.map some ++ List.replicate (N.length - ps.length) none) with
  | bad => rw [z] at q; exact q.elim
  | exc x1 ρ' =>
    rw [z] at q
    intro cls dd σ' H' G' fp' c' s' k' xr
    obtain ⟨fp2, c2, own2⟩ := c'.finR (keepP k')
    rw [hvs] at c2
    exact q cls dd H' G' fp2 c2 (up s') (fun a h => (s'.nw a (own2 a h)).imp (own a) id) xr
  | ok fl ρ' =>
    rw [z] at q
    cases fl with
    | nx =>
      intro σ' H' G' fp' c' s' k'
      obtain ⟨fp2, c2, own2⟩ := c'.finR (keepP k')
      rw [hvs] at c2
      exact q .non H' G' fp2 [] c2 (up s') (by unfold Rw; exact ⟨rfl, Dr.none⟩) List.nodup_nil (fun _ y => nomatch y) fun a h => h.elim (fun y => nomatch y) fun h => (s'.nw a (own2 a h)).imp (own a) id
    | ret w1 =>
      intro v σ' H' G' fp' fr p k'
      obtain ⟨fp2, c2, own2⟩ := p.c.finR (keepP k')
      rw [hvs] at c2
      exact q v H' G' fp2 fr c2 (up p.st) p.r p.nd (fun a ha h => p.sep a ha (own2 a h)) fun a h => h.elim (fun y => (p.nwv a y).imp (own a) id) fun h => (p.st.nw a (own2 a h)).imp (own a) id
    | bk => exact q.elim
    | ct => exact q.elim
end
end FW

set_option Elab.async false
set_option linter.all false
set_option maxRecDepth 100000
set_option maxHeartbeats 1000001
namespace FW
open PySem PySem.Spec L2
section
variable {X : Cx} {E : WX} {M : Nat → Bool} {e : Expr} {es : List Expr} {pos p p2 : Pos} {x y : Str} {k np : Nat} {f : Addr} {fd : FuncData} {ps ks : List Str} {sp : Sp} {df : DS} {aw : Rho → Out (List Wv)}
theorem run_G {pins : List (Addr × Obj)} {σ : St} {H : Hp} {s : Shared} {Q : VK} {us : List Value} {vs : List V} (F : FnG X.prog X.w X.K X.mg X.base k f fd ps sp) (hr : Room k X.A) (hgd : X.A.guards = some []) (hb : Binds X.K fd ps []) (tk : Takes X E)
    (I : Inv X pins σ H s) (r : Vals vs us) (h : sp vs H Q (fun cls d H' => E cls d σ H')) : wpAny (model X.prog X.w) X.A (call (.ref f) us) (EP X pins σ Q) X.xe s := by
  have hl : (us ++ []).length = ps.length := by rw [List.append_nil, ← r.length]; exact F.len _ _ _ _ h
  have bd := hb s us I.kIn hl
  rw [List.append_nil] at bd
  refine wpAny_call (codeAny_mono (F.run X.A X.stack s H ⟨us, []⟩ us vs Q _ hr hgd I.env0 bd r h) fun res s' hq => ?_)
  cases res with
  | error ev => exact passAt tk σ pins H s ev s' I hq
  | ok fl =>
    cases fl with
    | ret u => exact I.after hq
    | next => exact hq.elim
    | brk => exact hq.elim
    | cont => exact hq.elim
def tCallG (sp : Sp) (E : WX) (t : TA) : TE := fun σ H Q => t σ H fun vs H1 => sp vs H1 Q (fun cls d H' => E cls d σ H')
theorem pe_callG {t : TA} (F : FnG X.prog X.w X.K X.mg X.base k f fd ps sp) (hr : Room k X.A) (hgd : X.A.guards = some []) (hg : Gl X x) (hm : X.mg x = some (.ref f)) (hk : PySem.W.keepIn X.K (.ref f) = true) (hb : Binds X.K fd ps []) (tk : Takes X E)
    (ha : PA X (e :: es) t) (hdb : (x == ("__debug__" : Str)) = false := by decide)
    (he : starEach (e :: es) X.env = (false, eval e X.env) :: starEach es X.env := by rfl) (hpl : (backTo pos (starEach es X.env)).any (·.1) = false := by rfl) : PE X (.Call (.Name x p) (e :: es) [] pos) (tCallG sp E t) :=
  ⟨fun pins s σ H Q I h => wpAny_Call_Name_kw (ld_glob I hg hm (PySem.W.callWith_K (h₀ := X.base) I.ok.mod.kin hk (thn (ha.run pos pins s σ H _ I h) fun us s1 ⟨vs, H1, J, r, q⟩ => ⟨J.kIn, run_G F hr hgd hb tk J r q⟩) he hpl) hdb)⟩
theorem pe_callG0 (F : FnG X.prog X.w X.K X.mg X.base k f fd ps sp) (hr : Room k X.A) (hgd : X.A.guards = some []) (hg : Gl X x) (hm : X.mg x = some (.ref f)) (hk : PySem.W.keepIn X.K (.ref f) = true) (hb : Binds X.K fd ps []) (tk : Takes X E)
    (hdb : (x == ("__debug__" : Str)) = false := by decide) : PE X (.Call (.Name x p) [] [] pos) (tCallG sp E tNil) :=
  ⟨fun pins s σ H Q I h => wpAny_Call_Name_kw (ld_glob I hg hm (PySem.W.callWith_K0 I.kIn hk (run_G (us := []) F hr hgd hb tk I .nil h)) hdb)⟩
/-- a def of the text as callers see it -/
structure Cal (P : Program) (w : World) (K : Frg) (mg : Mg) (base : Heap) (k np : Nat) (x : Str) (df : DS) : Prop where
  ex : ∃ (f : Addr) (fd : FuncData) (ps : List Str), FnG P w K mg base k f fd ps (spD K mg np df) ∧ mg x = some (.ref f) ∧ PySem.W.keepIn K (.ref f) = true ∧ Binds K fd ps []
/-- f(e, ..): all by value -/
def sCallW (df : DS) (aw : Rho → Out (List Wv)) : ES := fun ρ => (aw ρ).bind fun ws r => match df ws with
  | .ok w _ => .ok w r
  | .exc x _ => .exc x r
  | .bad => .bad
theorem callW_core {K : Frg} {mg : Mg} {H0 G0 H1 G1 : Hp} {fp0 fp1 : Fp} {σ : St} {r : Rho} {vs : List V} {ws : List Wv} {fv : List Addr} {Q : VK} (hnp : ws.length = np) (p : PA' K H0 G0 fp0 σ r vs ws H1 G1 fp1 fv)
    (q : ResE K mg E H0 G0 fp0 σ Q (match df ws with | .ok w _ => .ok w r | .exc x _ => .exc x r | .bad => .bad)) : spD K mg np df vs H1 Q (fun cls d H' => E cls d σ H') := by
  have base : ∀ {H' G' : Hp}, Ext (· ∈ fv) H1 G1 H' G' → Same G' H' → Cfg K H' G' σ r fp1 ∧ Ext (Own fp0) H0 G0 H' G' := fun x sg => by
    refine ⟨p.c.ext x sg fun a h z => p.sep a z h, ⟨p.st.x.sg.trans x.sg, fun a o h g np => ?_, fun a h => p.st.x.dom a (x.dom a h)⟩⟩
    obtain ⟨h1, g1⟩ := p.st.x.oth a o h g np
    refine x.oth a o h1 g1 fun z => ?_
    rcases p.nwv a z with y | y
    · exact np y
    · rw [h] at y; cases y
  refine ⟨G1, ws, fv, p.c.sg, p.r, p.nd, hnp, ?_⟩
  cases z : df ws with
  | bad => rw [z] at q; exact q.elim
  | exc x1 r1 =>
    rw [z] at q
    intro cls dd H' G' fp' c' x' n' xr
    obtain ⟨c1, e1⟩ := base x' c'.sg
    exact q cls dd H' G' fp1 c1 ⟨e1, p.st.nw⟩ xr
  | ok w r1 =>
    rw [z] at q
    intro v H' G' fp' fr c' x' rv nd sep n'
    obtain ⟨c1, e1⟩ := base x' c'.sg
    refine q v H' G' fp1 fr ⟨c1, ⟨e1, p.st.nw⟩, rv, nd, fun a ha h => ?_, fun a ha => ?_⟩
    · rcases n' a (.inl ha) with y | y
      · exact p.sep a y h
      · obtain ⟨_, h1, _⟩ := p.c.own h
        rw [h1] at y; cases y
    · rcases n' a (.inl ha) with y | y
      · exact p.nwv a y
      · exact .inr (p.st.x.dom a y)
theorem se_callW (C : Cal X.prog X.w X.K X.mg X.base k np x df) (hr : Room k X.A) (hgd : X.A.guards = some []) (tk : Takes X E) (ha : SAW X E (e :: es) aw) (hlen : ∀ ρ ws r, aw ρ = .ok ws r → ws.length = np) (hg : Gl X x := by rfl)
    (hdb : (x == ("__debug__" : Str)) = false := by decide) (he : starEach (e :: es) X.env = (false, eval e X.env) :: starEach es X.env := by rfl) (hpl : (backTo pos (starEach es X.env)).any (·.1) = false := by rfl) : SE X E (.Call (.Name x p) (e :: es) [] pos) (sCallW df aw) := by
  obtain ⟨f, fd, ps, F, hm, hk, hb⟩ := C.ex
  exact pe_sub (pe_callG F hr hgd hg hm hk hb tk ha hdb he hpl) fun σ H Q ⟨G, ρ, fp, c, q⟩ => ⟨G, ρ, fp, c, by
    unfold sCallW at q
    cases z : aw ρ with
    | bad => rw [z] at q; exact q.elim
    | exc x1 r1 => rw [z] at q; exact q
    | ok ws r =>
      rw [z] at q
      exact fun vs H1 G1 fp1 fv pa => callW_core (hlen ρ ws r z) pa q⟩
theorem wlen_nil {ρ : Rho} {ws : List Wv} {r : Rho} (h : wNil ρ = .ok ws r) : ws.length = 0 := by cases h; rfl
theorem wlen_cons {f : ES} {fs : Rho → Out (List Wv)} {n : Nat} (h : ∀ ρ ws r, fs ρ = .ok ws r → ws.length = n) : ∀ ρ ws r, wCons f fs ρ = .ok ws r → ws.length = n + 1 := fun ρ ws r e => by
  unfold wCons at e
  cases z : f ρ with
  | bad => rw [z] at e; cases e
  | exc _ _ => rw [z] at e; cases e
  | ok w r1 =>
    rw [z] at e
    simp only [Out.bind_ok] at e
    cases z2 : fs r1 with
    | bad => rw [z2] at e; cases e
    | exc _ _ => rw [z2] at e; cases e
    | ok us r2 =>
      rw [z2] at e
      have hl := h r1 us r2 z2
      cases e
      rw [List.length_cons, hl]
/-- f(x, e, ..): x a slot, handed on as it is -/
def sCallA (df : DS) (s : Nat) (aw : Rho → Out (List Wv)) : ES := fun ρ => match ρ[s]? with
  | some (some _) => (aw ρ).bind fun ws r => match r[s]? with
    | some (some w0) => (match df (w0 :: ws) with
      | .ok w rp => .ok w (r.set s (rp.getD 0 none))
      | .exc x rp => .exc x (r.set s (rp.getD 0 none))
      | .bad => .bad)
    | _ => .bad
  | _ => .bad
theorem callA_core {K : Frg} {mg : Mg} {H0 G0 H1 G1 : Hp} {fp0 fp1 : Fp} {σ : St} {r : Rho} {v0 : V} {w0 : Wv} {s : Nat} {vs : List V} {ws : List Wv} {fv : List Addr} {Q : VK} (hnp : ws.length + 1 = np) (p : PA' K H0 G0 fp0 σ r vs ws H1 G1 fp1 fv) (hs : r[s]? = some (some w0)) (hv : σ[s]? = some (some v0))
    (q : ResE K mg E H0 G0 fp0 σ Q (match df (w0 :: ws) with | .ok w rp => .ok w (r.set s (rp.getD 0 none)) | .exc x rp => .exc x (r.set s (rp.getD 0 none)) | .bad => .bad)) : spD K mg np df (v0 :: vs) H1 Q (fun cls d H' => E cls d σ H') := by
  obtain ⟨v1, hv1, r0⟩ := p.c.get s w0 hs
  rw [hv] at hv1
  cases hv1
  have hsl : s < r.length := (List.getElem?_eq_some_iff.mp hs).1
  have sepv : ∀ a ∈ fv, a ∉ fp1 s := fun a ha h => p.sep a ha ⟨s, h⟩
  have after : ∀ {H' G' : Hp} {rp : Rho} {fp' : Fp}, Cfg K H' G' ((v0 :: vs).map some) rp fp' → Ext (· ∈ fp1 s ++ fv) H1 G1 H' G' → (∀ a, Own fp' a → a ∈ fp1 s ++ fv ∨ H1 a = none) →
      Cfg K H' G' σ (r.set s (rp.getD 0 none)) (upF fp1 s (fp' 0)) ∧ Step fp0 H0 G0 (upF fp1 s (fp' 0)) H' G' := fun {H' G' rp fp'} c' x' n' => by
    have c1 : Cfg K H1 G1 (σ.set s (some v0)) (r.set s none) (upF fp1 s []) := p.c.put (fun w e => nomatch e) (fun _ => rfl) List.nodup_nil (fun _ z => nomatch z) hsl
    rw [set_same hv] at c1
    have c2 := c1.ext x' c'.sg fun a h z => by
      rcases h.up with y | ⟨j, hj, y⟩
      · cases y
      · rcases List.mem_append.mp z with y2 | y2
        · exact hj (p.c.dis j s a y y2)
        · exact p.sep a y2 ⟨j, y⟩
    have c3 := c2.put (i := s) (x := some v0) (y := rp.getD 0 none) (f := fp' 0) (fun w e => by
      have e2 : rp[0]? = some (some w) := by
        rw [List.getD] at e
        cases z : rp[0]? with
        | none => rw [z] at e; cases e
        | some y => rw [z] at e; simp at e; rw [e]
      obtain ⟨v, h1, h2⟩ := c'.get 0 w e2
      simp at h1
      subst h1
      exact ⟨v0, rfl, h2⟩) (fun e => c'.nil 0 fun w z => by
        rw [List.getD, z] at e; cases e) (c'.nd 0) (fun a ha j hj z => by
      rw [upF_ne hj] at z
      rcases n' a ⟨0, ha⟩ with y | y
      · rcases List.mem_append.mp y with y2 | y2
        · exact hj (p.c.dis j s a z y2)
        · exact p.sep a y2 ⟨j, z⟩
      · obtain ⟨_, h1, _⟩ := p.c.own ⟨j, z⟩
        rw [h1] at y; cases y) (by simpa using hsl)
    rw [set_set, set_same hv] at c3
    have ef : upF (upF fp1 s []) s (fp' 0) = upF fp1 s (fp' 0) := by
      funext j
      by_cases h : j = s
      · rw [h, upF_same, upF_same]
      · rw [upF_ne h, upF_ne h, upF_ne h]
    rw [ef] at c3
    refine ⟨c3, ⟨⟨p.st.x.sg.trans x'.sg, fun a o h g np => ?_, fun a h => p.st.x.dom a (x'.dom a h)⟩, fun a h => ?_⟩⟩
    · obtain ⟨h1, g1⟩ := p.st.x.oth a o h g np
      refine x'.oth a o h1 g1 fun z => ?_
      rcases List.mem_append.mp z with y | y
      · rcases p.st.nw a ⟨s, y⟩ with y2 | y2
        · exact np y2
        · rw [h] at y2; cases y2
      · rcases p.nwv a y with y2 | y2
        · exact np y2
        · rw [h] at y2; cases y2
    · rcases h.up with y | ⟨j, _, y⟩
      · rcases n' a ⟨0, y⟩ with y2 | y2
        · rcases List.mem_append.mp y2 with y3 | y3
          · exact p.st.nw a ⟨s, y3⟩
          · exact p.nwv a y3
        · exact .inr (p.st.x.dom a y2)
      · exact p.st.nw a ⟨j, y⟩
  refine ⟨G1, w0 :: ws, fp1 s ++ fv, p.c.sg, by unfold Rws; exact ⟨v0, vs, fp1 s, fv, rfl, rfl, r0, p.r⟩, List.nodup_append.mpr ⟨p.c.nd s, p.nd, fun a ha b hb e => sepv b hb (e ▸ ha)⟩, by rw [List.length_cons]; exact hnp, ?_⟩
  cases z : df (w0 :: ws) with
  | bad => rw [z] at q; exact q.elim
  | exc x1 r1 =>
    rw [z] at q
    intro cls dd H' G' fp' c' x' n' xr
    obtain ⟨c1, s1⟩ := after c' x' n'
    exact q cls dd H' G' _ c1 s1 xr
  | ok w r1 =>
    rw [z] at q
    intro v H' G' fp' fr c' x' rv nd sep n'
    obtain ⟨c1, s1⟩ := after c' x' fun a h => n' a (.inr h)
    refine q v H' G' _ fr ⟨c1, s1, rv, nd, fun a ha h => ?_, fun a ha => ?_⟩
    · rcases h.up with y | ⟨j, hj, y⟩
      · exact sep a ha ⟨0, y⟩
      · rcases n' a (.inl ha) with y2 | y2
        · rcases List.mem_append.mp y2 with y3 | y3
          · exact hj (p.c.dis j s a y y3)
          · exact p.sep a y3 ⟨j, y⟩
        · obtain ⟨_, h1, _⟩ := p.c.own ⟨j, y⟩
          rw [h1] at y2; cases y2
    · rcases n' a (.inl ha) with y2 | y2
      · rcases List.mem_append.mp y2 with y3 | y3
        · exact p.st.nw a ⟨s, y3⟩
        · exact p.nwv a y3
      · exact .inr (p.st.x.dom a y2)
theorem se_callA (C : Cal X.prog X.w X.K X.mg X.base k np x df) (s : Nat) (hr : Room k X.A) (hgd : X.A.guards = some []) (tk : Takes X E) (ha : SAW X E es aw) (hlen : ∀ ρ ws r, aw ρ = .ok ws r → ws.length + 1 = np) (hN : X.N[s]? = some y := by rfl) (hv : Vis X.env.scope y := by first | exact Or.inl rfl | exact Or.inr (Or.inl rfl) | exact Or.inr (Or.inr rfl)) (hg : Gl X x := by rfl)
    (hdb : (x == ("__debug__" : Str)) = false := by decide) (hd2 : (y == ("__debug__" : Str)) = false := by decide) (hcd : (y == ("__classdict__" : Str)) = false := by decide)
    (he : starEach (.Name y p2 :: es) X.env = (false, eval (.Name y p2) X.env) :: starEach es X.env := by rfl) (hpl : (backTo pos (starEach es X.env)).any (·.1) = false := by rfl) : SE X E (.Call (.Name x p) (.Name y p2 :: es) [] pos) (sCallA df s aw) := by
  obtain ⟨f, fd, ps, F, hm, hk, hb⟩ := C.ex
  exact pe_sub (pe_callG F hr hgd hg hm hk hb tk (pa_cons (pe_var (i := s) hN hv hd2 hcd) ha he) hdb he hpl) fun σ H Q ⟨G, ρ, fp, c, q⟩ => by
    unfold sCallA at q
    split at q
    · rename_i w1 e1
      obtain ⟨v0, hv0, _⟩ := c.get s w1 e1
      refine ⟨v0, hv0, G, ρ, fp, c, ?_⟩
      cases z : aw ρ with
      | bad => rw [z] at q; exact q.elim
      | exc x1 r1 => rw [z] at q; exact q
      | ok ws r =>
        rw [z] at q
        intro vs H1 G1 fp1 fv pa
        have q2 : ResE X.K X.mg E H G fp σ Q (match r[s]? with | some (some w0) => (match df (w0 :: ws) with | .ok w rp => .ok w (r.set s (rp.getD 0 none)) | .exc x rp => .exc x (r.set s (rp.getD 0 none)) | .bad => .bad) | _ => .bad) := q
        split at q2
        · rename_i w0 e0
          exact callA_core (hlen ρ ws r z) pa e0 hv0 q2
        · exact q2.elim
    · exact q.elim
end
end FW

set_option Elab.async false
set_option linter.all false
set_option maxRecDepth 100000
set_option maxHeartbeats 1000001
namespace FW
open PySem PySem.Spec L2
section
variable {X : Cx} {E : WX} {M : Nat → Bool} {e a b c : Expr} {es : List Expr} {fa : ES} {pos p p2 : Pos} {x y z : Str} {k np : Nat} {f : Addr} {fd : FuncData} {ps ks : List Str} {sp : Sp} {df : DS} {aw : Rho → Out (List Wv)}
/-! ## repr of data -/
def pRepr : List D → Option Wv
  | [d] => if d.showable = true ∧ d.hasDict = false ∧ d.canLay0 = true ∧ d.depth ≤ 60 ∧ d.shown.length ≤ 1000000 then some (.d (.str d.shown)) else none
  | _ => none
theorem cr_repr (hr : Room k X.A) (hgd : X.A.guards = some []) : CallR X (.builtin "repr") (rC X.K X.mg E pRepr) := by
  intro pins s σ H vs us Q I r ⟨G, ρ, fp, σ', ds, cf, dr, q⟩
  unfold pRepr at q
  split at q
  · rename_i d
    split at q
    · rename_i h
      obtain ⟨h1, h2, h3, h4, h5⟩ := h
      obtain ⟨v, e1, hd⟩ := dr.one
      subst e1
      obtain ⟨u, rfl, ru⟩ := vals1 r; have hq : Q (.str d.shown) H := ResE.val cf Dr.str q
      have hun := hr.units
      cases d with
      | none => rw [hd.none_inv] at ru; cases ru; exact PySem.P.repr_of_none ⟨.str _, H, I.tok _, ⟨_, rfl⟩, hq⟩
      | bool b => rw [hd.bool_inv] at ru; cases ru; exact PySem.P.repr_of_bool ⟨.str _, H, I.tok _, ⟨_, rfl⟩, hq⟩
      | int i =>
        rw [hd.int_inv] at ru
        obtain ⟨t, rfl⟩ := ru
        exact PySem.P.repr_of_int (by simpa [PyData.showable] using h1) ⟨.str _, H, I.tok _, ⟨_, rfl⟩, hq⟩
      | str i =>
        rw [hd.str_inv] at ru
        obtain ⟨t, rfl⟩ := ru
        exact PySem.P.repr_of_str ⟨.str _, H, I.tok _, ⟨_, rfl⟩, hq⟩ (Nat.le_trans h5 line6)
      | list ds =>
        obtain ⟨as, rd⟩ := Dp.reads I _ v u (Dr.dp _ v h3 (cf.tr hd)) ru
        obtain ⟨a, xs, ev, _⟩ := hd.lst_inv
        subst ev
        cases ru
        exact repr_of_reads' rd h1 (fun z => by rw [h2] at z; cases z) hgd (by omega) (fun _ _ z => z) (fun h' u tk hk => ⟨.str _, H, I.kept (t' := tk) hk, ⟨_, rfl⟩, hq⟩) (Nat.le_trans h5 line6)
      | tuple ds =>
        obtain ⟨as, rd⟩ := Dp.reads I _ v u (Dr.dp _ v h3 (cf.tr hd)) ru
        obtain ⟨a, xs, ev, _⟩ := hd.tup_inv
        subst ev
        cases ru
        exact repr_of_reads' rd h1 (fun z => by rw [h2] at z; cases z) hgd (by omega) (fun _ _ z => z) (fun h' u tk hk => ⟨.str _, H, I.kept (t' := tk) hk, ⟨_, rfl⟩, hq⟩) (Nat.le_trans h5 line6)
      | dict kv => simp [PyData.hasDict] at h2
    · exact q.elim
  · exact q.elim
/-! ## x[lo:hi] of a slot that is not frozen -/
def cutW (w : Wv) (lo hi : Option Int) : Option Wv := match w with
  | .s ns => some (.o ((cutD ns lo hi).map fun i => .d (.int i)))
  | .d (.tuple ds) => some (.d (.tuple (cutD ds lo hi)))
  | .d (.list ds) => some (.o ((cutD ds lo hi).map .d))
  | _ => none
theorem cutV_map {α : Type} (f : α → V) (xs : List α) (lo hi : Option Int) : cutV (xs.map f) lo hi = (cutD xs lo hi).map f := by
  unfold cutV cutD
  rw [List.length_map, List.map_take, List.map_drop]
/-- script[:n] -/
def sCutS (s : Nat) (n : Int) : ES := fun ρ => match ρ[s]? with
  | some (some (.s ns)) => .ok (.o ((cutD ns none (some n)).map fun i => .d (.int i))) ρ
  | _ => .bad
theorem Drs.of_ints {K : Frg} {G : Hp} : ∀ ns : List Int, Drs K G (ns.map V.int) (ns.map .int)
  | [] => Drs.nil
  | n :: ns => Drs.cons Dr.int (Drs.of_ints ns)
theorem se_cutS (s : Nat) {n : Int} {j : Nat} {p1 : Pos} (hN : X.N[s]? = some x := by rfl) (hv : Vis X.env.scope x := by first | exact Or.inl rfl | exact Or.inr (Or.inl rfl) | exact Or.inr (Or.inr rfl)) (hd : (x == ("__debug__" : Str)) = false := by decide)
    (hcd : (x == ("__classdict__" : Str)) = false := by decide) : SE X E (.Subscript (.Name x p) (.Slice none (some (.Constant (.int n) j p1)) none p2) pos) (sCutS s n) :=
  pe_sub (pe_slice sl_list (pe_var hN hv hd hcd) po_none (po_some pe_int)) fun σ H Q ⟨G, ρ, fp, cf, q⟩ => by
    unfold sCutS at q
    split at q
    · rename_i ns e
      obtain ⟨v, hv, hr⟩ := cf.get s _ e
      unfold Rw at hr
      obtain ⟨_, a, ev, hq⟩ := hr
      refine ⟨v, hv, n, rfl, a, ns.map V.int, ev, cf.sg.seq hq, ?_⟩
      rw [cutV_map]
      have q' : ResE X.K X.mg E H G fp σ Q (.ok (.o (((cutD ns none (some n)).map .int).map .d)) ρ) := by rw [List.map_map]; exact q
      exact ResE.lst cf (Drs.of_ints _) q'
    · exact q.elim
/-! ## keywords alone -/
def pick {α : Type} (is : List Nat) (l : List α) : List α := is.filterMap (l[·]?)
theorem Drs.pick {K : Frg} {G : Hp} {vs : List V} {ds : List D} (h : Drs K G vs ds) : ∀ is : List Nat, Drs K G (FW.pick is vs) (FW.pick is ds)
  | [] => Drs.nil
  | i :: is => by
    unfold FW.pick
    cases e : ds[i]? with
    | none =>
      have e2 : vs[i]? = none := by rw [List.getElem?_eq_none_iff] at e ⊢; rw [h.length]; exact e
      rw [List.filterMap_cons, List.filterMap_cons]
      simp only [e, e2]
      exact h.pick is
    | some d =>
      obtain ⟨v, e2, hd⟩ := h.get e
      rw [List.filterMap_cons, List.filterMap_cons]
      simp only [e, e2]
      exact Drs.cons hd (h.pick is)
theorem vals_len {zs : List V} {ws : List Value} (h : Vals zs ws) : zs.length = ws.length := h.length
theorem vals_get : ∀ {zs : List V} {ws : List Value} {i : Nat}, Vals zs ws → (zs[i]? = none ∧ ws[i]? = none) ∨ ∃ z u, zs[i]? = some z ∧ ws[i]? = some u ∧ RelV z u
  | _, _, _, .nil => .inl ⟨rfl, rfl⟩
  | _, _, 0, .cons a r => .inr ⟨_, _, rfl, rfl, a⟩
  | _, _, i + 1, .cons a r => by simpa using vals_get (i := i) r
theorem vals_pick {zs : List V} {ws : List Value} (h : Vals zs ws) : ∀ is : List Nat, Vals (pick is zs) (pick is ws)
  | [] => .nil
  | i :: is => by
    unfold pick
    rw [List.filterMap_cons, List.filterMap_cons]
    rcases vals_get (i := i) h with ⟨e1, e2⟩ | ⟨z, u, e1, e2, r⟩
    · simp only [e1, e2]; exact vals_pick h is
    · simp only [e1, e2]; exact .cons r (vals_pick h is)
structure KB (K : Frg) (fd : FuncData) (ps ks : List Str) (is : List Nat) : Prop where
  to : ∀ (s : Shared) (ws : List Value), K.In s.heap → ws.length = ks.length → BindsTo s fd ⟨[], ks.zip ws⟩ (ps.zip (pick is ws))
structure CalK (P : Program) (w : World) (K : Frg) (mg : Mg) (base : Heap) (k np : Nat) (x : Str) (df : DS) (ks : List Str) (is : List Nat) : Prop where
  ex : ∃ (f : Addr) (fd : FuncData) (ps : List Str), FnG P w K mg base k f fd ps (spD K mg np df) ∧ mg x = some (.ref f) ∧ PySem.W.keepIn K (.ref f) = true ∧ KB K fd ps ks is
theorem pe_callKG {kws : List Keyword} {t : TA} {is : List Nat} {ww : Keyword} (F : FnG X.prog X.w X.K X.mg X.base k f fd ps sp) (hr : Room k X.A) (hgd : X.A.guards = some []) (hg : Gl X x) (hm : X.mg x = some (.ref f)) (hk : PySem.W.keepIn X.K (.ref f) = true) (hb : KB X.K fd ps ks is) (tk : Takes X E)
    (hkw : PK X (ww :: kws) t) (hall : (backToKw pos (keywordEach (ww :: kws) X.env)).all (·.1.isSome) = true := by rfl) (hks : (backToKw pos (keywordEach (ww :: kws) X.env)).filterMap (·.1) = ks := by rfl)
    (hdb : (x == ("__debug__" : Str)) = false := by decide) (hpl : ((backTo pos (starEach [] X.env)).any (·.1) || (backToKw pos (keywordEach (ww :: kws) X.env)).any (·.1.isNone)) = false := by rfl) :
    PE X (.Call (.Name x p) [] (ww :: kws) pos) (fun σ H Q => t σ H fun vs H1 => vs.length = ks.length ∧ sp (pick is vs) H1 Q (fun cls d H' => E cls d σ H')) := by
  refine ⟨fun pins s σ H Q I h => ?_⟩; refine wpAny_Call_Name_kw (ld_glob I hg hm ?_ hdb)
  refine PySem.W.callWith_KW0 (h₀ := X.base) I.ok.mod.kin hk hall (thn (hkw.run pos pins s σ H _ I h) fun ws s2 ⟨zs, H2, I2, rz, hl, q2⟩ => ⟨I2.kIn, ?_⟩) hpl
  rw [hks]
  have hz := vals_pick rz is
  have h2 : ws.length = ks.length := by rw [← rz.length]; exact hl
  refine wpAny_call (codeAny_mono (F.run X.A X.stack s2 H2 ⟨[], ks.zip ws⟩ (pick is ws) (pick is zs) Q _ hr hgd I2.env0 (hb.to s2 ws I2.kIn h2) hz q2) fun res s' hq => ?_)
  cases res with
  | error ev => exact passAt tk σ pins H2 s2 ev s' I2 hq
  | ok fl =>
    cases fl with
    | ret u => exact I2.after hq
    | next => exact hq.elim
    | brk => exact hq.elim
    | cont => exact hq.elim
def SK (X : Cx) (E : WX) (kws : List Keyword) (f : Rho → Out (List D)) : Prop := PK X kws (tA X.K X.mg E f)
theorem sk_nil : SK X E [] aNil := ⟨fun pos pins s σ H Q I ⟨G, ρ, fp, c, q⟩ => (pk_nil (X := X)).run pos pins s σ H Q I (q [] H G fp c .refl Drs.nil)⟩
theorem sk_cons {nm : Option Str} {kpos : Pos} {kws : List Keyword} {g : ES} {fs : Rho → Out (List D)} (ha : SE X E e g) (hr : SK X E kws fs) : SK X E (⟨nm, e, kpos⟩ :: kws) (aCons g fs) :=
  ⟨fun pos pins s σ H Q I ⟨G, ρ, fp, c, q⟩ => (pk_cons ha.D hr).run pos pins s σ H Q I ⟨G, ρ, fp, c, seqD q fun d r v H1 G1 fp1 c1 s1 d1 q1 =>
    ⟨G1, r, fp1, c1, seqA (ResA.rebase s1 c1.sg q1) fun ds r2 vs H2 G2 fp2 c2 s2 d2 q2 => q2 _ _ _ _ c2 s2 (Drs.cons (Dr.mono s2.x.sg d v d1) d2)⟩⟩⟩
/-- f(k = e, ..) -/
def sCallK (df : DS) (n : Nat) (is : List Nat) (aw : Rho → Out (List D)) : ES := fun ρ => (aw ρ).bind fun ds r => if ds.length = n then (match df ((pick is ds).map .d) with
  | .ok w _ => .ok w r
  | .exc x _ => .exc x r
  | .bad => .bad) else .bad
theorem se_callK {kws : List Keyword} {is : List Nat} {ww : Keyword} {aw : Rho → Out (List D)} (C : CalK X.prog X.w X.K X.mg X.base k np x df ks is) (hr : Room k X.A) (hgd : X.A.guards = some []) (tk : Takes X E) (ha : SK X E (ww :: kws) aw) (hnp : ∀ ds : List D, ds.length = ks.length → (pick is ds).length = np) (hg : Gl X x := by rfl)
    (hall : (backToKw pos (keywordEach (ww :: kws) X.env)).all (·.1.isSome) = true := by rfl) (hks : (backToKw pos (keywordEach (ww :: kws) X.env)).filterMap (·.1) = ks := by rfl)
    (hdb : (x == ("__debug__" : Str)) = false := by decide) (hpl : ((backTo pos (starEach [] X.env)).any (·.1) || (backToKw pos (keywordEach (ww :: kws) X.env)).any (·.1.isNone)) = false := by rfl) : SE X E (.Call (.Name x p) [] (ww :: kws) pos) (sCallK df ks.length is aw) := by
  obtain ⟨f, fd, ps, F, hm, hk, hb⟩ := C.ex
  exact pe_sub (pe_callKG F hr hgd hg hm hk hb tk ha hall hks hdb hpl) fun σ H Q ⟨G, ρ, fp, c, q⟩ => ⟨G, ρ, fp, c, seqA q fun ds r vs H1 G1 fp1 c1 s1 d1 q1 => by
    split at q1
    · rename_i hl
      refine ⟨by rw [d1.length]; exact hl, callW_core (fv := []) (by rw [List.length_map]; exact hnp ds hl) ⟨c1, s1, Rws.of_drs (d1.pick is), List.nodup_nil, (fun _ z => nomatch z), (fun _ z => nomatch z)⟩ q1⟩
    · exact q1.elim⟩
/-! ## code that is not reached; module constants; what a def's frame grants -/
def sBad : SSem := fun _ => .bad
theorem s1_never {st : Stmt} : S1 X E M st sBad := ps_sub ps_never fun _ _ _ ⟨_, _, _, _, q⟩ => q
def eBad : ES := fun _ => .bad
def GlobD (K : Frg) (mg : Mg) (x : Str) (d : D) : Prop := ∃ u v, mg x = some u ∧ RelV v u ∧ ∀ G, Dr K G v d
theorem se_cst {d : D} (h : GlobD X.K X.mg x d) (hg : Gl X x := by rfl) (hd : (x == ("__debug__" : Str)) = false := by decide) : SE X E (.Name x pos) (sK d) := by
  obtain ⟨u, v, hm, r, dr⟩ := h
  exact se_glob hm r dr hg hd
def m0 : Nat → Bool
  | 0 => true
  | _ => false
def mF : Nat → Bool := fun _ => false
theorem tk_EF : Takes X EF := fun u s' ⟨_, _, _, _, _, _, _, _, _, _, _, _, _, _, _, _, w⟩ => w.elim
theorem tk_def {P : Program} {w : World} {K : Frg} {mg : Mg} {base : Heap} {N : List Str} {qual : Str} {scope : Scope} {f : Addr} {cd : Value} {A : Around} {outer : List Env} {s : Shared} {H : Hp} {E : XK} : Takes (cxOf (L2.CX P w) P w K mg base N qual scope f cd A outer s H E) (fun cls d _ H => E cls d H) := takes_of rfl rfl rfl rfl
theorem ps_def {P : Program} {w : World} {K : Frg} {mg : Mg} {base : Heap} {N : List Str} {qual : Str} {scope : Scope} {f : Addr} {cd : Value} {A : Around} {outer : List Env} {s : Shared} {H : Hp} {E : XK} : PassesOwn (model P w) (A.deeper (PyProof.Rows.envOfC qual scope s.heap.objs.size f cd)) (PyProof.Rows.envOfC qual scope s.heap.objs.size f cd) (cxOf (L2.CX P w) P w K mg base N qual scope f cd A outer s H E).xe := passes_of (X := cxOf (L2.CX P w) P w K mg base N qual scope f cd A outer s H E) rfl
end
end FW

set_option Elab.async false
set_option linter.all false
set_option maxRecDepth 100000
set_option maxHeartbeats 1000001
namespace FW
open PySem PySem.Spec L2
section
variable {X : Cx} {E : WX} {M : Nat → Bool} {e a b c : Expr} {f fi : ES} {pos p2 : Pos} {x : Str}
/-- x[i] = e, i any expression -/
def sSetE (s : Nat) (fi f : ES) : SSem := fun ρ => (fz (f ρ)).bind fun d r => match r[s]? with
  | some (some _) => (fz (fi r)).bind fun i r2 => match i, r2[s]? with
    | .int k, some (some w0) => (match setW w0 k (.d d) with
      | some w1 => .ok .nx (r2.set s (some w1))
      | none => .bad)
    | _, _ => .bad
  | _ => .bad
theorem s1_setE (s : Nat) (he : SE X E e f) (hi : SE X E a fi) (hN : X.N[s]? = some x := by rfl) (hv : Vis X.env.scope x := by first | exact Or.inl rfl | exact Or.inr (Or.inl rfl) | exact Or.inr (Or.inr rfl)) (hd : (x == ("__debug__" : Str)) = false := by decide)
    (hcd : (x == ("__classdict__" : Str)) = false := by decide)
    (hg : ∀ v, assign (.Subscript (.Name x p2) a pos) X.env v = (do
      let ov ← holding [v] (eval (.Name x p2) X.env)
      let iv ← holding [v, ov] (eval a X.env)
      standAt pos
      (holding [v, ov, iv] (setItem ov iv v))
      release [v, ov, iv] []) := by intro _; rfl) {pos' : Pos} (hs : swapsWithSole [.Subscript (.Name x p2) a pos] e pos'.line X.env = pure false := by rfl) (hw : swappedStores [.Subscript (.Name x p2) a pos] e X.env = pure none := by rfl) (h1 : (assignEach [.Subscript (.Name x p2) a pos] X.env).map (·.2) = [assign (.Subscript (.Name x p2) a pos) X.env] := by rfl) :
    S1 X E M (.Assign [.Subscript (.Name x p2) a pos] e pos') (sSetE s fi f) :=
  ps_sub (ps_asg he.D (L2.pg_sub (pe_var hN hv hd hcd) hi.D set_list hg) hs hw h1) fun D σ H ⟨G, ρ, fp, c, q⟩ => ⟨G, ρ, fp, c, seqDS q fun d r v H1 G1 fp1 c1 s1 d1 q1 => by
    split at q1
    · rename_i w1 e1
      obtain ⟨vs, hvs, _⟩ := c1.get s w1 e1
      refine ⟨vs, hvs, G1, r, fp1, c1, seqDS (ResS.rebase s1 .refl c1.sg q1) fun i r2 vi H2 G2 fp2 c2 s2 d2 q2 => ?_⟩
      split at q2
      · rename_i k w0 e0
        split at q2
        · rename_i w2 z
          obtain ⟨p, xs, j, fp', hp, hh, hj, c3, x3, n3⟩ := set_core c2 e0 z (show Rw X.K H2 G2 v (.d d) [] by unfold Rw; exact ⟨rfl, Dr.mono s2.x.sg d v d1⟩) List.nodup_nil (fun _ z => nomatch z)
          rw [hvs] at hp
          cases hp
          have no : ∀ y, Own fp2 y ∨ y ∈ ([] : List Addr) → Own fp2 y := fun y h => h.elim id fun z => nomatch z
          refine ⟨p, xs, k, j, rfl, d2.int_inv, hh, hj, q2 σ _ G2 fp' c3 ⟨⟨s2.x.sg, fun y o h g np => ?_, fun y h => s2.x.dom y (x3.dom y h)⟩, fun y h => ?_⟩ .refl⟩
          · obtain ⟨h1, g1⟩ := s2.x.oth y o h g np
            refine x3.oth y o h1 g1 fun hy => ?_
            rcases s2.nw y (no y hy) with q | q
            · exact np q
            · rw [h] at q; cases q
          · exact s2.nw y (no y (n3 y h))
        · exact q2.elim
      · exact q2.elim
    · exact q1.elim⟩
/-- a slot's value with all it owns: the slot's content is known no more -/
def sMove (i : Nat) : ES := fun ρ => match ρ[i]? with
  | some (some w) => .ok w (ρ.set i none)
  | _ => .bad
theorem se_move (i : Nat) (hN : X.N[i]? = some x := by rfl) (hv : Vis X.env.scope x := by first | exact Or.inl rfl | exact Or.inr (Or.inl rfl) | exact Or.inr (Or.inr rfl)) (hd : (x == ("__debug__" : Str)) = false := by decide)
    (hcd : (x == ("__classdict__" : Str)) = false := by decide) : SE X E (.Name x pos) (sMove i) :=
  pe_sub (pe_var hN hv hd hcd) fun σ H Q ⟨G, ρ, fp, c, q⟩ => by
    unfold sMove at q
    split at q
    · rename_i w e
      obtain ⟨v, e1, r⟩ := c.get i w e
      have hi : i < ρ.length := (List.getElem?_eq_some_iff.mp e).1
      have c1 : Cfg X.K H G (σ.set i (some v)) (ρ.set i Option.none) (upF fp i []) := c.put (fun w e => nomatch e) (fun _ => rfl) List.nodup_nil (fun _ z => nomatch z) hi
      rw [set_same e1] at c1
      refine ⟨v, e1, q v H G (upF fp i []) (fp i) ⟨c1, Step.less, r, c.nd i, fun a ha h => ?_, fun a ha => .inl ⟨i, ha⟩⟩⟩
      rcases h.up with z | ⟨j, hj, z⟩
      · cases z
      · exact hj (c.dis j i a z ha)
    · exact q.elim
/-- targets = a value of data -/
def sAsgD (t : TgF) (f : ES) : SSem := fun ρ => (fz (f ρ)).bind fun d r => (ofO (t d r) r).bind fun r' _ => .ok .nx r'
theorem s1_asgD {tg : Expr} {t : TgF} (he : SE X E e f) (ht : SG X M tg t) (hs : swapsWithSole [tg] e pos.line X.env = pure false := by rfl) (hw : swappedStores [tg] e X.env = pure none := by rfl) (h1 : (assignEach [tg] X.env).map (·.2) = [assign tg X.env] := by rfl) : S1 X E M (.Assign [tg] e pos) (sAsgD t f) :=
  ps_sub (ps_asg he.D ht hs hw h1) fun D σ H ⟨G, ρ, fp, c, q⟩ => ⟨G, ρ, fp, c, seqDS q fun d r v H1 G1 fp1 c1 s1 d1 q1 => by
    cases z : t d r with
    | none => rw [z] at q1; exact q1.elim
    | some ρ' =>
      rw [z] at q1
      exact ⟨G1, r, fp1, d, ρ', c1, d1, z, fun σ' fp' c' s' k' => q1 σ' H1 G1 fp' c' (s1.trans s' c1.sg) k'⟩⟩
end
end FW
namespace FW
open PySem PySem.Spec L2
theorem room64 {k : Nat} {A : Around} (h : Room k A) : A.units + 64 < cLine := by have := h.un; omega
theorem room65 {k : Nat} {A : Around} (h : Room k A) : A.units + 65 < cLine := by have := h.un; omega
theorem bt_len : bootBuiltins "len" = some (.builtin "len") := by decide +kernel
theorem bt_int : bootBuiltins "int" = some (.type "int") := by decide +kernel
theorem bt_bool : bootBuiltins "bool" = some (.type "bool") := by decide +kernel
theorem bt_str : bootBuiltins "str" = some (.type "str") := by decide +kernel
theorem bt_tuple : bootBuiltins "tuple" = some (.type "tuple") := by decide +kernel
theorem bt_list : bootBuiltins "list" = some (.type "list") := by decide +kernel
theorem bt_dict : bootBuiltins "dict" = some (.type "dict") := by decide +kernel
theorem bt_set : bootBuiltins "set" = some (.type "set") := by decide +kernel
theorem bt_range : bootBuiltins "range" = some (.type "range") := by decide +kernel
theorem bt_all : bootBuiltins "all" = some (.builtin "all") := by decide +kernel
theorem bt_any : bootBuiltins "any" = some (.builtin "any") := by decide +kernel
theorem bt_sum : bootBuiltins "sum" = some (.builtin "sum") := by decide +kernel
theorem bt_abs : bootBuiltins "abs" = some (.builtin "abs") := by decide +kernel
theorem bt_max : bootBuiltins "max" = some (.builtin "max") := by decide +kernel
theorem bt_min : bootBuiltins "min" = some (.builtin "min") := by decide +kernel
theorem bt_repr : bootBuiltins "repr" = some (.builtin "repr") := by decide +kernel
theorem bt_isinstance : bootBuiltins "isinstance" = some (.builtin "isinstance") := by decide +kernel
theorem bt_sorted : bootBuiltins "sorted" = some (.builtin "sorted") := by decide +kernel
end FW

set_option Elab.async false
set_option linter.all false
set_option maxRecDepth 100000
set_option maxHeartbeats 1000001
namespace FW
open PySem PySem.Spec L2 PyProof.Rows 
/-! ## the end of a law -/
/-- a def that answers True on this script, run by the caller -/
theorem law_runG {P : Program} {w : World} {K : Frg} {mg mb : Mg} {k : Nat} {fa a : Addr} {fd : FuncData} {x : Str} {df : DS} {sh : Shared} {vals : List Value} {ns : List Int} {rr : Rho}
    (inK : K.In sh.heap) (nsg : sh.heap.Ns mainGlobals mg) (nsb : sh.heap.Ns builtinsNs mb) (bb : ∀ x : Str, x ≠ "__name__" → mb x = bootBuiltins x) (nl : sh.heap.NoLimit) (gz : sh.gens = #[])
    (at_a : sh.heap.get? a = some { cls := .type "list", data := .seq vals.toArray }) (ii : IntsAre vals ns) (le : ns.length ≤ sizeLine) (rm : Room k callerA)
    (F : ∀ base : Heap, K.In base → base.Ns mainGlobals mg → FnG P w K mg base k fa fd [x] (spD K mg 1 df)) (bnd : ∀ (s : Shared) (u : Value), BindsTo s fd ⟨[u], []⟩ [(x, u)])
    (ans : df [.s ns] = .ok (.d (.bool true)) rr) :
    codeAny (model P w) callerA (.call (.ref fa) ⟨[.ref a], []⟩) (fun r t => r = .ok (.ret (.bool true)) ∧ OldK sh.heap t.heap ∧ t.os = sh.os ∧ AllBare t.gens) sh := by
  have rel := vals_ints ii
  have ll := ii.length
  suffices go : ∀ T : Hp, Only T → SqL K T a (ns.map V.int) → HOk P w T sh.heap → (∀ b, T b ≠ none → b = a) → (T a ≠ none → K.lookup a = none) →
      codeAny (model P w) callerA (.call (.ref fa) ⟨[.ref a], []⟩) (fun r t => r = .ok (.ret (.bool true)) ∧ OldK sh.heap t.heap ∧ t.os = sh.os ∧ AllBare t.gens) sh by
    cases look : K.lookup a with
    | some ob =>
      have same := inK a ob look
      rw [at_a] at same
      cases same
      refine go (fun _ => none) (fun _ => .inl rfl) (.inr ⟨_, vals.toArray, _, look, rfl, rfl, rfl, ?_, by simpa using rel⟩) (fun b u z => nomatch (show (none : Option HO) = some u from z)) (fun b z => (z rfl).elim) fun z => (z rfl).elim
      rw [List.size_toArray, ll]; exact le
    | none =>
      let T : Hp := fun b => if b = a then some (.frz { cls := .type "list", data := .seq vals.toArray } (.lst (ns.map V.int))) else none
      have ta : T a = some (.frz { cls := .type "list", data := .seq vals.toArray } (.lst (ns.map V.int))) := if_pos rfl
      have tn : ∀ b, b ≠ a → T b = none := fun b n => if_neg n
      refine go T (fun b => ?_) (.inl (.inr ⟨_, ta⟩)) (fun b u z => ?_) (fun b z => ?_) fun _ => look
      · by_cases e : b = a
        · subst e; exact .inr ⟨_, _, ta⟩
        · exact .inl (tn b e)
      · by_cases e : b = a
        · subst e
          rw [ta] at z
          cases z
          exact ⟨at_a, by rw [List.length_map]; exact le, vals, _, rel, at_a⟩
        · rw [tn b e] at z; cases z
      · by_cases e : b = a
        · exact e
        · exact (z (tn b e)).elim
  intro T only seq ok single outside
  have free : ∀ b : Addr, b ≠ a → T b = none := fun b n => by
    cases q : T b with
    | none => rfl
    | some u => exact (n (single b (by rw [q]; exact Option.some_ne_none u))).elim
  have dicts : ∀ {b : Addr} {m : Str → Option Value}, sh.heap.Ns b m → (hidT sh.heap T).Ns b m := fun {b m} ⟨o, es, ep, g, d, r⟩ => by
    refine ⟨o, es, ep, hidT_get g (free b fun e => ?_), d, r⟩
    subst e
    rw [at_a] at g
    cases g
    exact nomatch (show Data.seq vals.toArray _ = Data.dict es ep from d)
  have inB : K.In (hidT sh.heap T) := fun b o l => by
    refine hidT_get (inK b o l) ?_
    cases q : T b with
    | none => rfl
    | some u =>
      have e : b = a := single b (by rw [q]; exact Option.some_ne_none u)
      subst e
      have no := outside (by rw [q]; exact Option.some_ne_none u)
      rw [no] at l; cases l
  obtain ⟨mc, c1, c2⟩ := nl
  have md : Mod K mg (hidT sh.heap T) := ⟨inB, dicts nsg, ⟨mb, dicts nsb, bb⟩, ⟨mc, dicts c1, c2⟩⟩
  have start : Env0 P w K mg (hidT sh.heap T) callerA [] sh T := ⟨rfl, md, fun b o e => of_hidT e, Nat.le_of_eq (hidT_size _ _), trivial, (fun _ z => nomatch z), ok, .of_eq gz⟩
  have prm : spD K mg 1 df [.ref a] T (fun v _ => v = .bl true) fun _ _ _ => False := by
    refine ⟨T, [.s ns], [], Same.refl T, ?_, List.nodup_nil, rfl, ?_⟩
    · unfold Rws
      refine ⟨.ref a, [], [], [], rfl, rfl, ?_, ?_⟩
      · unfold Rw; exact ⟨rfl, a, rfl, seq⟩
      · unfold Rws; exact ⟨rfl, rfl⟩
    · rw [ans]
      intro v H' G' fp' fr _ _ r _ _ _
      unfold Rw at r
      exact r.2.bool_inv
  refine codeAny_mono ((F _ inB (dicts nsg)).run callerA [] sh T ⟨[.ref a], []⟩ [.ref a] [.ref a] _ _ rm rfl start (bnd sh (.ref a)) (.cons rfl .nil) prm) fun r t got => ?_
  cases r with
  | error e =>
    obtain ⟨_, _, _, _, _, _, _, _, _, _, _, _, no⟩ := got
    exact no.elim
  | ok fl =>
    cases fl with
    | next => exact got.elim
    | brk => exact got.elim
    | cont => exact got.elim
    | ret u =>
      obtain ⟨v, T', o1, b1, un, ok', rv, ev⟩ := got
      have ev : v = .bl true := ev
      subst ev
      obtain rfl : u = Value.bool true := rv
      refine ⟨rfl, OldK.of_keep fun b o g => ?_, o1, b1⟩
      rcases only b with q | ⟨ob, xs, q⟩
      · exact un.keep b o g q (fun z => nomatch z) (fun z => nomatch z)
      · obtain ⟨g1, _⟩ := ok b _ q
        obtain ⟨g2, _⟩ := ok' b _ (un.frzs b ob _ q)
        rw [g] at g1; cases g1
        exact g2
theorem walk_G {l : PySem.W.OpenLaw} {n k : Nat} {q : Program} {loose : List Str} {XP : (Str → Option Value) → Heap → Prop} {YP : World → Heap → Prop} {d : DefRec} {K : Params → Frg} {df : DS} {x : Str}
    (most : l.most = some n) (small : n ≤ sizeLine) (plain : d.params.defaults = []) (rm : Room k callerA) (inY : ∀ (w : World) (h : Heap), YP w h → (K w.params).In h)
    (F : ∀ (w : World) (mg : Mg) (fa : Addr) (h : Heap), (K w.params).In h → h.Ns mainGlobals mg → mg d.name = some (.ref fa) →
      ∃ fd : FuncData, (∀ (s : Shared) (u : Value), BindsTo s fd ⟨[u], []⟩ [(x, u)]) ∧ ∀ base : Heap, (K w.params).In base → base.Ns mainGlobals mg → FnG l.prog w (K w.params) mg base k fa fd [x] (spD (K w.params) mg 1 df))
    (ans : ∀ ns : List Int, ns.length ≤ n → ∃ rr, df [.s ns] = .ok (.d (.bool true)) rr) : PySem.W.WalkO q loose XP YP l.row.toRowW d [] (fun f vs => PySem.call f vs) := by
  refine Att.attach_call most plain fun w t0 t1 mg mb fa o pm cd doc a vs ns G Y ho hd hcd hmg hobj hints hlen hg => ?_
  obtain ⟨fd, hb, hF⟩ := F w mg fa _ (inY w _ Y) G.T.g hmg
  obtain ⟨rr, e⟩ := ans ns hlen
  exact law_runG (inY w _ Y) G.T.g G.T.b G.T.builtins G.T.nolimit hg hobj hints (Nat.le_trans hlen small) rm hF hb e
end FW
namespace FW
open PySem PySem.Spec L2
section
variable {K : Frg} {h : Heap} {mg : Mg} {x : Str}
theorem gd_int {i : Int} {t : Tok} (X : K.In h) (G : h.Ns mainGlobals mg) (a : PySem.W.nsIn K mainGlobals x = some (some (.int i t))) : GlobD K mg x (.int i) := ⟨_, .int i, PySem.W.mg_of X G a, ⟨t, rfl⟩, fun _ => Dr.int⟩
theorem gd_str {i : Str} {t : Tok} (X : K.In h) (G : h.Ns mainGlobals mg) (a : PySem.W.nsIn K mainGlobals x = some (some (.str i t))) : GlobD K mg x (.str i) := ⟨_, .str i, PySem.W.mg_of X G a, ⟨t, rfl⟩, fun _ => Dr.str⟩
theorem gd_two {f : Addr} {i j : Int} {t u : Tok} {n : Nat} {dd : Option Addr} {sl : Array (Option Value)} (X : K.In h) (G : h.Ns mainGlobals mg) (a : PySem.W.nsIn K mainGlobals x = some (some (.ref f))) (l : K.lookup f = some ⟨.type "tuple", dd, .seq #[.int i t, .int j u] n, sl⟩) : GlobD K mg x (.tuple [.int i, .int j]) :=
  ⟨_, .ref f, PySem.W.mg_of X G a, rfl, fun _ => Dr.tup (xs := [.int i, .int j]) (.inr ⟨_, _, _, l, rfl, rfl, (by rw [sizeLine_eq]; show 2 ≤ _; decide), .cons ⟨t, rfl⟩ (.cons ⟨u, rfl⟩ .nil)⟩) (Drs.cons Dr.int (Drs.cons Dr.int Drs.nil))⟩
end
end FW

set_option Elab.async false
set_option linter.all false
set_option maxRecDepth 100000
set_option maxHeartbeats 1000001
namespace FW
open PySem PySem.Spec L2
/-! ## what a meaning gives: o ends well, with P -/
def Gs {α : Type} (o : Out α) (P : α → Rho → Prop) : Prop := match o with
  | .ok a r => P a r
  | _ => False
@[simp] theorem Gs_ok {α : Type} {a : α} {r : Rho} {P : α → Rho → Prop} : Gs (.ok a r) P = P a r := rfl
@[simp] theorem Gs_bad {α : Type} {P : α → Rho → Prop} : Gs .bad P = False := rfl
@[simp] theorem Gs_exc {α : Type} {x : Xn} {r : Rho} {P : α → Rho → Prop} : Gs (.exc x r) P = False := rfl
@[simp] theorem Gs_bind {α β : Type} {o : Out α} {k : α → Rho → Out β} {P : β → Rho → Prop} : Gs (o.bind k) P = Gs o fun a r => Gs (k a r) P := by cases o <;> rfl
theorem Gs.mono {α : Type} {o : Out α} {P Q : α → Rho → Prop} (h : Gs o P) (f : ∀ a r, P a r → Q a r) : Gs o Q := by
  cases o with
  | ok a r => exact f a r h
  | exc _ _ => exact h
  | bad => exact h
theorem Gs.ex {α : Type} {o : Out α} {P : α → Rho → Prop} (h : Gs o P) : ∃ a r, o = .ok a r ∧ P a r := by
  cases o with
  | ok a r => exact ⟨a, r, rfl, h⟩
  | exc _ _ => exact h.elim
  | bad => exact h.elim
theorem Gs.of {α : Type} {o : Out α} {a : α} {r : Rho} {P : α → Rho → Prop} (e : o = .ok a r) (h : P a r) : Gs o P := by rw [e]; exact h
@[simp] theorem Gs_ite {α : Type} {c : Prop} [Decidable c] {a b : Out α} {P : α → Rho → Prop} : Gs (if c then a else b) P = if c then Gs a P else Gs b P := by split <;> rfl
@[simp] theorem Gs_ofO {α : Type} {o : Option α} {r : Rho} {P : α → Rho → Prop} : Gs (ofO o r) P = ∃ a, o = some a ∧ P a r := by cases o <;> simp
@[simp] theorem Gs_fz {o : Out Wv} {P : D → Rho → Prop} : Gs (fz o) P = Gs o fun w r => w.nos = true ∧ P w.dat r := by
  cases o with
  | ok w r =>
    unfold fz
    rw [Out.bind_ok]
    by_cases h : w.nos = true
    · rw [if_pos h]; simp [h]
    · rw [if_neg h]; simp [h]
  | exc _ _ => rfl
  | bad => rfl
@[simp] theorem nos_d {d : D} : (Wv.d d).nos = true := by unfold Wv.nos; rfl
@[simp] theorem dat_d {d : D} : (Wv.d d).dat = d := by unfold Wv.dat; rfl
theorem nos_o_ds {ds : List D} : (Wv.o (ds.map .d)).nos = true := by
  unfold Wv.nos
  induction ds with
  | nil => simp [Wv.noss]
  | cons d ds ih => simp [Wv.noss, ih]
theorem dat_o_ds {ds : List D} : (Wv.o (ds.map .d)).dat = .list ds := by
  unfold Wv.dat
  congr 1
  induction ds with
  | nil => simp [Wv.dats]
  | cons d ds ih => simp [Wv.dats, ih]
@[simp] theorem nos_o {ws : List Wv} : (Wv.o ws).nos = Wv.noss ws := by rw [Wv.nos]
@[simp] theorem dat_o {ws : List Wv} : (Wv.o ws).dat = .list (Wv.dats ws) := by rw [Wv.dat]
@[simp] theorem noss_nil : Wv.noss [] = true := by rw [Wv.noss]
@[simp] theorem noss_cons {w : Wv} {ws : List Wv} : Wv.noss (w :: ws) = (w.nos && Wv.noss ws) := by rw [Wv.noss]
@[simp] theorem dats_nil : Wv.dats [] = [] := by rw [Wv.dats]
@[simp] theorem dats_cons {w : Wv} {ws : List Wv} : Wv.dats (w :: ws) = w.dat :: Wv.dats ws := by rw [Wv.dats]
@[simp] theorem noss_map {ds : List D} : Wv.noss (ds.map .d) = true := by induction ds <;> simp_all
@[simp] theorem dats_map {ds : List D} : Wv.dats (ds.map .d) = ds := by induction ds <;> simp_all
@[simp] theorem noss_mapf {α : Type} {f : α → D} {ds : List α} : Wv.noss (ds.map fun x => .d (f x)) = true := by induction ds <;> simp_all
@[simp] theorem dats_mapf {α : Type} {f : α → D} {ds : List α} : Wv.dats (ds.map fun x => .d (f x)) = ds.map f := by induction ds <;> simp_all
section
variable {f fa fb fc fi : ES} {g h : Rho → Out Bool} {fs : Rho → Out (List D)} {aw : Rho → Out (List Wv)} {ρ : Rho} {P : Wv → Rho → Prop} {PB : Bool → Rho → Prop} {PD : List D → Rho → Prop} {PL : List Wv → Rho → Prop} {PF : Fl → Rho → Prop} {p : D → D → Option Wv} {i n s : Nat} {d : D}
@[simp] theorem w_sK : Gs (sK d ρ) P = P (.d d) ρ := rfl
@[simp] theorem w_sVar : Gs (sVar i ρ) P = ∃ w, ρ[i]? = some (some w) ∧ w.nos = true ∧ P (.d w.dat) (ρ.set i (some (.d w.dat))) := by
  unfold sVar
  split
  · rename_i w e; rw [Gs_ite]; simp [e]
  · rename_i h; simp; exact fun w e => (h w e).elim
@[simp] theorem w_move : Gs (sMove i ρ) P = ∃ w, ρ[i]? = some (some w) ∧ P w (ρ.set i none) := by
  unfold sMove
  split
  · rename_i w e; simp [e]
  · rename_i h; simp; exact fun w e => (h w e).elim
@[simp] theorem w_sBin : Gs (sBin p fa fb ρ) P = Gs (fa ρ) fun x r => x.nos = true ∧ Gs (fb r) fun y r => y.nos = true ∧ ∃ a, p x.dat y.dat = some a ∧ P a r := by
  unfold sBin; simp
@[simp] theorem w_sT : Gs (sT f ρ) PB = Gs (f ρ) fun x r => x.nos = true ∧ ∃ b, boolD x.dat = some b ∧ PB b r := by unfold sT; simp
@[simp] theorem w_and : Gs (tAndB g h ρ) PB = Gs (g ρ) fun b r => if b = true then Gs (h r) PB else PB false r := by unfold tAndB; simp
@[simp] theorem w_or : Gs (tOrB g h ρ) PB = Gs (g ρ) fun b r => if b = true then PB true r else Gs (h r) PB := by unfold tOrB; simp
@[simp] theorem w_not : Gs (tNotB g ρ) PB = Gs (g ρ) fun b r => PB (!b) r := by unfold tNotB; simp
@[simp] theorem w_yes : Gs (tYesB ρ) PB = PB true ρ := rfl
@[simp] theorem w_andV : Gs (sAndV fa fb ρ) P = Gs (fa ρ) fun x r => x.nos = true ∧ ∃ b, x.dat = .bool b ∧ if b = true then Gs (fb r) P else P (.d (.bool false)) r := by
  unfold sAndV
  rw [Gs_bind, Gs_fz]
  congr 1; funext x r; congr 1
  split <;> simp_all
@[simp] theorem w_orV : Gs (sOrV fa fb ρ) P = Gs (fa ρ) fun x r => x.nos = true ∧ ∃ b, x.dat = .bool b ∧ if b = true then P (.d (.bool true)) r else Gs (fb r) P := by
  unfold sOrV
  rw [Gs_bind, Gs_fz]
  congr 1; funext x r; congr 1
  split <;> simp_all
@[simp] theorem w_notV : Gs (sNotV fa ρ) P = Gs (fa ρ) fun x r => x.nos = true ∧ ∃ b, x.dat = .bool b ∧ P (.d (.bool (!b))) r := by
  unfold sNotV
  rw [Gs_bind, Gs_fz]
  congr 1; funext x r; congr 1
  split <;> simp_all
@[simp] theorem w_if : Gs (sIf g fa fb ρ) P = Gs (g ρ) fun b r => if b = true then Gs (fa r) P else Gs (fb r) P := by unfold sIf; simp
@[simp] theorem w_neg : Gs (sNeg fa ρ) P = Gs (fa ρ) fun x r => x.nos = true ∧ ∃ i, x.dat = .int i ∧ P (.d (.int (-i))) r := by
  unfold sNeg
  rw [Gs_bind, Gs_fz]
  congr 1; funext x r; congr 1
  split <;> simp_all
@[simp] theorem w_chain {p p' : Int → Int → Bool} : Gs (sChain p p' fa fb fc ρ) P = Gs (fa ρ) fun x r => x.nos = true ∧ Gs (fb r) fun y r => y.nos = true ∧ ∃ k, intB p x.dat y.dat = some k ∧ if k = true then Gs (fc r) (fun z r => z.nos = true ∧ ∃ k, intB p' y.dat z.dat = some k ∧ P (.d (.bool k)) r) else P (.d (.bool false)) r := by unfold sChain; simp
@[simp] theorem w_sTup : Gs (sTup fs ρ) P = Gs (fs ρ) fun ds r => ds.length ≤ 1000000 ∧ P (.d (.tuple ds)) r := by
  unfold sTup; simp
@[simp] theorem w_sLst : Gs (sLst fs ρ) P = Gs (fs ρ) fun ds r => ds.length ≤ 1000000 ∧ P (.o (ds.map .d)) r := by
  unfold sLst; simp
@[simp] theorem w_aNil : Gs (aNil ρ) PD = PD [] ρ := rfl
@[simp] theorem w_aCons : Gs (aCons f fs ρ) PD = Gs (f ρ) fun w r => w.nos = true ∧ Gs (fs r) fun ds r => PD (w.dat :: ds) r := by unfold aCons; simp
@[simp] theorem w_aStar : Gs (aStar f fs ρ) PD = Gs (f ρ) fun w r => w.nos = true ∧ ∃ xs, itemsD w.dat = some xs ∧ Gs (fs r) fun ds r => PD (xs ++ ds) r := by unfold aStar; simp
@[simp] theorem w_wNil : Gs (wNil ρ) PL = PL [] ρ := rfl
@[simp] theorem w_wCons : Gs (wCons f aw ρ) PL = Gs (f ρ) fun w r => Gs (aw r) fun ws r => PL (w :: ws) r := by unfold wCons; simp
@[simp] theorem w_sCall {pr : List D → Option Wv} : Gs (sCall pr fs ρ) P = Gs (fs ρ) fun ds r => ∃ a, pr ds = some a ∧ P a r := by unfold sCall; simp
@[simp] theorem w_isi {T : String} : Gs (sIsi T f ρ) P = Gs (f ρ) fun w r => w.nos = true ∧ P (.d (.bool (isiD T w.dat))) r := by unfold sIsi; simp
@[simp] theorem w_lenAt : Gs (sLenAt i ρ) P = ∃ w, ρ[i]? = some (some w) ∧ ∃ n, lenW w = some n ∧ P (.d (.int n)) ρ := by
  unfold sLenAt
  split
  · rename_i w e; simp [e]
  · rename_i h; simp; exact fun w e => (h w e).elim
@[simp] theorem w_cut {lo hi : Rho → Out (Option Int)} : Gs (sCut f lo hi ρ) P = Gs (f ρ) fun w r => w.nos = true ∧ Gs (lo r) fun l r => Gs (hi r) fun h r => ∃ a, pCut w.dat l h = some a ∧ P a r := by unfold sCut; simp
@[simp] theorem w_partN {PO : Option Int → Rho → Prop} : Gs (sPartN ρ) PO = PO none ρ := rfl
@[simp] theorem w_part {PO : Option Int → Rho → Prop} : Gs (sPart f ρ) PO = Gs (f ρ) fun w r => w.nos = true ∧ ∃ i, w.dat = .int i ∧ PO (some i) r := by
  unfold sPart
  rw [Gs_bind, Gs_fz]
  congr 1; funext x r; congr 1
  split <;> simp_all
@[simp] theorem w_callW {df : DS} : Gs (sCallW df aw ρ) P = Gs (aw ρ) fun ws r => Gs (df ws) fun w _ => P w r := by
  unfold sCallW
  rw [Gs_bind]
  congr 1; funext ws r
  split <;> simp_all
@[simp] theorem w_callK {df : DS} {is : List Nat} : Gs (sCallK df n is fs ρ) P = Gs (fs ρ) fun ds r => ds.length = n ∧ Gs (df ((pick is ds).map .d)) fun w _ => P w r := by
  unfold sCallK
  rw [Gs_bind]
  congr 1; funext ws r
  rw [Gs_ite]
  by_cases e : ws.length = n
  · rw [if_pos e]
    split <;> simp_all
  · rw [if_neg e]; simp [e]
@[simp] theorem w_callA {df : DS} : Gs (sCallA df s aw ρ) P = ∃ w1, ρ[s]? = some (some w1) ∧ Gs (aw ρ) fun ws r => ∃ w0, r[s]? = some (some w0) ∧ Gs (df (w0 :: ws)) fun w rp => P w (r.set s (rp.getD 0 none)) := by
  unfold sCallA
  split
  · rename_i w1 e
    rw [Gs_bind]
    simp only [e, Option.some.injEq, exists_eq_left']
    congr 1; funext ws r
    split
    · rename_i w0 e0
      simp only [e0, Option.some.injEq, exists_eq_left']
      split <;> simp_all
    · rename_i h; simp; exact fun w e => (h w e).elim
  · rename_i h; simp; exact fun w e => (h w e).elim
theorem ex_map {α : Type} {o : Option D} {Q : Wv → Prop} : (∃ a, o.map .d = some a ∧ Q a) = ∃ a, o = some a ∧ Q (.d a) := by cases o <;> simp
@[simp] theorem w_at : Gs (sAt s fi ρ) P = ∃ w1, ρ[s]? = some (some w1) ∧ Gs (fi ρ) fun x r => x.nos = true ∧ ∃ k, x.dat = .int k ∧ ∃ w, r[s]? = some (some w) ∧ ∃ a, (atW w k).bind datW = some a ∧ P (.d a) r := by
  unfold sAt
  split
  · rename_i w1 e
    rw [Gs_bind, Gs_fz]
    simp only [e, Option.some.injEq, exists_eq_left']
    congr 1; funext x r; congr 1
    split
    · rename_i k w e1 e2
      rw [Gs_ofO, ex_map (α := D)]
      simp only [e1, e2, PyData.int.injEq, Option.some.injEq, exists_eq_left', exists_eq_left]
    · rename_i h
      simp
      exact fun k e1 w e2 => (h k w e1 e2).elim
  · rename_i h; simp; exact fun w e => (h w e).elim
@[simp] theorem w_at2 {ga gb : IxF} : Gs (sAt2 s ga gb ρ) P = ∃ w, ρ[s]? = some (some w) ∧ ∃ i, ga ρ = some i ∧ ∃ j, gb ρ = some j ∧ ∃ a, (((atW w i).bind (atW · j)).bind datW) = some a ∧ P (.d a) ρ := by
  unfold sAt2
  split
  · rename_i w i j e1 e2 e3
    rw [Gs_ofO, ex_map (α := D)]
    simp only [e1, e2, e3, Option.some.injEq, exists_eq_left']
  · rename_i h; simp; exact fun w e1 i e2 j e3 => (h w i j e1 e2 e3).elim
@[simp] theorem w_cutS {n : Int} : Gs (sCutS s n ρ) P = ∃ ns, ρ[s]? = some (some (.s ns)) ∧ P (.o ((cutD ns none (some n)).map fun i => .d (.int i))) ρ := by
  unfold sCutS
  split
  · rename_i w e; simp [e]
  · rename_i h; simp; exact fun w e => (h w e).elim
/-! ### statements -/
variable {q1 q2 bd : SSem} {it : ISem} {t : TgF} {u : TwsF} {tw : TwF}
@[simp] theorem w_nil : Gs (sNil ρ) PF = PF .nx ρ := rfl
@[simp] theorem w_pass : Gs (sPass ρ) PF = PF .nx ρ := rfl
@[simp] theorem w_break : Gs (sBreak ρ) PF = PF .bk ρ := rfl
@[simp] theorem w_cont : Gs (sCont ρ) PF = PF .ct ρ := rfl
@[simp] theorem w_sBad : Gs (sBad ρ) PF = False := rfl
def nxt (q : SSem) (PF : Fl → Rho → Prop) : Fl → Rho → Prop := fun fl r => match fl with
  | .nx => Gs (q r) PF
  | fl => PF fl r
@[simp] theorem nxt_nx {q : SSem} : nxt q PF .nx ρ = Gs (q ρ) PF := rfl
@[simp] theorem nxt_bk {q : SSem} : nxt q PF .bk ρ = PF .bk ρ := rfl
@[simp] theorem nxt_ct {q : SSem} : nxt q PF .ct ρ = PF .ct ρ := rfl
@[simp] theorem nxt_ret {q : SSem} {w : Wv} : nxt q PF (.ret w) ρ = PF (.ret w) ρ := rfl
@[simp] theorem w_cons : Gs (sCons q1 q2 ρ) PF = Gs (q1 ρ) (nxt q2 PF) := by
  unfold sCons
  rw [Gs_bind]
  congr 1; funext fl r
  cases fl <;> rfl
@[simp] theorem w_drop : Gs (sDrop f ρ) PF = Gs (f ρ) fun _ r => PF .nx r := by unfold sDrop; simp
@[simp] theorem w_ret : Gs (sRet f ρ) PF = Gs (f ρ) fun w r => PF (.ret w) r := by unfold sRet; simp
@[simp] theorem w_retN : Gs (sRetN ρ) PF = PF (.ret (.d .none)) ρ := rfl
@[simp] theorem w_ite : Gs (sIte g q1 q2 ρ) PF = Gs (g ρ) fun b r => if b = true then Gs (q1 r) PF else Gs (q2 r) PF := by unfold sIte; simp
@[simp] theorem w_set : Gs (sSet i f ρ) PF = Gs (f ρ) fun w r => i < r.length ∧ PF .nx (r.set i (some w)) := by unfold sSet; simp
@[simp] theorem w_tupW : Gs (sTupW n u aw ρ) PF = Gs (aw ρ) fun ws r => ws.length ≤ 1000000 ∧ ∃ r', wT n u ws r = some r' ∧ PF .nx r' := by unfold sTupW; simp
@[simp] theorem w_asgW : Gs (sAsgW tw f ρ) PF = Gs (f ρ) fun w r => ∃ r', tw w r = some r' ∧ PF .nx r' := by unfold sAsgW; simp
@[simp] theorem w_asgD : Gs (sAsgD t f ρ) PF = Gs (f ρ) fun w r => w.nos = true ∧ ∃ r', t w.dat r = some r' ∧ PF .nx r' := by unfold sAsgD; simp
@[simp] theorem w_app : Gs (sApp s f ρ) PF = ∃ ws0, ρ[s]? = some (some (.o ws0)) ∧ Gs (f ρ) fun w r => ∃ ws, r[s]? = some (some (.o ws)) ∧ ws.length < 1000000 ∧ PF .nx (r.set s (some (.o (ws ++ [w])))) := by
  unfold sApp
  split
  · rename_i w1 e
    rw [Gs_bind]
    simp only [e, Option.some.injEq, Wv.o.injEq, exists_eq_left']
    congr 1; funext w r
    split
    · rename_i w0 e0
      rw [Gs_ite]
      simp [e0]
    · rename_i h; simp; exact fun w e => (h w e).elim
  · rename_i h; simp; exact fun w e => (h w e).elim
@[simp] theorem w_setE : Gs (sSetE s fi f ρ) PF = Gs (f ρ) fun w r => w.nos = true ∧ ∃ w1, r[s]? = some (some w1) ∧ Gs (fi r) fun x r2 => x.nos = true ∧ ∃ k, x.dat = .int k ∧ ∃ w0, r2[s]? = some (some w0) ∧ ∃ w2, setW w0 k (.d w.dat) = some w2 ∧ PF .nx (r2.set s (some w2)) := by
  unfold sSetE
  rw [Gs_bind, Gs_fz]
  congr 1; funext w r; congr 1
  split
  · rename_i w1 e1
    rw [Gs_bind, Gs_fz]
    simp only [e1, Option.some.injEq, exists_eq_left']
    congr 1; funext x r2; congr 1
    split
    · rename_i k w0 e2 e3
      simp only [e2, e3, PyData.int.injEq, Option.some.injEq, exists_eq_left']
      split <;> simp_all
    · rename_i h
      simp
      exact fun k e1 w e2 => (h k w e1 e2).elim
  · rename_i h; simp; exact fun w e => (h w e).elim
@[simp] theorem w_iSeq : Gs (iSeq f ρ) PD = Gs (f ρ) fun w r => w.nos = true ∧ ∃ xs, itemsD w.dat = some xs ∧ PD xs r := by unfold iSeq; simp
@[simp] theorem w_range1 : Gs (iRange1 fs ρ) PD = Gs (fs ρ) fun ds r => ∃ j, ds = [.int j] ∧ (j ≤ 1000000 ∧ -1000000 ≤ j) ∧ PD (rngD 0 j.toNat) r := by
  unfold iRange1
  rw [Gs_bind]
  congr 1; funext ds r
  split
  · rw [Gs_ite]; simp
  · rename_i h; simp; exact fun j e => (h j e).elim
def rngP (ds : List D) (k : Int → Int → Prop) : Prop := match ds with
  | [.int i, .int j] => k i j
  | _ => False
def zipP (ds : List D) (k : D → D → Prop) : Prop := match ds with
  | [i, j] => k i j
  | _ => False
@[simp] theorem rngP_e {a b : Int} {k : Int → Int → Prop} : rngP [.int a, .int b] k = k a b := rfl
@[simp] theorem zipP_e {a b : D} {k : D → D → Prop} : zipP [a, b] k = k a b := rfl
@[simp] theorem w_range2 : Gs (iRange2 fs ρ) PD = Gs (fs ρ) fun ds r => rngP ds fun i j => ((i ≤ 1000000 ∧ -1000000 ≤ i) ∧ j ≤ 1000000 ∧ -1000000 ≤ j) ∧ PD (rngD i (j - i).toNat) r := by
  unfold iRange2
  rw [Gs_bind]
  congr 1; funext ds r
  unfold rngP
  split
  · rename_i i j
    rw [Gs_ite]
    apply propext
    constructor
    · intro h
      split at h
      · rename_i c; exact ⟨c, h⟩
      · exact h.elim
    · rintro ⟨c, h⟩
      rw [if_pos c]; exact h
  · rename_i h
    first
    | rfl
    | (split
       · exact (h _ _ rfl).elim
       · rfl)
@[simp] theorem w_zip : Gs (iZip2 fs ρ) PD = Gs (fs ρ) fun ds r => zipP ds fun x y => ∃ xs, itemsD x = some xs ∧ ∃ ys, itemsD y = some ys ∧ PD (zipD xs ys) r := by
  unfold iZip2
  rw [Gs_bind]
  congr 1; funext ds r
  unfold zipP
  split
  · rename_i x y
    apply propext
    constructor
    · intro h
      split at h
      · rename_i xs ys e1 e2; exact ⟨xs, e1, ys, e2, h⟩
      · exact h.elim
    · rintro ⟨xs, e1, ys, e2, h⟩
      rw [e1, e2]; exact h
  · rename_i h
    first
    | rfl
    | (split
       · exact (h _ _ rfl).elim
       · rfl)
@[simp] theorem w_enum : Gs (iEnum1 fs ρ) PD = Gs (fs ρ) fun ds r => ∃ x, ds = [x] ∧ ∃ xs, itemsD x = some xs ∧ PD (enumD 0 xs) r := by
  unfold iEnum1
  rw [Gs_bind]
  congr 1; funext ds r
  split
  · rename_i x
    apply propext
    constructor
    · intro h
      split at h
      · rename_i xs e1; exact ⟨x, rfl, xs, e1, h⟩
      · exact h.elim
    · rintro ⟨x', e, xs, e1, h⟩
      cases e
      rw [e1]; exact h
  · rename_i h; simp; exact fun x e => (h x e).elim
@[simp] theorem w_for : Gs (sFor it t bd ρ) PF = Gs (it ρ) fun xs r => Gs (forL t bd xs r) PF := by unfold sFor; simp
theorem forL_nil : Gs (forL t bd [] ρ) PF = PF .nx ρ := rfl
theorem forL_cons {x : D} {xs : List D} : Gs (forL t bd (x :: xs) ρ) PF = ∃ ρ1, t x ρ = some ρ1 ∧ Gs (bd ρ1) fun fl r => (match fl with
  | .nx => Gs (forL t bd xs r) PF
  | .ct => Gs (forL t bd xs r) PF
  | .bk => PF .nx r
  | .ret w => PF (.ret w) r) := by
  have u : forL t bd (x :: xs) ρ = (match t x ρ with
    | none => .bad
    | some ρ1 => (bd ρ1).bind fun fl r => match fl with
      | .nx => forL t bd xs r
      | .ct => forL t bd xs r
      | .bk => .ok .nx r
      | .ret w => .ok (.ret w) r) := rfl
  rw [u]
  cases e : t x ρ with
  | none => simp
  | some ρ1 =>
    simp only [Gs_bind, Option.some.injEq, exists_eq_left']
    congr 1; funext fl r
    cases fl <;> rfl
/-- a loop with an invariant over the items that are left; it ends by its end -/
theorem for_inv {I : List D → Rho → Prop} (hend : ∀ r, I [] r → PF .nx r) (hstep : ∀ x xs r, I (x :: xs) r → ∃ r1, t x r = some r1 ∧ Gs (bd r1) fun fl r2 => (match fl with
  | .nx => I xs r2
  | .ct => I xs r2
  | .bk => PF .nx r2
  | .ret w => PF (.ret w) r2)) : ∀ (xs : List D) (r : Rho), I xs r → Gs (forL t bd xs r) PF
  | [], r, h => hend r h
  | x :: xs, r, h => by
    rw [forL_cons]
    obtain ⟨r1, e, q⟩ := hstep x xs r h
    refine ⟨r1, e, q.mono fun fl r2 k => ?_⟩
    cases fl with
    | nx => exact for_inv hend hstep xs r2 k
    | ct => exact for_inv hend hstep xs r2 k
    | bk => exact k
    | ret w => exact k
/-- range(n) -/
theorem for_rng {I : Nat → Rho → Prop} {lo : Int} {m : Nat} (hend : ∀ r, I m r → PF .nx r) (hstep : ∀ j r, j < m → I j r → ∃ r1, t (.int (lo + (j : Int))) r = some r1 ∧ Gs (bd r1) fun fl r2 => (match fl with
  | .nx => I (j + 1) r2
  | .ct => I (j + 1) r2
  | .bk => PF .nx r2
  | .ret w => PF (.ret w) r2)) {r : Rho} (h0 : I 0 r) : Gs (forL t bd (rngD lo m) r) PF := by
  have go : ∀ (k j : Nat), j + k = m → ∀ r, I j r → Gs (forL t bd ((List.range' j k).map fun (i : Nat) => .int (lo + (i : Int))) r) PF := by
    intro k
    induction k with
    | zero => intro j e r h; exact hend r (by rw [← e]; exact h)
    | succ k ih =>
      intro j e r h
      rw [List.range'_succ, List.map_cons, forL_cons]
      obtain ⟨r1, e1, q⟩ := hstep j r (by omega) h
      refine ⟨r1, e1, q.mono fun fl r2 z => ?_⟩
      cases fl with
      | nx => exact ih (j + 1) (by omega) r2 z
      | ct => exact ih (j + 1) (by omega) r2 z
      | bk => exact z
      | ret w => exact z
  have := go m 0 (by omega) r h0
  unfold rngD
  rw [List.range_eq_range']
  exact this
theorem whileL_step {m : Nat} : Gs (whileL g bd (m + 1) ρ) PF = Gs (g ρ) fun b r => if b = true then Gs (bd r) fun fl r => (match fl with
  | .nx => Gs (whileL g bd m r) PF
  | .ct => Gs (whileL g bd m r) PF
  | .bk => PF .nx r
  | .ret w => PF (.ret w) r) else PF .nx r := by
  have u : whileL g bd (m + 1) ρ = ((g ρ).bind fun b r => if b = true then (bd r).bind fun fl r => match fl with
      | .nx => whileL g bd m r
      | .ct => whileL g bd m r
      | .bk => .ok .nx r
      | .ret w => .ok (.ret w) r
    else .ok .nx r) := rfl
  rw [u, Gs_bind]
  congr 1; funext b r
  rw [Gs_ite, Gs_bind]
  congr 1; congr 1; funext fl r
  cases fl <;> rfl
/-- a while with an invariant and a measure -/
theorem while_inv {I : Nat → Rho → Prop} (hstep : ∀ m r, I m r → Gs (g r) fun b r1 => if b = true then Gs (bd r1) fun fl r2 => (match fl with
  | .nx => ∃ m', m' < m ∧ I m' r2
  | .ct => ∃ m', m' < m ∧ I m' r2
  | .bk => PF .nx r2
  | .ret w => PF (.ret w) r2) else PF .nx r1) (m : Nat) (r : Rho) (h0 : I m r) : Gs (sWhile g bd r) PF := by
  have go : ∀ (k m : Nat), m < k → ∀ r, I m r → Gs (whileL g bd k r) PF := by
    intro k
    induction k with
    | zero => intro m hm; exact absurd hm (Nat.not_lt_zero _)
    | succ k ih =>
      intro m hm r h
      rw [whileL_step]
      refine (hstep m r h).mono fun b r1 z => ?_
      by_cases hb : b = true
      · rw [if_pos hb] at z ⊢
        refine z.mono fun fl r2 y => ?_
        cases fl with
        | nx => obtain ⟨m', l, i'⟩ := y; exact ih m' (by omega) r2 i'
        | ct => obtain ⟨m', l, i'⟩ := y; exact ih m' (by omega) r2 i'
        | bk => exact y
        | ret w => exact y
      · rw [if_neg hb] at z ⊢
        exact z
  have q := go (m + 1) m (Nat.lt_succ_self m) r h0
  obtain ⟨fl, r', e, p⟩ := q.ex
  rw [sWhile_eq (m + 1) e (fun z => nomatch z)]
  exact p
/-! ### comprehensions -/
variable {tt : Rho → Out Bool} {el : ES} {vs : List Nat}
theorem Gs_nox {α : Type} {o : Out α} {Q : α → Rho → Prop} (h : Gs o Q) : Gs (nox o) Q := by cases o <;> exact h
@[simp] theorem Gs_nox_eq {α : Type} {o : Out α} {Q : α → Rho → Prop} : Gs (nox o) Q = Gs o Q := by cases o <;> rfl
@[simp] theorem w_comp : Gs (sComp vs it t tt el ρ) P = Gs (it ρ) fun xs r => xs.length ≤ 1000000 ∧ Gs (compL vs t tt el xs r) fun ws r' => P (.o ws) (restR r vs r') := by unfold sComp; simp
theorem compL_cons {x : D} {xs : List D} : Gs (compL vs t tt el (x :: xs) ρ) PL = ∃ ρ1, t x (wipeR ρ vs) = some ρ1 ∧ Gs (tt ρ1) fun b r => if b = true then Gs (el r) fun w r => Gs (compL vs t tt el xs r) fun ws r => PL (w :: ws) r else Gs (compL vs t tt el xs r) PL := by
  have u : compL vs t tt el (x :: xs) ρ = (match t x (wipeR ρ vs) with
    | none => .bad
    | some ρ1 => (nox (tt ρ1)).bind fun b r => if b = true then (nox (el r)).bind fun w r => (compL vs t tt el xs r).bind fun ws r => .ok (w :: ws) r else compL vs t tt el xs r) := rfl
  rw [u]
  cases e : t x (wipeR ρ vs) with
  | none => simp
  | some ρ1 => simp
/-- items of a comprehension, made one after the other; what is made so far and the state keep I -/
theorem comp_inv {I : List D → List Wv → Rho → Prop} (hend : ∀ acc r, I [] acc r → PL acc r) (hstep : ∀ x xs acc r, I (x :: xs) acc r → ∃ r1, t x (wipeR r vs) = some r1 ∧ Gs (tt r1) fun b r2 => if b = true then Gs (el r2) fun w r3 => I xs (acc ++ [w]) r3 else I xs acc r2) {xs : List D} {r : Rho} (h0 : I xs [] r) : Gs (compL vs t tt el xs r) PL := by
  have go : ∀ (xs : List D) (acc : List Wv) (r : Rho), I xs acc r → Gs (compL vs t tt el xs r) fun ws r' => PL (acc ++ ws) r' := by
    intro xs
    induction xs with
    | nil => intro acc r h; rw [compL]; simpa using hend acc r h
    | cons x xs ih =>
      intro acc r h
      rw [compL_cons]
      obtain ⟨r1, e1, q⟩ := hstep x xs acc r h
      refine ⟨r1, e1, q.mono fun b r2 z => ?_⟩
      cases b with
      | true =>
        rw [if_pos rfl] at z ⊢
        refine z.mono fun w r3 y => (ih (acc ++ [w]) r3 y).mono fun ws r4 p => ?_
        rw [List.append_assoc] at p
        exact p
      | false =>
        rw [if_neg Bool.false_ne_true] at z ⊢
        exact ih acc r2 z
  simpa using go xs [] r h0
/-- a comprehension without a test whose items are told by a function -/
theorem comp_map (F : D → D) {S : Rho → Prop} {xs : List D} {r : Rho} (h0 : S r) (hstep : ∀ x ∈ xs, ∀ r, S r → ∃ r1, t x (wipeR r vs) = some r1 ∧ Gs (tt r1) fun b r2 => b = true ∧ Gs (el r2) fun w r3 => w = .d (F x) ∧ S r3) (hend : ∀ r, S r → PL (xs.map fun x => .d (F x)) r) : Gs (compL vs t tt el xs r) PL := by
  refine comp_inv (I := fun todo acc r => S r ∧ ∃ don, don ++ todo = xs ∧ acc = don.map fun x => .d (F x)) ?_ ?_ ⟨h0, [], rfl, rfl⟩
  · rintro acc r ⟨h, don, e, rfl⟩
    rw [List.append_nil] at e
    subst e
    exact hend r h
  · rintro x todo acc r ⟨h, don, e, rfl⟩
    obtain ⟨r1, e1, q⟩ := hstep x (by rw [← e]; simp) r h
    refine ⟨r1, e1, q.mono fun b r2 z => ?_⟩
    rw [if_pos z.1]
    refine z.2.mono fun w r3 y => ⟨y.2, don ++ [x], by rw [← e]; simp, ?_⟩
    rw [y.1]; simp
/-- a comprehension with a test or not: each item has Φ -/
theorem comp_pred (Φ : Wv → Prop) {S : Rho → Prop} {xs : List D} {r : Rho} (h0 : S r) (hstep : ∀ x ∈ xs, ∀ r, S r → ∃ r1, t x (wipeR r vs) = some r1 ∧ Gs (tt r1) fun b r2 => if b = true then Gs (el r2) fun w r3 => Φ w ∧ S r3 else S r2) (hend : ∀ ws r, (∀ w ∈ ws, Φ w) → S r → PL ws r) : Gs (compL vs t tt el xs r) PL := by
  refine comp_inv (I := fun todo acc r => S r ∧ (∀ w ∈ acc, Φ w) ∧ ∀ x ∈ todo, x ∈ xs) ?_ ?_ ⟨h0, (fun _ z => nomatch z), fun _ z => z⟩
  · rintro acc r ⟨h, ha, _⟩
    exact hend acc r ha h
  · rintro x todo acc r ⟨h, ha, ht⟩
    obtain ⟨r1, e1, q⟩ := hstep x (ht x (by simp)) r h
    refine ⟨r1, e1, q.mono fun b r2 z => ?_⟩
    cases b with
    | true =>
      rw [if_pos rfl] at z ⊢
      refine z.mono fun w r3 y => ⟨y.2, fun u hu => ?_, fun u hu => ht u (by simp [hu])⟩
      rcases List.mem_append.mp hu with k | k
      · exact ha u k
      · rw [List.mem_singleton.mp k]; exact y.1
    | false =>
      rw [if_neg Bool.false_ne_true] at z ⊢
      exact ⟨z, ha, fun u hu => ht u (by simp [hu])⟩
variable {it1 : ISem} {t1 : TgF} {tt1 : Rho → Out Bool} {vs1 : List Nat}
@[simp] theorem w_comp2 : Gs (sComp2 vs vs1 it t tt it1 t1 tt1 el ρ) P = Gs (it ρ) fun xs r => xs.length ≤ 1000 ∧ Gs (compL2 vs vs1 t tt it1 t1 tt1 el xs r) fun ws r' => P (.o ws) (restR r vs r') := by unfold sComp2; simp
theorem compL2_cons {x : D} {xs : List D} : Gs (compL2 vs vs1 t tt it1 t1 tt1 el (x :: xs) ρ) PL = ∃ ρ1, t x (wipeR ρ vs) = some ρ1 ∧ Gs (tt ρ1) fun b r => if b = true then Gs (it1 r) fun ys r => ys.length ≤ 1000 ∧ Gs (compL vs1 t1 tt1 el ys r) fun us r => Gs (compL2 vs vs1 t tt it1 t1 tt1 el xs r) fun ws r => PL (us ++ ws) r else Gs (compL2 vs vs1 t tt it1 t1 tt1 el xs r) PL := by
  have u : compL2 vs vs1 t tt it1 t1 tt1 el (x :: xs) ρ = (match t x (wipeR ρ vs) with
    | none => .bad
    | some ρ1 => (nox (tt ρ1)).bind fun b r => if b = true then
        (nox (it1 r)).bind fun ys r => if ys.length ≤ 1000 then (compL vs1 t1 tt1 el ys r).bind fun us r => (compL2 vs vs1 t tt it1 t1 tt1 el xs r).bind fun ws r => .ok (us ++ ws) r else .bad
      else compL2 vs vs1 t tt it1 t1 tt1 el xs r) := rfl
  rw [u]
  cases e : t x (wipeR ρ vs) with
  | none => simp
  | some ρ1 => simp
theorem comp2_inv {I : List D → List Wv → Rho → Prop} (hend : ∀ acc r, I [] acc r → PL acc r) (hstep : ∀ x xs acc r, I (x :: xs) acc r → ∃ r1, t x (wipeR r vs) = some r1 ∧ Gs (tt r1) fun b r2 => if b = true then Gs (it1 r2) fun ys r3 => ys.length ≤ 1000 ∧ Gs (compL vs1 t1 tt1 el ys r3) fun us r4 => I xs (acc ++ us) r4 else I xs acc r2) {xs : List D} {r : Rho} (h0 : I xs [] r) : Gs (compL2 vs vs1 t tt it1 t1 tt1 el xs r) PL := by
  have go : ∀ (xs : List D) (acc : List Wv) (r : Rho), I xs acc r → Gs (compL2 vs vs1 t tt it1 t1 tt1 el xs r) fun ws r' => PL (acc ++ ws) r' := by
    intro xs
    induction xs with
    | nil => intro acc r h; rw [compL2]; simpa using hend acc r h
    | cons x xs ih =>
      intro acc r h
      rw [compL2_cons]
      obtain ⟨r1, e1, q⟩ := hstep x xs acc r h
      refine ⟨r1, e1, q.mono fun b r2 z => ?_⟩
      cases b with
      | true =>
        rw [if_pos rfl] at z ⊢
        refine z.mono fun ys r3 y => ⟨y.1, y.2.mono fun us r4 k => (ih (acc ++ us) r4 k).mono fun ws r5 p => ?_⟩
        rw [List.append_assoc] at p
        exact p
      | false =>
        rw [if_neg Bool.false_ne_true] at z ⊢
        exact ih acc r2 z
  simpa using go xs [] r h0
theorem comp2_pred (Φ : Wv → Prop) {S : Rho → Prop} {xs : List D} {r : Rho} (h0 : S r) (hstep : ∀ x ∈ xs, ∀ r, S r → ∃ r1, t x (wipeR r vs) = some r1 ∧ Gs (tt r1) fun b r2 => if b = true then Gs (it1 r2) fun ys r3 => ys.length ≤ 1000 ∧ Gs (compL vs1 t1 tt1 el ys r3) fun us r4 => (∀ w ∈ us, Φ w) ∧ S r4 else S r2) (hend : ∀ ws r, (∀ w ∈ ws, Φ w) → S r → PL ws r) : Gs (compL2 vs vs1 t tt it1 t1 tt1 el xs r) PL := by
  refine comp2_inv (I := fun todo acc r => S r ∧ (∀ w ∈ acc, Φ w) ∧ ∀ x ∈ todo, x ∈ xs) ?_ ?_ ⟨h0, (fun _ z => nomatch z), fun _ z => z⟩
  · rintro acc r ⟨h, ha, _⟩
    exact hend acc r ha h
  · rintro x todo acc r ⟨h, ha, ht⟩
    obtain ⟨r1, e1, q⟩ := hstep x (ht x (by simp)) r h
    refine ⟨r1, e1, q.mono fun b r2 z => ?_⟩
    cases b with
    | true =>
      rw [if_pos rfl] at z ⊢
      refine z.mono fun ys r3 y => ⟨y.1, y.2.mono fun us r4 k => ⟨k.2, fun u hu => ?_, fun u hu => ht u (by simp [hu])⟩⟩
      rcases List.mem_append.mp hu with e | e
      · exact ha u e
      · exact k.1 u e
    | false =>
      rw [if_neg Bool.false_ne_true] at z ⊢
      exact ⟨z, ha, fun u hu => ht u (by simp [hu])⟩
theorem all_true {ws : List Wv} (h : ∀ w ∈ ws, w = .d (.bool true)) : Wv.noss ws = true ∧ pAll [.list (Wv.dats ws)] = some (.d (.bool true)) := by
  have e : ws = (List.replicate ws.length (PyData.bool true)).map .d := by
    rw [List.map_replicate]
    exact List.eq_replicate_iff.mpr ⟨rfl, h⟩
  rw [e]
  refine ⟨noss_map, ?_⟩
  rw [dats_map, pAll]
  have : ∀ n : Nat, boolsD (List.replicate n (PyData.bool true)) = some (List.replicate n true) := by
    intro n
    induction n with
    | zero => rfl
    | succ n ih => rw [List.replicate_succ, boolsD, ih]; rfl
  rw [this]
  simp
theorem comp_rows {n : Nat} {F : Nat → D} (Gf : Nat → D) (S : Rho → Prop) {ρ0 : Rho} (h0 : S ρ0) (hstep : ∀ i < n, ∀ r, S r → ∃ r1, t (F i) (wipeR r vs) = some r1 ∧ Gs (el r1) fun w r3 => w = .d (Gf i) ∧ S r3)
    (hend : ∀ r, S r → PL ((List.range n).map fun i => .d (Gf i)) r) : Gs (compL vs t tYesB el ((List.range n).map F) ρ0) PL := by
  refine comp_inv (I := fun xs acc r => S r ∧ ∃ j, j ≤ n ∧ xs = ((List.range n).map F).drop j ∧ acc = (List.range j).map (fun i => .d (Gf i))) ?_ ?_ ⟨h0, 0, by omega, by simp, rfl⟩
  · rintro acc r ⟨hS, j, hj, e, rfl⟩
    have ej : j = n := by
      have := congrArg List.length e
      simp at this
      omega
    subst ej
    exact hend r hS
  · rintro x xs acc r ⟨hS, j, hj, e, rfl⟩
    have hlt : j < n := by
      have := congrArg List.length e
      simp at this
      omega
    have ex : ((List.range n).map F).drop j = F j :: ((List.range n).map F).drop (j + 1) := by
      rw [List.drop_eq_getElem_cons (by simp; omega)]
      simp
    rw [ex] at e
    cases e
    obtain ⟨r1, e1, q⟩ := hstep j hlt r hS
    refine ⟨r1, e1, ?_⟩
    rw [w_yes, if_pos rfl]
    exact q.mono fun w r3 ⟨e2, s3⟩ => ⟨s3, j + 1, by omega, by simp, by rw [e2]; simp [List.range_succ]⟩
/-! ### defs -/
def defP (np : Nat) (M : Nat → Bool) (P : Wv → Rho → Prop) : Fl → Rho → Prop := fun fl r => match fl with
  | .ret w => P w (finR np M r)
  | .nx => P (.d .none) (finR np M r)
  | _ => False
@[simp] theorem defP_ret {np : Nat} {M : Nat → Bool} {w : Wv} : defP np M P (.ret w) ρ = P w (finR np M ρ) := rfl
@[simp] theorem defP_nx {np : Nat} {M : Nat → Bool} : defP np M P .nx ρ = P (.d .none) (finR np M ρ) := rfl
theorem w_def {m np : Nat} {M : Nat → Bool} {body : SSem} {ws : List Wv} : Gs (mkDef m np M body ws) P = (ws.length = np ∧ Gs (body (ws.map some ++ List.replicate (m - np) none)) (defP np M P)) := by
  unfold mkDef
  rw [Gs_ite]
  by_cases h : ws.length = np
  · rw [if_pos h]
    simp only [h, true_and]
    cases z : body (ws.map some ++ List.replicate (m - np) none) with
    | bad => rfl
    | exc _ _ => rfl
    | ok fl r => cases fl <;> rfl
  · rw [if_neg h]; simp [h]
end
end FW

set_option Elab.async false
set_option linter.all false
set_option maxRecDepth 100000
set_option maxHeartbeats 1000001
namespace FW
open PySem PySem.Spec L2
/-! ## the primitives at ints -/
section
variable {a b : Int} {ds es : List D} {i j : Nat}
@[simp] theorem pAdd_i : pAdd (.int a) (.int b) = some (.d (.int (a + b))) := rfl
@[simp] theorem pAdd_t : pAdd (.tuple ds) (.tuple es) = if ds.length + es.length ≤ 1000000 then some (.d (.tuple (ds ++ es))) else none := rfl
@[simp] theorem pAdd_l : pAdd (.list ds) (.list es) = if ds.length + es.length ≤ 1000000 then some (.o ((ds ++ es).map .d)) else none := rfl
@[simp] theorem pSub_i : pSub (.int a) (.int b) = some (.d (.int (a - b))) := rfl
@[simp] theorem pMul_i : pMul (.int a) (.int b) = if big a + big b < 1000000 then some (.d (.int (a * b))) else none := rfl
@[simp] theorem pMul_l : pMul (.list ds) (.int b) = if 0 ≤ b ∧ b ≤ 1000 ∧ ds.length ≤ 1000 then some (.o ((List.replicate b.toNat ds).flatten.map .d)) else none := rfl
@[simp] theorem pMul_t : pMul (.tuple ds) (.int b) = if 1 ≤ b ∧ b ≤ 1000 ∧ ds.length ≤ 1000 ∧ ds ≠ [] then some (.d (.tuple (List.replicate b.toNat ds).flatten)) else none := rfl
@[simp] theorem pDiv_i : pDiv (.int a) (.int b) = if b ≠ 0 ∧ big b < 9000 then some (.d (.int (a.fdiv b))) else none := rfl
@[simp] theorem pMod_i : pMod (.int a) (.int b) = if b ≠ 0 then some (.d (.int (a.fmod b))) else none := rfl
@[simp] theorem pPow_i : pPow (.int a) (.int b) = if 0 ≤ b ∧ b ≤ 1000 ∧ a.natAbs < 1000000 then some (.d (.int (a ^ b.toNat))) else none := rfl
@[simp] theorem eqv_i : PyData.eqv (.int a) (.int b) = decide (a = b) := by
  show (a == b) = decide (a = b)
  by_cases h : a = b <;> simp [h]
@[simp] theorem pEq_i : pEq (.int a) (.int b) = some (.d (.bool (decide (a = b)))) := by
  unfold pEq
  rw [show strP (.int a) (.int b) = none from rfl]
  show (if SeqAt.shaped (.int a) = true ∧ SeqAt.shaped (.int b) = true then _ else _) = _
  rw [if_pos ⟨rfl, rfl⟩, eqv_i]
@[simp] theorem pNe_i : pNe (.int a) (.int b) = some (.d (.bool (!decide (a = b)))) := by
  unfold pNe
  rw [show strP (.int a) (.int b) = none from rfl]
  show (if SeqAt.shaped (.int a) = true ∧ SeqAt.shaped (.int b) = true then _ else _) = _
  rw [if_pos ⟨rfl, rfl⟩, eqv_i]
theorem pEq_same {d : D} (h : SeqAt.shaped d = true) : pEq d d = some (.d (.bool true)) := by
  unfold pEq
  cases e : strP d d with
  | some z => 
    obtain ⟨h1, h2⟩ := strP_some e
    have h3 : z.1 = z.2 := PyData.str.inj (h1.symm.trans h2)
    show some (Wv.d (.bool (decide (z.1 = z.2)))) = _
    rw [decide_eq_true h3]
  | none =>
    show (if SeqAt.shaped d = true ∧ SeqAt.shaped d = true then _ else _) = _
    rw [if_pos ⟨h, h⟩, SeqAt.eqv_refl d (canLay_of h)]
@[simp] theorem pEq_s {x y : Str} : pEq (.str x) (.str y) = some (.d (.bool (decide (x = y)))) := rfl
@[simp] theorem pNe_s {x y : Str} : pNe (.str x) (.str y) = some (.d (.bool (!decide (x = y)))) := rfl
@[simp] theorem pLt_i : pLt (.int a) (.int b) = some (.d (.bool (decide (a < b)))) := rfl
@[simp] theorem pLe_i : pLe (.int a) (.int b) = some (.d (.bool (decide (a ≤ b)))) := rfl
@[simp] theorem pGt_i : pGt (.int a) (.int b) = some (.d (.bool (decide (b < a)))) := rfl
@[simp] theorem pGe_i : pGe (.int a) (.int b) = some (.d (.bool (decide (b ≤ a)))) := rfl
@[simp] theorem boolD_b {c : Bool} : boolD (.bool c) = some c := rfl
@[simp] theorem intB_i {p : Int → Int → Bool} : intB p (.int a) (.int b) = some (p a b) := rfl
@[simp] theorem itemsD_t : itemsD (.tuple ds) = some ds := rfl
@[simp] theorem itemsD_l : itemsD (.list ds) = some ds := rfl
@[simp] theorem pIs_n {d : D} : pIs d .none = some (.d (.bool (isN d))) := rfl
@[simp] theorem pIsNot_n {d : D} : pIsNot d .none = some (.d (.bool (!isN d))) := rfl
@[simp] theorem isN_i : isN (.int a) = false := rfl
@[simp] theorem isN_t : isN (.tuple ds) = false := rfl
@[simp] theorem isN_n : isN .none = true := rfl
@[simp] theorem pIx_t : pIx (.tuple ds) (.int a) = (atI ds a).map .d := rfl
@[simp] theorem pIx_l : pIx (.list ds) (.int a) = (atI ds a).map .d := rfl
@[simp] theorem atW_t : atW (.d (.tuple ds)) a = (atI ds a).map .d := rfl
@[simp] theorem atW_l : atW (.d (.list ds)) a = (atI ds a).map .d := rfl
@[simp] theorem atW_o {ws : List Wv} : atW (.o ws) a = atI ws a := rfl
@[simp] theorem atW_s {ns : List Int} : atW (.s ns) a = (atI ns a).map fun i => .d (.int i) := rfl
@[simp] theorem datW_d {d : D} : datW (.d d) = some d := rfl
@[simp] theorem intW_d : intW (.d (.int a)) = some a := rfl
@[simp] theorem bind_map_dat {o : Option D} : (o.map Wv.d).bind datW = o := by cases o <;> rfl
@[simp] theorem pLen_t : pLen [.tuple ds] = some (.d (.int ds.length)) := rfl
@[simp] theorem pLen_l : pLen [.list ds] = some (.d (.int ds.length)) := rfl
@[simp] theorem pTuple_t : pTuple [.tuple ds] = some (.d (.tuple ds)) := rfl
@[simp] theorem pTuple_l : pTuple [.list ds] = some (.d (.tuple ds)) := rfl
@[simp] theorem pList_t : pList [.tuple ds] = some (.o (ds.map .d)) := rfl
@[simp] theorem pList_l : pList [.list ds] = some (.o (ds.map .d)) := rfl
theorem boolsD_map {α : Type} {f : α → Bool} : ∀ xs : List α, boolsD (xs.map fun x => .bool (f x)) = some (xs.map f)
  | [] => rfl
  | x :: xs => by rw [List.map_cons, boolsD, boolsD_map xs]; rfl
@[simp] theorem pAll_map {α : Type} {f : α → Bool} {xs : List α} : pAll [.list (xs.map fun x => .bool (f x))] = some (.d (.bool (xs.all f))) := by
  rw [pAll, boolsD_map]; simp [Function.comp_def]
@[simp] theorem pAny_map {α : Type} {f : α → Bool} {xs : List α} : pAny [.list (xs.map fun x => .bool (f x))] = some (.d (.bool (xs.any f))) := by
  rw [pAny, boolsD_map]; simp [Function.comp_def]
@[simp] theorem pAbs_i : pAbs [.int a] = some (.d (.int (if a < 0 then -a else a))) := rfl
@[simp] theorem pInt_i : pInt [.int a] = some (.d (.int a)) := rfl
@[simp] theorem pMax2_i : pMax2 [.int a, .int b] = some (.d (.int (if b > a then b else a))) := rfl
@[simp] theorem pMin2_i : pMin2 [.int a, .int b] = some (.d (.int (if b < a then b else a))) := rfl
@[simp] theorem pGcd_i : pGcd [.int a, .int b] = some (.d (.int ((Nat.gcd a.natAbs b.natAbs : Nat) : Int))) := rfl
@[simp] theorem isi_int_i : isiD "int" (.int a) = true := rfl
@[simp] theorem isi_bool_i : isiD "bool" (.int a) = false := rfl
@[simp] theorem isi_tuple_t : isiD "tuple" (.tuple ds) = true := rfl
@[simp] theorem lenW_t : lenW (.d (.tuple ds)) = some (ds.length : Int) := rfl
@[simp] theorem lenW_l : lenW (.d (.list ds)) = some (ds.length : Int) := rfl
@[simp] theorem lenW_o {ws : List Wv} : lenW (.o ws) = some (ws.length : Int) := rfl
@[simp] theorem lenW_s {ns : List Int} : lenW (.s ns) = some (ns.length : Int) := rfl
@[simp] theorem gN_e {d : D} {ρ : Rho} : gN i d ρ = if i < ρ.length then some (ρ.set i (some (.d d))) else none := rfl
@[simp] theorem gsNil_e {ρ : Rho} : gsNil [] ρ = some ρ := rfl
@[simp] theorem gsCons_e {t : TgF} {u : TgsF} {d : D} {ρ : Rho} : gsCons t u (d :: ds) ρ = (t d ρ).bind (u ds) := rfl
@[simp] theorem gT_e {u : TgsF} {ρ : Rho} : gT i u (.tuple ds) ρ = if ds.length = i then u ds ρ else none := rfl
@[simp] theorem wN_e {w : Wv} {ρ : Rho} : wN i w ρ = if i < ρ.length then some (ρ.set i (some w)) else none := rfl
@[simp] theorem wsNil_e {ρ : Rho} : wsNil [] ρ = some ρ := rfl
@[simp] theorem wsCons_e {t : TwF} {u : TwsF} {w : Wv} {ws : List Wv} {ρ : Rho} : wsCons t u (w :: ws) ρ = (t w ρ).bind (u ws) := rfl
@[simp] theorem wT_e {u : TwsF} {ws : List Wv} {ρ : Rho} : wT i u ws ρ = if ws.length = i then u ws ρ else none := rfl
@[simp] theorem wAt_e {ga : IxF} {w : Wv} {ρ : Rho} : wAt i ga w ρ = (match ρ[i]?, ga ρ with
  | some (some w0), some k => (setW w0 k w).map fun w1 => ρ.set i (some w1)
  | _, _ => none) := rfl
@[simp] theorem wAt2_e {ga gb : IxF} {w : Wv} {ρ : Rho} : wAt2 i ga gb w ρ = (match ρ[i]?, ga ρ, gb ρ with
  | some (some w0), some k, some l => (set2W w0 k l w).map fun w1 => ρ.set i (some w1)
  | _, _, _ => none) := rfl
@[simp] theorem slotI_e {ρ : Rho} : slotI ρ i = (match ρ[i]? with
  | some (some (.d (.int k))) => some k
  | _ => none) := rfl
@[simp] theorem gAdd_e {ga gb : IxF} {ρ : Rho} : gAdd ga gb ρ = (ga ρ).bind fun i => (gb ρ).map fun j => i + j := rfl
@[simp] theorem gSub_e {ga gb : IxF} {ρ : Rho} : gSubI ga gb ρ = (ga ρ).bind fun i => (gb ρ).map fun j => i - j := rfl
@[simp] theorem gNeg_e {ga : IxF} {ρ : Rho} : gNeg ga ρ = (ga ρ).map fun i => -i := rfl
@[simp] theorem gAt_e {ga : IxF} {ρ : Rho} : gAt i ga ρ = (ga ρ).bind fun k => (match ρ[i]? with
  | some (some w) => (atW w k).bind intW
  | _ => none) := rfl
@[simp] theorem wipeR_nil {ρ : Rho} : wipeR ρ [] = ρ := rfl
@[simp] theorem wipeR_cons {ρ : Rho} {vs : List Nat} : wipeR ρ (i :: vs) = (wipeR ρ vs).set i none := rfl
@[simp] theorem restR_nil {ρ r : Rho} : restR ρ [] r = r := rfl
@[simp] theorem restR_cons {ρ r : Rho} {vs : List Nat} : restR ρ (i :: vs) r = (restR ρ vs r).set i (match ρ[i]? with
  | some (some (.d x)) => some (.d x)
  | _ => none) := rfl
@[simp] theorem finR1F {x : Option Wv} {r : Rho} : finR 1 mF (x :: r) = [none] := rfl
@[simp] theorem finR2F {x y : Option Wv} {r : Rho} : finR 2 mF (x :: y :: r) = [none, none] := rfl
@[simp] theorem finR3F {x y z : Option Wv} {r : Rho} : finR 3 mF (x :: y :: z :: r) = [none, none, none] := rfl
@[simp] theorem finR4F {x y z u : Option Wv} {r : Rho} : finR 4 mF (x :: y :: z :: u :: r) = [none, none, none, none] := rfl
@[simp] theorem finR1T {x : Option Wv} {r : Rho} : finR 1 m0 (x :: r) = [x] := rfl
@[simp] theorem finR2T {x y : Option Wv} {r : Rho} : finR 2 m0 (x :: y :: r) = [x, none] := rfl
@[simp] theorem finR3T {x y z : Option Wv} {r : Rho} : finR 3 m0 (x :: y :: z :: r) = [x, none, none] := rfl
@[simp] theorem finR4T {x y z u : Option Wv} {r : Rho} : finR 4 m0 (x :: y :: z :: u :: r) = [x, none, none, none] := rfl
@[simp] theorem pick_nil {α : Type} {l : List α} : pick [] l = [] := rfl
@[simp] theorem pick_cons {α : Type} {l : List α} {is : List Nat} : pick (i :: is) l = (match l[i]? with
  | some x => x :: pick is l
  | none => pick is l) := by
  unfold pick
  rw [List.filterMap_cons]
  cases l[i]? <;> rfl
end
end FW

set_option Elab.async false
set_option linter.all false
set_option maxRecDepth 100000
set_option maxHeartbeats 1000001
namespace FW
open PySem PySem.Spec L2
/-! ## fractions in lowest terms -/
def rq (q : Rat) : D := .tuple [.int q.num, .int q.den]
def rowD (v : List Rat) : D := .tuple (v.map rq)
def formD (m : List (List Rat)) : D := .tuple (m.map rowD)
theorem fdiv_gcd_l (a b : Int) : a.fdiv (Nat.gcd a.natAbs b.natAbs : Nat) = a / (Nat.gcd a.natAbs b.natAbs : Nat) := Int.fdiv_eq_ediv_of_nonneg _ (Int.natCast_nonneg _)
theorem gcd_dvd_l (a b : Int) : ((Nat.gcd a.natAbs b.natAbs : Nat) : Int) ∣ a := Int.ofNat_dvd_left.mpr (Nat.gcd_dvd_left _ _)
theorem gcd_dvd_r (a b : Int) : ((Nat.gcd a.natAbs b.natAbs : Nat) : Int) ∣ b := Int.ofNat_dvd_left.mpr (Nat.gcd_dvd_right _ _)
theorem gcd_ne {a b : Int} (h : b ≠ 0) : ((Nat.gcd a.natAbs b.natAbs : Nat) : Int) ≠ 0 := by
  have : 0 < Nat.gcd a.natAbs b.natAbs := Nat.gcd_pos_of_pos_right _ (Int.natAbs_pos.mpr h)
  omega
theorem frac_num {a b : Int} (h : b ≠ 0) : (a.sign.natAbs : Int) = a.sign.natAbs → (Rat.divInt a b).num = (b.sign * a) / (Nat.gcd a.natAbs b.natAbs : Nat) := fun _ => by
  rw [Rat.num_divInt]
  congr 1
  rw [Int.gcd_comm]
  rfl
theorem frac_den {a b : Int} (h : b ≠ 0) : ((Rat.divInt a b).den : Int) = (b.natAbs : Int) / (Nat.gcd a.natAbs b.natAbs : Nat) := by
  rw [Rat.den_divInt, if_neg h, Int.gcd_comm]
  rfl
/-- number // part, part the divisor with the sign of under -/
theorem frac1 {a b : Int} (h : b ≠ 0) : a.fdiv (if 0 < b then (Nat.gcd a.natAbs b.natAbs : Nat) else -((Nat.gcd a.natAbs b.natAbs : Nat) : Int)) = (Rat.divInt a b).num ∧
    b.fdiv (if 0 < b then (Nat.gcd a.natAbs b.natAbs : Nat) else -((Nat.gcd a.natAbs b.natAbs : Nat) : Int)) = (Rat.divInt a b).den := by
  have g0 := gcd_ne (a := a) h
  obtain ⟨u, hu⟩ := gcd_dvd_l a b
  obtain ⟨v, hv⟩ := gcd_dvd_r a b
  rw [frac_num h rfl, frac_den h]
  generalize hg : ((Nat.gcd a.natAbs b.natAbs : Nat) : Int) = g at *
  have gp : 0 < g := by
    have : 0 ≤ g := by rw [← hg]; exact Int.natCast_nonneg _
    omega
  have ea : a.fdiv g = u := by rw [hu]; exact Int.mul_fdiv_cancel_left _ g0
  have eb : b.fdiv g = v := by rw [hv]; exact Int.mul_fdiv_cancel_left _ g0
  have ea2 : a.fdiv (-g) = -u := by
    have : a = (-g) * (-u) := by rw [hu]; grind
    rw [this]; exact Int.mul_fdiv_cancel_left _ (by omega)
  have eb2 : b.fdiv (-g) = -v := by
    have : b = (-g) * (-v) := by rw [hv]; grind
    rw [this]; exact Int.mul_fdiv_cancel_left _ (by omega)
  by_cases hb : 0 < b
  · rw [if_pos hb, ea, eb, Int.sign_eq_one_of_pos hb]
    constructor
    · rw [Int.one_mul, hu, Int.mul_ediv_cancel_left _ g0]
    · rw [Int.natAbs_of_nonneg (by omega), hv, Int.mul_ediv_cancel_left _ g0]
  · have hn : b < 0 := by omega
    rw [if_neg hb, ea2, eb2, Int.sign_eq_neg_one_of_neg hn]
    constructor
    · have : -1 * a = g * (-u) := by rw [hu]; grind
      rw [this, Int.mul_ediv_cancel_left _ g0]
    · have : (b.natAbs : Int) = g * (-v) := by
        have : (b.natAbs : Int) = -b := by omega
        rw [this, hv]; grind
      rw [this, Int.mul_ediv_cancel_left _ g0]
/-- sign * top // common -/
theorem frac2 {a b : Int} (h : b ≠ 0) : ((if b < 0 then (-1 : Int) else 1) * a).fdiv (Nat.gcd a.natAbs b.natAbs : Nat) = (Rat.divInt a b).num ∧
    ((if b < 0 then (-1 : Int) else 1) * b).fdiv (Nat.gcd a.natAbs b.natAbs : Nat) = (Rat.divInt a b).den := by
  have g0 := gcd_ne (a := a) h
  rw [frac_num h rfl, frac_den h]
  have gp : (0 : Int) ≤ (Nat.gcd a.natAbs b.natAbs : Nat) := Int.natCast_nonneg _
  rw [Int.fdiv_eq_ediv_of_nonneg _ gp, Int.fdiv_eq_ediv_of_nonneg _ gp]
  by_cases hn : b < 0
  · rw [if_pos hn, Int.sign_eq_neg_one_of_neg hn]
    refine ⟨rfl, ?_⟩
    congr 1; omega
  · rw [if_neg hn, Int.sign_eq_one_of_pos (by omega)]
    refine ⟨rfl, ?_⟩
    congr 1; omega
theorem divInt_add (p q : Rat) : Rat.divInt (p.num * q.den + q.num * p.den) (p.den * q.den) = p + q := by
  rw [Rat.add_def', ← Rat.divInt_ofNat]
  congr 1
theorem divInt_sub (p q : Rat) : Rat.divInt (p.num * q.den - q.num * p.den) (p.den * q.den) = p - q := by
  rw [Rat.sub_def', ← Rat.divInt_ofNat]
  congr 1
theorem divInt_mul (p q : Rat) : Rat.divInt (p.num * q.num) (p.den * q.den) = p * q := by
  rw [Rat.mul_def', ← Rat.divInt_ofNat]
  congr 1
theorem den_ne (q : Rat) : (q.den : Int) ≠ 0 := by have := q.den_pos; omega
theorem den_mul_ne (p q : Rat) : (p.den : Int) * q.den ≠ 0 := Int.mul_ne_zero (den_ne p) (den_ne q)
/-! ## how great the parts are -/
def Sz (n : Nat) (q : Rat) : Prop := q.num.natAbs < 2 ^ n ∧ q.den < 2 ^ n
theorem big_lt {i : Int} {n : Nat} (h : i.natAbs < 2 ^ n) (hn : 0 < n) : big i < n := by
  unfold big
  by_cases e : i.natAbs = 0
  · rw [e]; simpa using hn
  · exact (Nat.log2_lt e).mpr h
theorem natAbs_divInt_num (a b : Int) : (Rat.divInt a b).num.natAbs ≤ a.natAbs := by
  by_cases h : b = 0
  · subst h; simp
  · rw [frac_num h rfl]
    have e : ((b.sign * a) / ((Nat.gcd a.natAbs b.natAbs : Nat) : Int)).natAbs ≤ (b.sign * a).natAbs := Int.natAbs_ediv_le_natAbs _ _
    refine Nat.le_trans e ?_
    rw [Int.natAbs_mul]
    have : b.sign.natAbs ≤ 1 := by
      rcases Int.lt_trichotomy b 0 with z | z | z
      · rw [Int.sign_eq_neg_one_of_neg z]; decide
      · rw [z]; decide
      · rw [Int.sign_eq_one_of_pos z]; decide
    calc b.sign.natAbs * a.natAbs ≤ 1 * a.natAbs := Nat.mul_le_mul_right _ this
      _ = a.natAbs := Nat.one_mul _
theorem divInt_den_le {a b : Int} (h : b ≠ 0) : (Rat.divInt a b).den ≤ b.natAbs := by
  rw [Rat.den_divInt, if_neg h]
  exact Nat.div_le_self _ _
theorem sz_divInt {a b : Int} {n : Nat} (h : b ≠ 0) (ha : a.natAbs < 2 ^ n) (hb : b.natAbs < 2 ^ n) : Sz n (Rat.divInt a b) :=
  ⟨Nat.lt_of_le_of_lt (natAbs_divInt_num a b) ha, Nat.lt_of_le_of_lt (divInt_den_le h) hb⟩
theorem Sz.mono {m n : Nat} {q : Rat} (h : Sz m q) (l : m ≤ n) : Sz n q := ⟨Nat.lt_of_lt_of_le h.1 (Nat.pow_le_pow_right (by decide) l), Nat.lt_of_lt_of_le h.2 (Nat.pow_le_pow_right (by decide) l)⟩
theorem mul_lt_pow {a b m n : Nat} (h : a < 2 ^ m) (k : b < 2 ^ n) : a * b < 2 ^ (m + n) := by
  rw [Nat.pow_add]
  exact Nat.mul_lt_mul'' h k
theorem Sz.mul {m n : Nat} {p q : Rat} (h : Sz m p) (k : Sz n q) : Sz (m + n) (p * q) := by
  rw [← divInt_mul]
  refine sz_divInt (den_mul_ne p q) ?_ ?_
  · rw [Int.natAbs_mul]; exact mul_lt_pow h.1 k.1
  · rw [Int.natAbs_mul]; exact mul_lt_pow h.2 k.2
theorem Sz.add {m n : Nat} {p q : Rat} (h : Sz m p) (k : Sz n q) : Sz (m + n + 1) (p + q) := by
  rw [← divInt_add]
  refine sz_divInt (den_mul_ne p q) ?_ ?_
  · have h1 := mul_lt_pow h.1 k.2
    have h2 := mul_lt_pow k.1 h.2
    have h3 : (p.num * q.den + q.num * p.den).natAbs ≤ p.num.natAbs * q.den + q.num.natAbs * p.den := by
      refine Nat.le_trans (Int.natAbs_add_le _ _) ?_
      rw [Int.natAbs_mul, Int.natAbs_mul]
      exact Nat.le_refl _
    rw [Nat.pow_succ]
    rw [Nat.add_comm n m] at h2
    omega
  · rw [Int.natAbs_mul]
    exact Nat.lt_of_lt_of_le (mul_lt_pow h.2 k.2) (Nat.pow_le_pow_right (by decide) (by omega))
theorem sz_zero : Sz 1 0 := ⟨by decide, by decide⟩
theorem eq_of {α : Type} {o : Out α} {a : α} {r : Rho} (h : Gs o fun x y => x = a ∧ y = r) : o = .ok a r := by
  obtain ⟨x, y, e, e1, e2⟩ := h.ex
  rw [e, e1, e2]
theorem atI_n {α : Type} {xs : List α} {j : Nat} : atI xs (j : Int) = xs[j]? := by
  unfold atI ixN
  by_cases h : j < xs.length
  · rw [if_pos (by omega), if_pos (by omega)]; simp
  · rw [if_pos (by omega), if_neg (by omega)]; simp; omega
@[simp] theorem atI_0 {α : Type} {xs : List α} : atI xs 0 = xs[0]? := atI_n (j := 0)
@[simp] theorem atI_1 {α : Type} {xs : List α} : atI xs 1 = xs[1]? := atI_n (j := 1)
@[simp] theorem atI_2 {α : Type} {xs : List α} : atI xs 2 = xs[2]? := atI_n (j := 2)
@[simp] theorem atI_3 {α : Type} {xs : List α} : atI xs 3 = xs[3]? := atI_n (j := 3)
@[simp] theorem atI_c {α : Type} {xs : List α} {j : Nat} : atI xs (j : Int) = xs[j]? := atI_n
/-! ## rows and forms by functions -/
def rowF (n : Nat) (g : Nat → Rat) : D := .tuple ((List.range n).map fun j => rq (g j))
def formF (n : Nat) (f : Nat → Nat → Rat) : D := .tuple ((List.range n).map fun i => rowF n (f i))
def sumR : Nat → (Nat → Rat) → Rat
  | 0, _ => 0
  | n + 1, f => sumR n f + f n
theorem sumR_congr {f g : Nat → Rat} : ∀ {n : Nat}, (∀ i < n, f i = g i) → sumR n f = sumR n g
  | 0, _ => rfl
  | n + 1, h => by rw [sumR, sumR, sumR_congr fun i hi => h i (by omega), h n (by omega)]
theorem sumR_add {f g : Nat → Rat} : ∀ {n : Nat}, sumR n (fun i => f i + g i) = sumR n f + sumR n g
  | 0 => by simp only [sumR]; grind
  | n + 1 => by simp only [sumR]; rw [sumR_add (n := n)]; grind
theorem sumR_mul {c : Rat} {f : Nat → Rat} : ∀ {n : Nat}, sumR n (fun i => c * f i) = c * sumR n f
  | 0 => by simp only [sumR]; grind
  | n + 1 => by simp only [sumR]; rw [sumR_mul (n := n)]; grind
theorem sumR_zero : ∀ {n : Nat}, sumR n (fun _ => 0) = 0
  | 0 => rfl
  | n + 1 => by rw [sumR, sumR_zero (n := n)]; grind
theorem sumR_swap {f : Nat → Nat → Rat} {m : Nat} : ∀ {n : Nat}, sumR n (fun i => sumR m (f i)) = sumR m (fun j => sumR n fun i => f i j)
  | 0 => by simp only [sumR]; exact sumR_zero.symm
  | n + 1 => by simp only [sumR]; rw [sumR_swap (n := n), ← sumR_add]
theorem sz_sumR {k : Nat} {f : Nat → Rat} : ∀ {n : Nat}, (∀ i < n, Sz k (f i)) → Sz (n * (k + 1) + 1) (sumR n f)
  | 0, _ => sz_zero.mono (by omega)
  | n + 1, h => by
    rw [sumR]
    refine ((sz_sumR fun i hi => h i (by omega)).add (h n (by omega))).mono ?_
    rw [Nat.succ_mul]; omega
theorem rq_shaped (q : Rat) : SeqAt.shaped (rq q) = true := rfl
@[simp] theorem rowF_len {n : Nat} {g : Nat → Rat} : ((List.range n).map fun j => rq (g j)).length = n := by simp
theorem rng_get {α : Type} {n j : Nat} {F : Nat → α} (h : j < n) : ((List.range n).map F)[j]? = some (F j) := by
  rw [List.getElem?_map, List.getElem?_range h]; rfl
theorem rngD_mem {x : D} {m : Nat} (h : x ∈ rngD 0 m) : ∃ j, j < m ∧ x = .int (j : Int) := by
  unfold rngD at h
  obtain ⟨j, hj, e⟩ := List.mem_map.mp h
  exact ⟨j, List.mem_range.mp hj, by rw [← e]; simp⟩
theorem rngD_eq {m : Nat} : rngD 0 m = (List.range m).map fun (j : Nat) => .int (j : Int) := by unfold rngD; simp
theorem zipD_map {α : Type} {f g : α → D} {xs : List α} : zipD (xs.map f) (xs.map g) = xs.map fun x => .tuple [f x, g x] := by
  unfold zipD
  induction xs with
  | nil => rfl
  | cons x xs ih => simp [ih]
end FW

set_option Elab.async false
set_option linter.all false
set_option maxRecDepth 100000
set_option maxHeartbeats 1000001
namespace FW
open PySem PySem.Spec L2
/-! ## data that repr tells -/
structure Rp (dp bk : Nat) (d : D) : Prop where
  sh : d.showable = true
  cl : d.canLay0 = true
  dh : d.depth ≤ dp
  ls : d.leavesShort 641 = true
  bk : d.bulk ≤ bk
theorem Rp.mono {a b c e : Nat} {d : D} (h : Rp a b d) (h1 : a ≤ c) (h2 : b ≤ e) : Rp c e d := ⟨h.sh, h.cl, Nat.le_trans h.dh h1, h.ls, Nat.le_trans h.bk h2⟩
theorem Rp.int {i : Int} (h : i.natAbs < 2 ^ 1900) : Rp 0 0 (.int i) := by
  refine ⟨?_, rfl, Nat.le_refl _, ?_, Nat.le_refl _⟩
  · show decide (i.natAbs.log2 < 1920) = true
    exact decide_eq_true (Nat.lt_trans (big_lt h (by decide)) (by decide))
  · show decide ((PyData.shown (.int i)).length ≤ 641) = true
    refine decide_eq_true ?_
    have e : i.natAbs < 10 ^ 640 := by
      refine Nat.lt_of_lt_of_le h (Nat.le_trans (Nat.pow_le_pow_right (by decide) (show 1900 ≤ 3 * 640 by decide)) ?_)
      rw [Nat.pow_mul]
      exact Nat.pow_le_pow_left (by decide) 640
    have := int_text_length_le10 (k := 640) (by decide) e
    show (Str.ofString (toString i)).length ≤ 641
    rw [ofString_length]; exact this
theorem Rp.all {dp bk n : Nat} : ∀ {xs : List D}, (∀ x ∈ xs, Rp dp bk x) → xs.length ≤ n → PyData.showableAll xs = true ∧ PyData.canLayAll0 xs = true ∧ PyData.depthAll xs ≤ dp ∧ PyData.leavesShortAll 641 xs = true ∧ PyData.bulkAll xs ≤ xs.length * (bk + 1)
  | [], _, _ => ⟨rfl, rfl, Nat.zero_le _, rfl, by simp [PyData.bulkAll]⟩
  | x :: xs, h, hl => by
    have r := h x (by simp)
    obtain ⟨h1, h2, h3, h4, h5⟩ := Rp.all (n := xs.length) (fun y hy => h y (by simp [hy])) (Nat.le_refl _)
    have hb := r.bk
    refine ⟨?_, ?_, ?_, ?_, ?_⟩
    · rw [PyData.showableAll, r.sh, h1]; rfl
    · rw [PyData.canLayAll0, r.cl, h2]; rfl
    · rw [PyData.depthAll]; exact Nat.max_le.mpr ⟨r.dh, h3⟩
    · rw [PyData.leavesShortAll, r.ls, h4]; rfl
    · rw [PyData.bulkAll, List.length_cons, Nat.succ_mul]; omega
theorem Rp.tuple {dp bk n : Nat} {xs : List D} (h : ∀ x ∈ xs, Rp dp bk x) (hl : xs.length ≤ n) : Rp (dp + 1) (n * (bk + 1)) (.tuple xs) := by
  obtain ⟨h1, h2, h3, h4, h5⟩ := Rp.all h hl
  exact ⟨h1, h2, by rw [PyData.depth]; omega, h4, by rw [PyData.bulk]; exact Nat.le_trans h5 (Nat.mul_le_mul_right _ hl)⟩
theorem Rp.list {dp bk n : Nat} {xs : List D} (h : ∀ x ∈ xs, Rp dp bk x) (hl : xs.length ≤ n) : Rp (dp + 1) (n * (bk + 1)) (.list xs) := by
  obtain ⟨h1, h2, h3, h4, h5⟩ := Rp.all h hl
  exact ⟨h1, h2, by rw [PyData.depth]; omega, h4, by rw [PyData.bulk]; exact Nat.le_trans h5 (Nat.mul_le_mul_right _ hl)⟩
theorem pRepr_ok {d : D} (h : Rp 60 1500 d) : pRepr [d] = some (.d (.str d.shown)) := by
  rw [pRepr, if_pos]
  refine ⟨h.sh, PyData.hasDict_of_canLay d h.cl, h.cl, h.dh, ?_⟩
  have := PyData.shown_le_bulk 641 (by decide) d h.ls
  have h2 := Nat.mul_le_mul_left (641 + 2) h.bk
  omega
theorem Rp.rq {n : Nat} {q : Rat} (h : Sz n q) (hn : n ≤ 1900) : Rp 1 2 (rq q) := by
  have h' := h.mono hn
  refine Rp.tuple (dp := 0) (bk := 0) (n := 2) (xs := [.int q.num, .int q.den]) (fun x hx => ?_) (Nat.le_refl _)
  simp at hx
  rcases hx with rfl | rfl
  · exact Rp.int h'.1
  · exact Rp.int h'.2
theorem Rp.rowF {n k : Nat} {g : Nat → Rat} (h : ∀ i < n, Sz k (g i)) (hk : k ≤ 1900) : Rp 2 (n * 3) (rowF n g) := by
  refine Rp.tuple (dp := 1) (bk := 2) (n := n) (fun x hx => ?_) (by simp)
  obtain ⟨i, hi, rfl⟩ := List.mem_map.mp hx
  exact Rp.rq (h i (List.mem_range.mp hi)) hk
end FW

set_option Elab.async false
set_option linter.all false
set_option maxRecDepth 100000
set_option maxHeartbeats 4000001
namespace LW
open PySem PySem.Spec PyProof.Rows L2 FW
def topS (i : Nat) : Stmt := PySem.Challenge.pw_everyface_k02_led_products_worths_parts.main.body.getD i (.Pass ⟨0, 0, 0, 0⟩)

abbrev s_is_whole : Stmt := topS 7
abbrev s_are_wholes : Stmt := topS 8
abbrev s_divisor_of : Stmt := topS 10
abbrev s_is_reduced : Stmt := topS 11
abbrev s_is_ratio : Stmt := topS 14
abbrev s_are_ratios : Stmt := topS 20
abbrev s_is_formed : Stmt := topS 21
abbrev s_check_form : Stmt := topS 22
abbrev s_check_row_of : Stmt := topS 23
abbrev s_ratio_with : Stmt := topS 15
abbrev s_ratio_product : Stmt := topS 17
abbrev s_ratio_sum : Stmt := topS 16
abbrev s_total_of : Stmt := topS 27
abbrev s_dot : Stmt := topS 28
abbrev s_led_by : Stmt := topS 30
abbrev s_led : Stmt := topS 35
abbrev s_product_by : Stmt := topS 31
abbrev s_product : Stmt := topS 36
abbrev s_worth_by : Stmt := topS 32
abbrev s_worth : Stmt := topS 37
abbrev s_is_between : Stmt := topS 9
abbrev s_wrong_in_lot : Stmt := topS 24
abbrev s_check_lot : Stmt := topS 25
abbrev s_part_on : Stmt := topS 33
abbrev s_part_of : Stmt := topS 38
abbrev s__law_deck : Stmt := topS 40
abbrev s__law_roll : Stmt := topS 41
abbrev s__law_pick : Stmt := topS 42
abbrev s__law_gcd : Stmt := topS 44
abbrev s__law_frac : Stmt := topS 45
abbrev s__law_plus : Stmt := topS 46
abbrev s__law_times : Stmt := topS 47
abbrev s__law_dot : Stmt := topS 48
abbrev s__law_led : Stmt := topS 49
abbrev s__law_worth : Stmt := topS 50
abbrev s__law_wholes : Stmt := topS 43
abbrev s__law_spots : Stmt := topS 51
abbrev s__law_table : Stmt := topS 52
abbrev s__law_form : Stmt := topS 53
abbrev s__law_line : Stmt := topS 54
abbrev s_law : Stmt := topS 55
noncomputable def d_is_whole : DS := mkDef 1 1 mF
  ((sRet (sAndV (sIsi "int" (sVar 0)) (sNotV (sIsi "bool" (sVar 0))))))
noncomputable def d_are_wholes : DS := mkDef 3 2 mF
  ((sRet (sAndV (sIsi "tuple" (sVar 0)) (sAndV (sBin pEq (sCall pLen (aCons (sVar 0) aNil)) (sVar 1)) (sCall pAll (aCons (sComp [2] (iSeq (sVar 0)) (gN 2) tYesB (sCallW d_is_whole (wCons (sVar 2) wNil))) aNil))))))
noncomputable def d_divisor_of : DS := mkDef 3 1 mF
  ((sCons (sSet 1 (sK (.int 0)))
  (sCons (sFor (iSeq (sVar 0)) (gN 2) (sSet 1 (sCall pGcd (aCons (sVar 1) (aCons (sVar 2) aNil)))))
  (sRet (sMove 1)))))
noncomputable def d_is_reduced : DS := mkDef 1 1 mF
  ((sRet (sBin pEq (sCallW d_divisor_of (wCons (sVar 0) wNil)) (sK (.int 1)))))
noncomputable def d_is_ratio : DS := mkDef 1 1 mF
  ((sRet (sAndV (sCallW d_are_wholes (wCons (sVar 0) (wCons (sK (.int 2)) wNil))) (sAndV (sBin pGt (sAt 0 (sK (.int 1))) (sK (.int 0))) (sCallW d_is_reduced (wCons (sVar 0) wNil))))))
noncomputable def d_are_ratios : DS := mkDef 3 2 mF
  ((sRet (sAndV (sIsi "tuple" (sVar 0)) (sAndV (sBin pEq (sCall pLen (aCons (sVar 0) aNil)) (sVar 1)) (sCall pAll (aCons (sComp [2] (iSeq (sVar 0)) (gN 2) tYesB (sCallW d_is_ratio (wCons (sVar 2) wNil))) aNil))))))
noncomputable def d_is_formed : DS := mkDef 4 1 mF
  ((sCons (sIte (tOrB (tNotB (sT (sIsi "tuple" (sVar 0)))) (tNotB (sT (sChain leB leB (sK (.int 1)) (sCall pLen (aCons (sVar 0) aNil)) (sK (.int 6)))))) (sRet (sK (.bool false))) sNil)
  (sCons (sIte (tNotB (sT (sCall pAll (aCons (sComp [3] (iSeq (sVar 0)) (gN 3) tYesB (sCallW d_are_ratios (wCons (sVar 3) (wCons (sCall pLen (aCons (sVar 0) aNil)) wNil)))) aNil)))) (sRet (sK (.bool false))) sNil)
  (sRet (sCall pAll (aCons (sComp2 [1, 2] [2] (iRange1 (aCons (sCall pLen (aCons (sVar 0) aNil)) aNil)) (gN 1) tYesB (iRange1 (aCons (sVar 1) aNil)) (gN 2) tYesB (sBin pEq (sBin pIx (sAt 0 (sVar 1)) (sVar 2)) (sBin pIx (sAt 0 (sVar 2)) (sVar 1)))) aNil))))))
noncomputable def d_check_form : DS := mkDef 1 1 mF
  ((sIte (tNotB (sT (sCallW d_is_formed (wCons (sVar 0) wNil)))) sBad sNil))
noncomputable def d_check_row_of : DS := mkDef 4 2 mF
  ((sCons (sIte (tOrB (tNotB (sT (sIsi "tuple" (sVar 1)))) (sT (sBin pNe (sCall pLen (aCons (sVar 1) aNil)) (sVar 0)))) sBad sNil)
  (sFor (iEnum1 (aCons (sVar 1) aNil)) (gT 2 (gsCons (gN 2) (gsCons (gN 3) gsNil))) (sIte (tNotB (sT (sCallW d_is_ratio (wCons (sVar 3) wNil)))) sBad sNil))))
noncomputable def d_ratio_with : DS := mkDef 3 2 mF
  ((sCons (sSet 2 (sCallW d_divisor_of (wCons (sTup (aCons (sVar 0) (aCons (sVar 1) aNil))) wNil)))
  (sCons (sSet 2 (sIf (sT (sBin pGt (sVar 1) (sK (.int 0)))) (sVar 2) (sNeg (sVar 2))))
  (sRet (sTup (aCons (sBin pDiv (sVar 0) (sVar 2)) (aCons (sBin pDiv (sVar 1) (sVar 2)) aNil)))))))
noncomputable def d_ratio_product : DS := mkDef 2 2 mF
  ((sRet (sCallW d_ratio_with (wCons (sBin pMul (sAt 0 (sK (.int 0))) (sAt 1 (sK (.int 0)))) (wCons (sBin pMul (sAt 0 (sK (.int 1))) (sAt 1 (sK (.int 1)))) wNil)))))
noncomputable def d_ratio_sum : DS := mkDef 2 2 mF
  ((sRet (sCallW d_ratio_with (wCons (sBin pAdd (sBin pMul (sAt 0 (sK (.int 0))) (sAt 1 (sK (.int 1)))) (sBin pMul (sAt 1 (sK (.int 0))) (sAt 0 (sK (.int 1))))) (wCons (sBin pMul (sAt 0 (sK (.int 1))) (sAt 1 (sK (.int 1)))) wNil)))))
noncomputable def d_total_of : DS := mkDef 3 1 mF
  ((sCons (sSet 1 (sK (.tuple [(.int 0), (.int 1)])))
  (sCons (sFor (iSeq (sVar 0)) (gN 2) (sSet 1 (sCallW d_ratio_sum (wCons (sVar 1) (wCons (sVar 2) wNil)))))
  (sRet (sMove 1)))))
noncomputable def d_dot : DS := mkDef 4 2 mF
  ((sRet (sCallW d_total_of (wCons (sComp [2, 3] (iZip2 (aCons (sVar 0) (aCons (sVar 1) aNil))) (gT 2 (gsCons (gN 2) (gsCons (gN 3) gsNil))) tYesB (sCallW d_ratio_product (wCons (sVar 2) (wCons (sVar 3) wNil)))) wNil))))
noncomputable def d_led_by : DS := mkDef 3 2 mF
  ((sRet (sCall pTuple (aCons (sComp [2] (iSeq (sVar 0)) (gN 2) tYesB (sCallW d_dot (wCons (sVar 2) (wCons (sVar 1) wNil)))) aNil))))
noncomputable def d_led : DS := mkDef 2 2 mF
  ((sCons (sDrop (sCallW d_check_form (wCons (sVar 0) wNil)))
  (sCons (sDrop (sCallW d_check_row_of (wCons (sCall pLen (aCons (sVar 0) aNil)) (wCons (sVar 1) wNil))))
  (sRet (sCallW d_led_by (wCons (sVar 0) (wCons (sVar 1) wNil)))))))
noncomputable def d_product_by : DS := mkDef 3 3 mF
  ((sRet (sCallW d_dot (wCons (sVar 1) (wCons (sCallW d_led_by (wCons (sVar 0) (wCons (sVar 2) wNil))) wNil)))))
noncomputable def d_product : DS := mkDef 3 3 mF
  ((sCons (sDrop (sCallW d_check_form (wCons (sVar 0) wNil)))
  (sCons (sDrop (sCallW d_check_row_of (wCons (sCall pLen (aCons (sVar 0) aNil)) (wCons (sVar 1) wNil))))
  (sCons (sDrop (sCallW d_check_row_of (wCons (sCall pLen (aCons (sVar 0) aNil)) (wCons (sVar 2) wNil))))
  (sRet (sCallW d_product_by (wCons (sVar 0) (wCons (sVar 1) (wCons (sVar 2) wNil)))))))))
noncomputable def d_worth_by : DS := mkDef 2 2 mF
  ((sRet (sCallW d_product_by (wCons (sVar 0) (wCons (sVar 1) (wCons (sVar 1) wNil))))))
noncomputable def d_worth : DS := mkDef 2 2 mF
  ((sCons (sDrop (sCallW d_check_form (wCons (sVar 0) wNil)))
  (sCons (sDrop (sCallW d_check_row_of (wCons (sCall pLen (aCons (sVar 0) aNil)) (wCons (sVar 1) wNil))))
  (sRet (sCallW d_worth_by (wCons (sVar 0) (wCons (sVar 1) wNil)))))))
noncomputable def d_is_between : DS := mkDef 3 3 mF
  ((sRet (sAndV (sCallW d_is_whole (wCons (sVar 0) wNil)) (sChain leB leB (sVar 1) (sVar 0) (sVar 2)))))
noncomputable def d_wrong_in_lot : DS := mkDef 5 2 mF
  ((sCons (sSet 2 (sNeg (sK (.int 1))))
  (sCons (sFor (iEnum1 (aCons (sVar 1) aNil)) (gT 2 (gsCons (gN 3) (gsCons (gN 4) gsNil))) (sCons (sIte (tNotB (sT (sCallW d_is_between (wCons (sVar 4) (wCons (sBin pAdd (sVar 2) (sK (.int 1))) (wCons (sBin pSub (sVar 0) (sK (.int 1))) wNil)))))) (sRet (sMove 3)) sNil)
  (sSet 2 (sVar 4))))
  (sRet (sK .none)))))
noncomputable def d_check_lot : DS := mkDef 3 2 mF
  ((sCons (sIte (tOrB (tNotB (sT (sIsi "tuple" (sVar 1)))) (sT (sBin pEq (sVar 1) (sTup aNil)))) sBad sNil)
  (sCons (sSet 2 (sCallW d_wrong_in_lot (wCons (sVar 0) (wCons (sVar 1) wNil))))
  (sIte (sT (sBin pIsNot (sVar 2) (sK .none))) sBad sNil))))
noncomputable def d_part_on : DS := mkDef 4 2 mF
  ((sRet (sCall pTuple (aCons (sComp [2] (iSeq (sVar 1)) (gN 2) tYesB (sCall pTuple (aCons (sComp [3] (iSeq (sVar 1)) (gN 3) tYesB (sBin pIx (sAt 0 (sVar 2)) (sVar 3))) aNil))) aNil))))
noncomputable def d_part_of : DS := mkDef 2 2 mF
  ((sCons (sDrop (sCallW d_check_form (wCons (sVar 0) wNil)))
  (sCons (sDrop (sCallW d_check_lot (wCons (sCall pLen (aCons (sVar 0) aNil)) (wCons (sVar 1) wNil))))
  (sRet (sCallW d_part_on (wCons (sVar 0) (wCons (sVar 1) wNil)))))))
noncomputable def d__law_deck : DS := mkDef 6 3 m0
  ((sCons (sSet 3 (sBin pAdd (sVar 2) (sBin pMul (sK (.int 104651)) (sVar 1))))
  (sCons (sFor (iSeq (sCutS 0 12)) (gN 4) (sSet 3 (sBin pMod (sCall pInt (aCons (sBin pAdd (sBin pAdd (sBin pMul (sVar 3) (sK (.int 48073))) (sBin pMul (sBin pMod (sCall pInt (aCons (sVar 4) aNil)) (sK (.int 1000000093))) (sK (.int 3)))) (sK (.int 77))) aNil)) (sK (.int 2147483629)))))
  (sCons (sSet 5 (sIf (sT (sBin pLt (sVar 1) (sLenAt 0))) (sCall pAbs (aCons (sCall pInt (aCons (sAt 0 (sVar 1)) aNil)) aNil)) (sK (.int 0))))
  (sRet (sLst (aCons (sIf (sT (sBin pGe (sVar 5) (sBin pPow (sK (.int 10)) (sK (.int 18))))) (sVar 5) (sK (.int 0))) (aCons (sVar 3) (aCons (sVar 2) aNil)))))))))
noncomputable def d__law_roll : DS := mkDef 3 2 m0
  ((sCons (sIte (sT (sBin pGt (sAt 0 (sK (.int 0))) (sK (.int 0)))) (sCons (sSet 2 (sBin pMod (sCall pInt (aCons (sAt 0 (sK (.int 0))) aNil)) (sVar 1)))
  (sCons (sAsgW (wAt 0 (fun _ => some 0)) (sBin pDiv (sAt 0 (sK (.int 0))) (sVar 1)))
  (sRet (sMove 2)))) sNil)
  (sCons (sAsgW (wAt 0 (fun _ => some 2)) (sBin pMod (sCall pInt (aCons (sBin pAdd (sBin pMul (sAt 0 (sK (.int 2))) (sK (.int 5))) (sK (.int 4021))) aNil)) (sK (.int 65536))))
  (sCons (sAsgW (wAt 0 (fun _ => some 1)) (sBin pMod (sCall pInt (aCons (sBin pAdd (sBin pAdd (sBin pMul (sAt 0 (sK (.int 1))) (sK (.int 39373))) (sAt 0 (sK (.int 2)))) (sK (.int 1))) aNil)) (sK (.int 2147483629))))
  (sRet (sBin pMod (sCall pInt (aCons (sBin pDiv (sAt 0 (sK (.int 1))) (sK (.int 1013))) aNil)) (sVar 1)))))))
noncomputable def d__law_pick : DS := mkDef 2 2 m0
  ((sRet (sAt 1 (sCallA d__law_roll 0 (wCons (sCall pLen (aCons (sVar 1) aNil)) wNil)))))
noncomputable def d__law_gcd : DS := mkDef 2 2 mF
  ((sCons (sWhile (sT (sBin pGt (sVar 1) (sK (.int 0)))) (sTupW 2 (wsCons (wN 0) (wsCons (wN 1) wsNil)) (wCons (sVar 1) (wCons (sBin pMod (sCall pInt (aCons (sVar 0) aNil)) (sVar 1)) wNil))))
  (sRet (sMove 0))))
noncomputable def d__law_frac : DS := mkDef 4 2 mF
  ((sCons (sSet 2 (sIf (sT (sBin pLt (sVar 1) (sK (.int 0)))) (sNeg (sK (.int 1))) (sK (.int 1))))
  (sCons (sSet 3 (sCallW d__law_gcd (wCons (sCall pAbs (aCons (sVar 1) aNil)) (wCons (sCall pAbs (aCons (sVar 0) aNil)) wNil))))
  (sRet (sTup (aCons (sBin pDiv (sBin pMul (sVar 2) (sVar 0)) (sVar 3)) (aCons (sBin pDiv (sBin pMul (sVar 2) (sVar 1)) (sVar 3)) aNil)))))))
noncomputable def d__law_plus : DS := mkDef 2 2 mF
  ((sRet (sCallW d__law_frac (wCons (sBin pAdd (sBin pMul (sAt 0 (sK (.int 0))) (sAt 1 (sK (.int 1)))) (sBin pMul (sAt 1 (sK (.int 0))) (sAt 0 (sK (.int 1))))) (wCons (sBin pMul (sAt 0 (sK (.int 1))) (sAt 1 (sK (.int 1)))) wNil)))))
noncomputable def d__law_times : DS := mkDef 2 2 mF
  ((sRet (sCallW d__law_frac (wCons (sBin pMul (sAt 0 (sK (.int 0))) (sAt 1 (sK (.int 0)))) (wCons (sBin pMul (sAt 0 (sK (.int 1))) (sAt 1 (sK (.int 1)))) wNil)))))
noncomputable def d__law_dot : DS := mkDef 5 2 mF
  ((sCons (sSet 2 (sTup (aCons (sK (.int 0)) (aCons (sK (.int 1)) aNil))))
  (sCons (sFor (iZip2 (aCons (sVar 0) (aCons (sVar 1) aNil))) (gT 2 (gsCons (gN 3) (gsCons (gN 4) gsNil))) (sSet 2 (sCallW d__law_plus (wCons (sVar 2) (wCons (sCallW d__law_times (wCons (sVar 3) (wCons (sVar 4) wNil))) wNil)))))
  (sRet (sMove 2)))))
noncomputable def d__law_led : DS := mkDef 3 2 mF
  ((sRet (sCall pTuple (aCons (sComp [2] (iSeq (sVar 0)) (gN 2) tYesB (sCallW d__law_dot (wCons (sVar 2) (wCons (sVar 1) wNil)))) aNil))))
noncomputable def d__law_worth : DS := mkDef 2 2 mF
  ((sRet (sCallW d__law_dot (wCons (sVar 1) (wCons (sCallW d__law_led (wCons (sVar 0) (wCons (sVar 1) wNil))) wNil)))))
noncomputable def d__law_wholes : DS := mkDef 6 4 m0
  ((sCons (sSet 4 (sLst aNil))
  (sCons (sFor (iRange1 (aCons (sVar 1) aNil)) (gN 5) (sApp 4 (sBin pAdd (sVar 2) (sCallA d__law_roll 0 (wCons (sVar 3) wNil)))))
  (sRet (sMove 4)))))
noncomputable def d__law_spots : DS := mkDef 4 2 m0
  ((sCons (sSet 2 (sCallA d__law_wholes 0 (wCons (sVar 1) (wCons (sK (.int 0)) (wCons (sK (.int 2)) wNil)))))
  (sCons (sSetE 2 (sCallA d__law_roll 0 (wCons (sVar 1) wNil)) (sK (.int 1)))
  (sRet (sCall pTuple (aCons (sComp [3] (iRange1 (aCons (sVar 1) aNil)) (gN 3) (sT (sBin pEq (sAt 2 (sVar 3)) (sK (.int 1)))) (sVar 3)) aNil))))))
noncomputable def d__law_table : DS := mkDef 4 2 mF
  ((sRet (sCall pTuple (aCons (sComp [2] (iSeq (sVar 0)) (gN 2) tYesB (sCall pTuple (aCons (sComp [3] (iSeq (sVar 2)) (gN 3) tYesB (sCallW d__law_frac (wCons (sVar 3) (wCons (sVar 1) wNil)))) aNil))) aNil))))
noncomputable def d__law_form : DS := mkDef 10 2 m0
  ((sCons (sTupW 2 (wsCons (wN 2) (wsCons (wN 3) wsNil)) (wCons (sCallA d__law_roll 0 (wCons (sK (.int 6)) wNil)) (wCons (sCallA d__law_pick 0 (wCons (sLst (aCons (sK (.int 1)) (aCons (sK (.int 1)) (aCons (sK (.int 1)) (aCons (sK (.int 2)) (aCons (sK (.int 3)) aNil)))))) wNil)) wNil)))
  (sCons (sSet 5 (sComp [4] (iRange1 (aCons (sVar 1) aNil)) (gN 4) tYesB (sBin pMul (sLst (aCons (sK (.int 0)) aNil)) (sVar 1))))
  (sCons (sIte (tOrB (sT (sBin pEq (sVar 2) (sK (.int 1)))) (sT (sBin pEq (sVar 2) (sK (.int 3))))) (sFor (iRange1 (aCons (sBin pAdd (sK (.int 1)) (sCallA d__law_roll 0 (wCons (sK (.int 2)) wNil))) aNil)) (gN 6) (sCons (sSet 7 (sCallA d__law_wholes 0 (wCons (sVar 1) (wCons (sNeg (sK (.int 1))) (wCons (sK (.int 4)) wNil)))))
  (sSet 5 (sComp [4] (iRange1 (aCons (sVar 1) aNil)) (gN 4) tYesB (sComp [8] (iRange1 (aCons (sVar 1) aNil)) (gN 8) tYesB (sBin pAdd (sAt2 5 (slotI · 4) (slotI · 8)) (sBin pMul (sAt 7 (sVar 4)) (sAt 7 (sVar 8))))))))) sNil)
  (sCons (sFor (iRange1 (aCons (sVar 1) aNil)) (gN 4) (sFor (iRange2 (aCons (sVar 4) (aCons (sVar 1) aNil))) (gN 8) (sCons (sSet 9 (sK (.int 0)))
  (sCons (sIte (sT (sBin pEq (sVar 2) (sK (.int 0)))) (sSet 9 (sBin pSub (sCallA d__law_roll 0 (wCons (sK (.int 6)) wNil)) (sK (.int 2)))) (sIte (tOrB (sT (sBin pEq (sVar 2) (sK (.int 2)))) (sT (sBin pEq (sVar 2) (sK (.int 3))))) (sSet 9 (sCallA d__law_roll 0 (wCons (sK (.int 3)) wNil))) (sIte (sT (sBin pEq (sVar 2) (sK (.int 4)))) (sSet 9 (sIf (sT (sBin pEq (sVar 4) (sVar 8))) (sK (.int 1)) (sCallA d__law_roll 0 (wCons (sK (.int 3)) wNil)))) (sIte (sT (sBin pEq (sVar 2) (sK (.int 5)))) (sSet 9 (sBin pSub (sK (.int 1)) (sBin pDiv (sCallA d__law_roll 0 (wCons (sK (.int 4)) wNil)) (sK (.int 3))))) sNil))))
  (sCons (sAsgW (wAt2 5 (slotI · 4) (slotI · 8)) (sBin pAdd (sAt2 5 (slotI · 4) (slotI · 8)) (sVar 9)))
  (sAsgW (wAt2 5 (slotI · 8) (slotI · 4)) (sAt2 5 (slotI · 4) (slotI · 8))))))))
  (sRet (sCallW d__law_table (wCons (sVar 5) (wCons (sVar 3) wNil)))))))))
noncomputable def d__law_line : DS := mkDef 6 2 m0
  ((sCons (sTupW 2 (wsCons (wN 2) (wsCons (wN 3) wsNil)) (wCons (sLst aNil) (wCons (sCallA d__law_pick 0 (wCons (sLst (aCons (sK (.int 1)) (aCons (sK (.int 1)) (aCons (sK (.int 1)) (aCons (sK (.int 1000000007)) aNil))))) wNil)) wNil)))
  (sCons (sFor (iRange1 (aCons (sVar 1) aNil)) (gN 4) (sCons (sSet 5 (sBin pSub (sCallA d__law_roll 0 (wCons (sK (.int 9)) wNil)) (sK (.int 4))))
  (sApp 2 (sCallW d__law_frac (wCons (sBin pMul (sVar 5) (sVar 3)) (wCons (sBin pAdd (sK (.int 1)) (sCallA d__law_roll 0 (wCons (sK (.int 3)) wNil))) wNil))))))
  (sRet (sCall pTuple (aCons (sVar 2) aNil))))))
noncomputable def d_law : DS := mkDef 15 1 m0
  ((sCons (sFor (iRange1 (aCons (sCall pMax2 (aCons (sK (.int 1)) (aCons (sCall pMin2 (aCons (sLenAt 0) (aCons (sK (.int 3)) aNil))) aNil))) aNil)) (gN 1) (sCons (sSet 2 (sCallA d__law_deck 0 (wCons (sVar 1) (wCons (sK (.int 2203)) wNil))))
  (sCons (sSet 3 (sCallA d__law_pick 2 (wCons (sLst (aCons (sK (.int 1)) (aCons (sK (.int 2)) (aCons (sK (.int 2)) (aCons (sK (.int 3)) (aCons (sK (.int 3)) (aCons (sK (.int 4)) (aCons (sK (.int 5)) (aCons (sK (.int 6)) aNil))))))))) wNil)))
  (sCons (sSet 4 (sCallA d__law_form 2 (wCons (sVar 3) wNil)))
  (sCons (sTupW 2 (wsCons (wN 5) (wsCons (wN 6) wsNil)) (wCons (sCallA d__law_line 2 (wCons (sVar 3) wNil)) (wCons (sCallA d__law_line 2 (wCons (sVar 3) wNil)) wNil)))
  (sCons (sSet 7 (sCallA d__law_spots 2 (wCons (sVar 3) wNil)))
  (sCons (sSet 8 (sCallW d__law_led (wCons (sVar 4) (wCons (sVar 6) wNil))))
  (sCons (sSet 9 (sLst (aCons (sCallW d_led (wCons (sVar 4) (wCons (sVar 6) wNil))) (aCons (sCallK d_led 2 [1, 0] (aCons (sVar 6) (aCons (sVar 4) aNil))) (aCons (sCallW d_product (wCons (sVar 4) (wCons (sVar 5) (wCons (sVar 6) wNil)))) aNil)))))
  (sCons (sSet 9 (sBin pAdd (sVar 9) (sLst (aCons (sCallK d_product 3 [1, 2, 0] (aCons (sVar 5) (aCons (sVar 4) (aCons (sVar 6) aNil)))) (aCons (sCallW d_worth (wCons (sVar 4) (wCons (sVar 6) wNil))) (aCons (sCallK d_worth 2 [1, 0] (aCons (sVar 5) (aCons (sVar 4) aNil))) aNil))))))
  (sCons (sSet 9 (sBin pAdd (sVar 9) (sLst (aCons (sCallW d_part_of (wCons (sVar 4) (wCons (sVar 7) wNil))) (aCons (sCallK d_part_of 2 [1, 0] (aCons (sVar 7) (aCons (sVar 4) aNil))) aNil)))))
  (sCons (sSet 10 (sCall pTuple (aCons (sComp [13] (iSeq (sVar 7)) (gN 13) tYesB (sCall pTuple (aCons (sComp [14] (iSeq (sVar 7)) (gN 14) tYesB (sBin pIx (sAt 4 (sVar 13)) (sVar 14))) aNil))) aNil)))
  (sCons (sSet 11 (sCallW d__law_dot (wCons (sVar 5) (wCons (sVar 8) wNil))))
  (sCons (sSet 12 (sLst (aCons (sVar 8) (aCons (sVar 8) (aCons (sVar 11) (aCons (sVar 11) (aCons (sCallW d__law_dot (wCons (sVar 6) (wCons (sVar 8) wNil))) (aCons (sCallW d__law_worth (wCons (sVar 4) (wCons (sVar 5) wNil))) (aCons (sVar 10) (aCons (sVar 10) aNil))))))))))
  (sIte (sT (sBin pNe (sCall pRepr (aCons (sVar 9) aNil)) (sCall pRepr (aCons (sVar 12) aNil)))) (sRet (sK (.bool false))) sNil))))))))))))))
  (sRet (sK (.bool true)))))
def TF_is_whole (K : Frg) (mg : Mg) : Prop := ∃ f fd, Fun K "is_whole" "is_whole" s_is_whole f fd ∧ mg "is_whole" = some (.ref f) ∧ PySem.W.keepIn K (.ref f) = true ∧ Binds K fd ["value"] [] ∧ True
def TF_are_wholes (K : Frg) (mg : Mg) : Prop := ∃ f fd, Fun K "are_wholes" "are_wholes" s_are_wholes f fd ∧ mg "are_wholes" = some (.ref f) ∧ PySem.W.keepIn K (.ref f) = true ∧ Binds K fd ["value", "many"] [] ∧ True
def TF_divisor_of (K : Frg) (mg : Mg) : Prop := ∃ f fd, Fun K "divisor_of" "divisor_of" s_divisor_of f fd ∧ mg "divisor_of" = some (.ref f) ∧ PySem.W.keepIn K (.ref f) = true ∧ Binds K fd ["numbers"] [] ∧ True
def TF_is_reduced (K : Frg) (mg : Mg) : Prop := ∃ f fd, Fun K "is_reduced" "is_reduced" s_is_reduced f fd ∧ mg "is_reduced" = some (.ref f) ∧ PySem.W.keepIn K (.ref f) = true ∧ Binds K fd ["numbers"] [] ∧ True
def TF_is_ratio (K : Frg) (mg : Mg) : Prop := ∃ f fd, Fun K "is_ratio" "is_ratio" s_is_ratio f fd ∧ mg "is_ratio" = some (.ref f) ∧ PySem.W.keepIn K (.ref f) = true ∧ Binds K fd ["value"] [] ∧ True
def TF_are_ratios (K : Frg) (mg : Mg) : Prop := ∃ f fd, Fun K "are_ratios" "are_ratios" s_are_ratios f fd ∧ mg "are_ratios" = some (.ref f) ∧ PySem.W.keepIn K (.ref f) = true ∧ Binds K fd ["value", "many"] [] ∧ True
def TF_is_formed (K : Frg) (mg : Mg) : Prop := ∃ f fd, Fun K "is_formed" "is_formed" s_is_formed f fd ∧ mg "is_formed" = some (.ref f) ∧ PySem.W.keepIn K (.ref f) = true ∧ Binds K fd ["value"] [] ∧ True
def TF_check_form (K : Frg) (mg : Mg) : Prop := ∃ f fd, Fun K "check_form" "check_form" s_check_form f fd ∧ mg "check_form" = some (.ref f) ∧ PySem.W.keepIn K (.ref f) = true ∧ Binds K fd ["value"] [] ∧ True
def TF_check_row_of (K : Frg) (mg : Mg) : Prop := ∃ f fd, Fun K "check_row_of" "check_row_of" s_check_row_of f fd ∧ mg "check_row_of" = some (.ref f) ∧ PySem.W.keepIn K (.ref f) = true ∧ Binds K fd ["many", "value"] [] ∧ True
def TF_ratio_with (K : Frg) (mg : Mg) : Prop := ∃ f fd, Fun K "ratio_with" "ratio_with" s_ratio_with f fd ∧ mg "ratio_with" = some (.ref f) ∧ PySem.W.keepIn K (.ref f) = true ∧ Binds K fd ["number", "under"] [] ∧ True
def TF_ratio_product (K : Frg) (mg : Mg) : Prop := ∃ f fd, Fun K "ratio_product" "ratio_product" s_ratio_product f fd ∧ mg "ratio_product" = some (.ref f) ∧ PySem.W.keepIn K (.ref f) = true ∧ Binds K fd ["one", "two"] [] ∧ True
def TF_ratio_sum (K : Frg) (mg : Mg) : Prop := ∃ f fd, Fun K "ratio_sum" "ratio_sum" s_ratio_sum f fd ∧ mg "ratio_sum" = some (.ref f) ∧ PySem.W.keepIn K (.ref f) = true ∧ Binds K fd ["one", "two"] [] ∧ True
def TF_total_of (K : Frg) (mg : Mg) : Prop := ∃ f fd, Fun K "total_of" "total_of" s_total_of f fd ∧ mg "total_of" = some (.ref f) ∧ PySem.W.keepIn K (.ref f) = true ∧ Binds K fd ["numbers"] [] ∧ True
def TF_dot (K : Frg) (mg : Mg) : Prop := ∃ f fd, Fun K "dot" "dot" s_dot f fd ∧ mg "dot" = some (.ref f) ∧ PySem.W.keepIn K (.ref f) = true ∧ Binds K fd ["row", "other"] [] ∧ True
def TF_led_by (K : Frg) (mg : Mg) : Prop := ∃ f fd, Fun K "led_by" "led_by" s_led_by f fd ∧ mg "led_by" = some (.ref f) ∧ PySem.W.keepIn K (.ref f) = true ∧ Binds K fd ["form", "row"] [] ∧ True
def TF_led (K : Frg) (mg : Mg) : Prop := ∃ f fd, Fun K "led" "led" s_led f fd ∧ mg "led" = some (.ref f) ∧ PySem.W.keepIn K (.ref f) = true ∧ Binds K fd ["form", "row"] [] ∧ KB K fd ["form", "row"] ["row", "form"] [1, 0]
def TF_product_by (K : Frg) (mg : Mg) : Prop := ∃ f fd, Fun K "product_by" "product_by" s_product_by f fd ∧ mg "product_by" = some (.ref f) ∧ PySem.W.keepIn K (.ref f) = true ∧ Binds K fd ["form", "row", "other"] [] ∧ True
def TF_product (K : Frg) (mg : Mg) : Prop := ∃ f fd, Fun K "product" "product" s_product f fd ∧ mg "product" = some (.ref f) ∧ PySem.W.keepIn K (.ref f) = true ∧ Binds K fd ["form", "row", "column"] [] ∧ KB K fd ["form", "row", "column"] ["column", "form", "row"] [1, 2, 0]
def TF_worth_by (K : Frg) (mg : Mg) : Prop := ∃ f fd, Fun K "worth_by" "worth_by" s_worth_by f fd ∧ mg "worth_by" = some (.ref f) ∧ PySem.W.keepIn K (.ref f) = true ∧ Binds K fd ["form", "row"] [] ∧ True
def TF_worth (K : Frg) (mg : Mg) : Prop := ∃ f fd, Fun K "worth" "worth" s_worth f fd ∧ mg "worth" = some (.ref f) ∧ PySem.W.keepIn K (.ref f) = true ∧ Binds K fd ["form", "row"] [] ∧ KB K fd ["form", "row"] ["row", "form"] [1, 0]
def TF_is_between (K : Frg) (mg : Mg) : Prop := ∃ f fd, Fun K "is_between" "is_between" s_is_between f fd ∧ mg "is_between" = some (.ref f) ∧ PySem.W.keepIn K (.ref f) = true ∧ Binds K fd ["value", "low", "high"] [] ∧ True
def TF_wrong_in_lot (K : Frg) (mg : Mg) : Prop := ∃ f fd, Fun K "wrong_in_lot" "wrong_in_lot" s_wrong_in_lot f fd ∧ mg "wrong_in_lot" = some (.ref f) ∧ PySem.W.keepIn K (.ref f) = true ∧ Binds K fd ["many", "value"] [] ∧ True
def TF_check_lot (K : Frg) (mg : Mg) : Prop := ∃ f fd, Fun K "check_lot" "check_lot" s_check_lot f fd ∧ mg "check_lot" = some (.ref f) ∧ PySem.W.keepIn K (.ref f) = true ∧ Binds K fd ["many", "value"] [] ∧ True
def TF_part_on (K : Frg) (mg : Mg) : Prop := ∃ f fd, Fun K "part_on" "part_on" s_part_on f fd ∧ mg "part_on" = some (.ref f) ∧ PySem.W.keepIn K (.ref f) = true ∧ Binds K fd ["form", "lot"] [] ∧ True
def TF_part_of (K : Frg) (mg : Mg) : Prop := ∃ f fd, Fun K "part_of" "part_of" s_part_of f fd ∧ mg "part_of" = some (.ref f) ∧ PySem.W.keepIn K (.ref f) = true ∧ Binds K fd ["form", "lot"] [] ∧ KB K fd ["form", "lot"] ["lot", "form"] [1, 0]
def TF__law_deck (K : Frg) (mg : Mg) : Prop := ∃ f fd, Fun K "_law_deck" "_law_deck" s__law_deck f fd ∧ mg "_law_deck" = some (.ref f) ∧ PySem.W.keepIn K (.ref f) = true ∧ Binds K fd ["script", "turn", "salt"] [] ∧ True
def TF__law_roll (K : Frg) (mg : Mg) : Prop := ∃ f fd, Fun K "_law_roll" "_law_roll" s__law_roll f fd ∧ mg "_law_roll" = some (.ref f) ∧ PySem.W.keepIn K (.ref f) = true ∧ Binds K fd ["deck", "width"] [] ∧ True
def TF__law_pick (K : Frg) (mg : Mg) : Prop := ∃ f fd, Fun K "_law_pick" "_law_pick" s__law_pick f fd ∧ mg "_law_pick" = some (.ref f) ∧ PySem.W.keepIn K (.ref f) = true ∧ Binds K fd ["deck", "some"] [] ∧ True
def TF__law_gcd (K : Frg) (mg : Mg) : Prop := ∃ f fd, Fun K "_law_gcd" "_law_gcd" s__law_gcd f fd ∧ mg "_law_gcd" = some (.ref f) ∧ PySem.W.keepIn K (.ref f) = true ∧ Binds K fd ["one", "two"] [] ∧ True
def TF__law_frac (K : Frg) (mg : Mg) : Prop := ∃ f fd, Fun K "_law_frac" "_law_frac" s__law_frac f fd ∧ mg "_law_frac" = some (.ref f) ∧ PySem.W.keepIn K (.ref f) = true ∧ Binds K fd ["top", "down"] [] ∧ True
def TF__law_plus (K : Frg) (mg : Mg) : Prop := ∃ f fd, Fun K "_law_plus" "_law_plus" s__law_plus f fd ∧ mg "_law_plus" = some (.ref f) ∧ PySem.W.keepIn K (.ref f) = true ∧ Binds K fd ["one", "two"] [] ∧ True
def TF__law_times (K : Frg) (mg : Mg) : Prop := ∃ f fd, Fun K "_law_times" "_law_times" s__law_times f fd ∧ mg "_law_times" = some (.ref f) ∧ PySem.W.keepIn K (.ref f) = true ∧ Binds K fd ["one", "two"] [] ∧ True
def TF__law_dot (K : Frg) (mg : Mg) : Prop := ∃ f fd, Fun K "_law_dot" "_law_dot" s__law_dot f fd ∧ mg "_law_dot" = some (.ref f) ∧ PySem.W.keepIn K (.ref f) = true ∧ Binds K fd ["one", "two"] [] ∧ True
def TF__law_led (K : Frg) (mg : Mg) : Prop := ∃ f fd, Fun K "_law_led" "_law_led" s__law_led f fd ∧ mg "_law_led" = some (.ref f) ∧ PySem.W.keepIn K (.ref f) = true ∧ Binds K fd ["table", "line"] [] ∧ True
def TF__law_worth (K : Frg) (mg : Mg) : Prop := ∃ f fd, Fun K "_law_worth" "_law_worth" s__law_worth f fd ∧ mg "_law_worth" = some (.ref f) ∧ PySem.W.keepIn K (.ref f) = true ∧ Binds K fd ["table", "line"] [] ∧ True
def TF__law_wholes (K : Frg) (mg : Mg) : Prop := ∃ f fd, Fun K "_law_wholes" "_law_wholes" s__law_wholes f fd ∧ mg "_law_wholes" = some (.ref f) ∧ PySem.W.keepIn K (.ref f) = true ∧ Binds K fd ["deck", "size", "low", "width"] [] ∧ True
def TF__law_spots (K : Frg) (mg : Mg) : Prop := ∃ f fd, Fun K "_law_spots" "_law_spots" s__law_spots f fd ∧ mg "_law_spots" = some (.ref f) ∧ PySem.W.keepIn K (.ref f) = true ∧ Binds K fd ["deck", "size"] [] ∧ True
def TF__law_table (K : Frg) (mg : Mg) : Prop := ∃ f fd, Fun K "_law_table" "_law_table" s__law_table f fd ∧ mg "_law_table" = some (.ref f) ∧ PySem.W.keepIn K (.ref f) = true ∧ Binds K fd ["cells", "down"] [] ∧ True
def TF__law_form (K : Frg) (mg : Mg) : Prop := ∃ f fd, Fun K "_law_form" "_law_form" s__law_form f fd ∧ mg "_law_form" = some (.ref f) ∧ PySem.W.keepIn K (.ref f) = true ∧ Binds K fd ["deck", "size"] [] ∧ True
def TF__law_line (K : Frg) (mg : Mg) : Prop := ∃ f fd, Fun K "_law_line" "_law_line" s__law_line f fd ∧ mg "_law_line" = some (.ref f) ∧ PySem.W.keepIn K (.ref f) = true ∧ Binds K fd ["deck", "size"] [] ∧ True
def TF_law (K : Frg) (mg : Mg) : Prop := ∃ f fd, Fun K "law" "law" s_law f fd ∧ mg "law" = some (.ref f) ∧ PySem.W.keepIn K (.ref f) = true ∧ Binds K fd ["script"] [] ∧ True
structure Tx (K : Frg) (mg : Mg) : Prop where
  z_abs : mg "abs" = none
  z_all : mg "all" = none
  z_bool : mg "bool" = none
  z_enumerate : mg "enumerate" = none
  z_int : mg "int" = none
  z_isinstance : mg "isinstance" = none
  z_len : mg "len" = none
  z_max : mg "max" = none
  z_min : mg "min" = none
  z_range : mg "range" = none
  z_repr : mg "repr" = none
  z_tuple : mg "tuple" = none
  z_zip : mg "zip" = none
  b_gcd : mg "gcd" = some (.builtin "math.gcd")
  g_ZERO : GlobD K mg "ZERO" (.tuple [(.int 0), (.int 1)])
  g_MOST_ROWS : GlobD K mg "MOST_ROWS" (.int 6)
  f_is_whole : TF_is_whole K mg
  f_are_wholes : TF_are_wholes K mg
  f_divisor_of : TF_divisor_of K mg
  f_is_reduced : TF_is_reduced K mg
  f_is_ratio : TF_is_ratio K mg
  f_are_ratios : TF_are_ratios K mg
  f_is_formed : TF_is_formed K mg
  f_check_form : TF_check_form K mg
  f_check_row_of : TF_check_row_of K mg
  f_ratio_with : TF_ratio_with K mg
  f_ratio_product : TF_ratio_product K mg
  f_ratio_sum : TF_ratio_sum K mg
  f_total_of : TF_total_of K mg
  f_dot : TF_dot K mg
  f_led_by : TF_led_by K mg
  f_led : TF_led K mg
  f_product_by : TF_product_by K mg
  f_product : TF_product K mg
  f_worth_by : TF_worth_by K mg
  f_worth : TF_worth K mg
  f_is_between : TF_is_between K mg
  f_wrong_in_lot : TF_wrong_in_lot K mg
  f_check_lot : TF_check_lot K mg
  f_part_on : TF_part_on K mg
  f_part_of : TF_part_of K mg
  f__law_deck : TF__law_deck K mg
  f__law_roll : TF__law_roll K mg
  f__law_pick : TF__law_pick K mg
  f__law_gcd : TF__law_gcd K mg
  f__law_frac : TF__law_frac K mg
  f__law_plus : TF__law_plus K mg
  f__law_times : TF__law_times K mg
  f__law_dot : TF__law_dot K mg
  f__law_led : TF__law_led K mg
  f__law_worth : TF__law_worth K mg
  f__law_wholes : TF__law_wholes K mg
  f__law_spots : TF__law_spots K mg
  f__law_table : TF__law_table K mg
  f__law_form : TF__law_form K mg
  f__law_line : TF__law_line K mg
  f_law : TF_law K mg
section
variable {P : Program} {w : World} {K : Frg} {mg : Mg} {base : Heap}
theorem FF_is_whole (T : Tx K mg) {f : Addr} {fd : FuncData} (F : Fun K "is_whole" "is_whole" s_is_whole f fd) : FnG P w K mg base 1 f fd ["value"] (spD K mg 1 d_is_whole) := by
  have sc : FnScope ["value"] ["value"] (defScope s_is_whole) := ⟨rfl, rfl, rfl, by decide +kernel, rfl, by decide +kernel, by decide +kernel⟩
  have nd := sc.nd
  refine fnG_of (k := 0) (M := mF) F sc (by decide) (fun cdv A outer s H E hr hgd => ?_)
  have hu := room64 hr
  have hu1 := room65 hr
  have hc : (cxOf (L2.CX P w) P w K mg base ["value"] "is_whole" (defScope s_is_whole) f cdv A outer s H E).calm = true := rfl
  exact (ss_one (s1_ret (se_and (se_isi T.z_isinstance T.z_int bt_int (by decide) (se_var 0)) (se_one (se_not (se_isi T.z_isinstance T.z_bool bt_bool (by decide) (se_var 0)))))))
theorem c_is_whole (T : Tx K mg) : Cal P w K mg base 1 1 "is_whole" d_is_whole := by
  obtain ⟨f, fd, F, hm, hk, hb, _⟩ := T.f_is_whole
  exact ⟨f, fd, ["value"], FF_is_whole T F, hm, hk, hb⟩
theorem FF_are_wholes (T : Tx K mg) {f : Addr} {fd : FuncData} (F : Fun K "are_wholes" "are_wholes" s_are_wholes f fd) : FnG P w K mg base 2 f fd ["value", "many"] (spD K mg 2 d_are_wholes) := by
  have sc : FnScope ["value", "many", "number"] ["value", "many"] (defScope s_are_wholes) := ⟨rfl, rfl, rfl, by decide +kernel, rfl, by decide +kernel, by decide +kernel⟩
  have nd := sc.nd
  refine fnG_of (k := 1) (M := mF) F sc (by decide) (fun cdv A outer s H E hr hgd => ?_)
  have hu := room64 hr
  have hu1 := room65 hr
  have hc : (cxOf (L2.CX P w) P w K mg base ["value", "many", "number"] "are_wholes" (defScope s_are_wholes) f cdv A outer s H E).calm = true := rfl
  exact (ss_one (s1_ret (se_and (se_isi T.z_isinstance T.z_tuple bt_tuple (by decide) (se_var 0)) (se_and (se_cmp (or_eq hu) (se_callB (cr_len) T.z_len bt_len (sa_cons (se_var 0) sa_nil)) (se_var 1)) (se_one (se_callB (cr_all' (by exact hc)) T.z_all bt_all (sa_cons (se_comp (by exact hc) (by exact nd) (si_seq (se_var 0)) (blkOk_by (own := [("number", 2)]) (by rfl)) (fun s0 H0 C0 cl0 fp0 => (sg_name (i := 2) rfl nd)) (fun s0 H0 C0 cl0 fp0 => st_nil) (fun s0 H0 C0 cl0 fp0 => (se_callW (c_is_whole T) (hr.mono (by decide)) hgd tk_EF (sw_cons (se_var 2) sw_nil) (wlen_cons (fun _ _ _ z => wlen_nil z))))) sa_nil)))))))
theorem c_are_wholes (T : Tx K mg) : Cal P w K mg base 2 2 "are_wholes" d_are_wholes := by
  obtain ⟨f, fd, F, hm, hk, hb, _⟩ := T.f_are_wholes
  exact ⟨f, fd, ["value", "many"], FF_are_wholes T F, hm, hk, hb⟩
theorem FF_divisor_of (T : Tx K mg) {f : Addr} {fd : FuncData} (F : Fun K "divisor_of" "divisor_of" s_divisor_of f fd) : FnG P w K mg base 1 f fd ["numbers"] (spD K mg 1 d_divisor_of) := by
  have sc : FnScope ["numbers", "found", "number"] ["numbers"] (defScope s_divisor_of) := ⟨rfl, rfl, rfl, by decide +kernel, rfl, by decide +kernel, by decide +kernel⟩
  have nd := sc.nd
  refine fnG_of (k := 0) (M := mF) F sc (by decide) (fun cdv A outer s H E hr hgd => ?_)
  have hu := room64 hr
  have hu1 := room65 hr
  have hc : (cxOf (L2.CX P w) P w K mg base ["numbers", "found", "number"] "divisor_of" (defScope s_divisor_of) f cdv A outer s H E).calm = true := rfl
  exact (ss_cons (s1_set (i := 1) se_int rfl nd)
  (ss_cons (s1_for ps_def hc (si_seq (se_var 0)) (sg_name (i := 2) rfl nd) (ss_one (s1_set (i := 1) (se_callBfun cr_gcd' T.b_gcd (sa_cons (se_var 1) (sa_cons (se_var 2) sa_nil))) rfl nd)))
  (ss_one (s1_ret (se_move 1)))))
theorem c_divisor_of (T : Tx K mg) : Cal P w K mg base 1 1 "divisor_of" d_divisor_of := by
  obtain ⟨f, fd, F, hm, hk, hb, _⟩ := T.f_divisor_of
  exact ⟨f, fd, ["numbers"], FF_divisor_of T F, hm, hk, hb⟩
theorem FF_is_reduced (T : Tx K mg) {f : Addr} {fd : FuncData} (F : Fun K "is_reduced" "is_reduced" s_is_reduced f fd) : FnG P w K mg base 2 f fd ["numbers"] (spD K mg 1 d_is_reduced) := by
  have sc : FnScope ["numbers"] ["numbers"] (defScope s_is_reduced) := ⟨rfl, rfl, rfl, by decide +kernel, rfl, by decide +kernel, by decide +kernel⟩
  have nd := sc.nd
  refine fnG_of (k := 1) (M := mF) F sc (by decide) (fun cdv A outer s H E hr hgd => ?_)
  have hu := room64 hr
  have hu1 := room65 hr
  have hc : (cxOf (L2.CX P w) P w K mg base ["numbers"] "is_reduced" (defScope s_is_reduced) f cdv A outer s H E).calm = true := rfl
  exact (ss_one (s1_ret (se_cmp (or_eq hu) (se_callW (c_divisor_of T) (hr.mono (by decide)) hgd tk_def (sw_cons (se_var 0) sw_nil) (wlen_cons (fun _ _ _ z => wlen_nil z))) se_int)))
theorem c_is_reduced (T : Tx K mg) : Cal P w K mg base 2 1 "is_reduced" d_is_reduced := by
  obtain ⟨f, fd, F, hm, hk, hb, _⟩ := T.f_is_reduced
  exact ⟨f, fd, ["numbers"], FF_is_reduced T F, hm, hk, hb⟩
theorem FF_is_ratio (T : Tx K mg) {f : Addr} {fd : FuncData} (F : Fun K "is_ratio" "is_ratio" s_is_ratio f fd) : FnG P w K mg base 3 f fd ["value"] (spD K mg 1 d_is_ratio) := by
  have sc : FnScope ["value"] ["value"] (defScope s_is_ratio) := ⟨rfl, rfl, rfl, by decide +kernel, rfl, by decide +kernel, by decide +kernel⟩
  have nd := sc.nd
  refine fnG_of (k := 2) (M := mF) F sc (by decide) (fun cdv A outer s H E hr hgd => ?_)
  have hu := room64 hr
  have hu1 := room65 hr
  have hc : (cxOf (L2.CX P w) P w K mg base ["value"] "is_ratio" (defScope s_is_ratio) f cdv A outer s H E).calm = true := rfl
  exact (ss_one (s1_ret (se_and (se_callW (c_are_wholes T) (hr.mono (by decide)) hgd tk_def (sw_cons (se_var 0) (sw_cons se_int sw_nil)) (wlen_cons (wlen_cons (fun _ _ _ z => wlen_nil z)))) (se_and (se_cmp or_gt (se_at 0 se_int) se_int) (se_one (se_callW (c_is_reduced T) (hr.mono (by decide)) hgd tk_def (sw_cons (se_var 0) sw_nil) (wlen_cons (fun _ _ _ z => wlen_nil z))))))))
theorem c_is_ratio (T : Tx K mg) : Cal P w K mg base 3 1 "is_ratio" d_is_ratio := by
  obtain ⟨f, fd, F, hm, hk, hb, _⟩ := T.f_is_ratio
  exact ⟨f, fd, ["value"], FF_is_ratio T F, hm, hk, hb⟩
theorem FF_are_ratios (T : Tx K mg) {f : Addr} {fd : FuncData} (F : Fun K "are_ratios" "are_ratios" s_are_ratios f fd) : FnG P w K mg base 4 f fd ["value", "many"] (spD K mg 2 d_are_ratios) := by
  have sc : FnScope ["value", "many", "each"] ["value", "many"] (defScope s_are_ratios) := ⟨rfl, rfl, rfl, by decide +kernel, rfl, by decide +kernel, by decide +kernel⟩
  have nd := sc.nd
  refine fnG_of (k := 3) (M := mF) F sc (by decide) (fun cdv A outer s H E hr hgd => ?_)
  have hu := room64 hr
  have hu1 := room65 hr
  have hc : (cxOf (L2.CX P w) P w K mg base ["value", "many", "each"] "are_ratios" (defScope s_are_ratios) f cdv A outer s H E).calm = true := rfl
  exact (ss_one (s1_ret (se_and (se_isi T.z_isinstance T.z_tuple bt_tuple (by decide) (se_var 0)) (se_and (se_cmp (or_eq hu) (se_callB (cr_len) T.z_len bt_len (sa_cons (se_var 0) sa_nil)) (se_var 1)) (se_one (se_callB (cr_all' (by exact hc)) T.z_all bt_all (sa_cons (se_comp (by exact hc) (by exact nd) (si_seq (se_var 0)) (blkOk_by (own := [("each", 2)]) (by rfl)) (fun s0 H0 C0 cl0 fp0 => (sg_name (i := 2) rfl nd)) (fun s0 H0 C0 cl0 fp0 => st_nil) (fun s0 H0 C0 cl0 fp0 => (se_callW (c_is_ratio T) (hr.mono (by decide)) hgd tk_EF (sw_cons (se_var 2) sw_nil) (wlen_cons (fun _ _ _ z => wlen_nil z))))) sa_nil)))))))
theorem c_are_ratios (T : Tx K mg) : Cal P w K mg base 4 2 "are_ratios" d_are_ratios := by
  obtain ⟨f, fd, F, hm, hk, hb, _⟩ := T.f_are_ratios
  exact ⟨f, fd, ["value", "many"], FF_are_ratios T F, hm, hk, hb⟩
theorem FF_is_formed (T : Tx K mg) {f : Addr} {fd : FuncData} (F : Fun K "is_formed" "is_formed" s_is_formed f fd) : FnG P w K mg base 5 f fd ["value"] (spD K mg 1 d_is_formed) := by
  have sc : FnScope ["value", "one", "two", "row"] ["value"] (defScope s_is_formed) := ⟨rfl, rfl, rfl, by decide +kernel, rfl, by decide +kernel, by decide +kernel⟩
  have nd := sc.nd
  refine fnG_of (k := 4) (M := mF) F sc (by decide) (fun cdv A outer s H E hr hgd => ?_)
  have hu := room64 hr
  have hu1 := room65 hr
  have hc : (cxOf (L2.CX P w) P w K mg base ["value", "one", "two", "row"] "is_formed" (defScope s_is_formed) f cdv A outer s H E).calm = true := rfl
  exact (ss_cons (s1_if (SW.T (sw_or (st_not (st_val (se_isi T.z_isinstance T.z_tuple bt_tuple (by decide) (se_var 0)))) (sw_or1 (st_not (st_chain L2.op_le L2.op_le se_int (se_callB (cr_len) T.z_len bt_len (sa_cons (se_var 0) sa_nil)) (se_cst T.g_MOST_ROWS)))))) (ss_one (s1_ret se_bl)) ss_nil)
  (ss_cons (s1_if (st_not (st_val (se_callB (cr_all' (by exact hc)) T.z_all bt_all (sa_cons (se_comp (by exact hc) (by exact nd) (si_seq (se_var 0)) (blkOk_by (own := [("row", 3)]) (by rfl)) (fun s0 H0 C0 cl0 fp0 => (sg_name (i := 3) rfl nd)) (fun s0 H0 C0 cl0 fp0 => st_nil) (fun s0 H0 C0 cl0 fp0 => (se_callW (c_are_ratios T) (hr.mono (by decide)) hgd tk_EF (sw_cons (se_var 3) (sw_cons (se_callB (cr_len) T.z_len bt_len (sa_cons (se_var 0) sa_nil)) sw_nil)) (wlen_cons (wlen_cons (fun _ _ _ z => wlen_nil z)))))) sa_nil)))) (ss_one (s1_ret se_bl)) ss_nil)
  (ss_one (s1_ret (se_callB (cr_all' (by exact hc)) T.z_all bt_all (sa_cons (se_comp2 (vs1 := [2]) (by exact hc) (by exact nd) (si_range1 T.z_range (sa_cons (se_callB (cr_len) T.z_len bt_len (sa_cons (se_var 0) sa_nil)) sa_nil)) (blkOk_by (own := [("one", 1), ("two", 2)]) (by rfl)) (by decide) (fun s0 H0 C0 cl0 fp0 => (sg_name (i := 1) rfl nd)) (fun s0 H0 C0 cl0 fp0 => st_nil) (fun s0 H0 C0 cl0 fp0 => (si_range1 T.z_range (sa_cons (se_var 1) sa_nil))) (fun s0 H0 C0 cl0 fp0 => (sg_name (i := 2) rfl nd)) (fun s0 H0 C0 cl0 fp0 => st_nil) (fun s0 H0 C0 cl0 fp0 => (se_cmp (or_eq hu) (se_ix (se_at 0 (se_var 1)) (se_var 2)) (se_ix (se_at 0 (se_var 2)) (se_var 1))))) sa_nil))))))
theorem c_is_formed (T : Tx K mg) : Cal P w K mg base 5 1 "is_formed" d_is_formed := by
  obtain ⟨f, fd, F, hm, hk, hb, _⟩ := T.f_is_formed
  exact ⟨f, fd, ["value"], FF_is_formed T F, hm, hk, hb⟩
theorem FF_check_form (T : Tx K mg) {f : Addr} {fd : FuncData} (F : Fun K "check_form" "check_form" s_check_form f fd) : FnG P w K mg base 6 f fd ["value"] (spD K mg 1 d_check_form) := by
  have sc : FnScope ["value"] ["value"] (defScope s_check_form) := ⟨rfl, rfl, rfl, by decide +kernel, rfl, by decide +kernel, by decide +kernel⟩
  have nd := sc.nd
  refine fnG_of (k := 5) (M := mF) F sc (by decide) (fun cdv A outer s H E hr hgd => ?_)
  have hu := room64 hr
  have hu1 := room65 hr
  have hc : (cxOf (L2.CX P w) P w K mg base ["value"] "check_form" (defScope s_check_form) f cdv A outer s H E).calm = true := rfl
  exact (ss_one (s1_if (st_not (st_val (se_callW (c_is_formed T) (hr.mono (by decide)) hgd tk_def (sw_cons (se_var 0) sw_nil) (wlen_cons (fun _ _ _ z => wlen_nil z))))) (ss_one s1_never) ss_nil))
theorem c_check_form (T : Tx K mg) : Cal P w K mg base 6 1 "check_form" d_check_form := by
  obtain ⟨f, fd, F, hm, hk, hb, _⟩ := T.f_check_form
  exact ⟨f, fd, ["value"], FF_check_form T F, hm, hk, hb⟩
theorem FF_check_row_of (T : Tx K mg) {f : Addr} {fd : FuncData} (F : Fun K "check_row_of" "check_row_of" s_check_row_of f fd) : FnG P w K mg base 4 f fd ["many", "value"] (spD K mg 2 d_check_row_of) := by
  have sc : FnScope ["many", "value", "index", "each"] ["many", "value"] (defScope s_check_row_of) := ⟨rfl, rfl, rfl, by decide +kernel, rfl, by decide +kernel, by decide +kernel⟩
  have nd := sc.nd
  refine fnG_of (k := 3) (M := mF) F sc (by decide) (fun cdv A outer s H E hr hgd => ?_)
  have hu := room64 hr
  have hu1 := room65 hr
  have hc : (cxOf (L2.CX P w) P w K mg base ["many", "value", "index", "each"] "check_row_of" (defScope s_check_row_of) f cdv A outer s H E).calm = true := rfl
  exact (ss_cons (s1_if (SW.T (sw_or (st_not (st_val (se_isi T.z_isinstance T.z_tuple bt_tuple (by decide) (se_var 1)))) (sw_or1 (st_cmp (or_ne hu) (se_callB (cr_len) T.z_len bt_len (sa_cons (se_var 1) sa_nil)) (se_var 0))))) (ss_one s1_never) ss_nil)
  (ss_one (s1_for ps_def hc (si_enum T.z_enumerate (sa_cons (se_var 1) sa_nil)) (sg_tup (by exact hc) (sgs_cons (sg_name (i := 2) rfl nd) (sgs_cons (sg_name (i := 3) rfl nd) sgs_nil))) (ss_one (s1_if (st_not (st_val (se_callW (c_is_ratio T) (hr.mono (by decide)) hgd tk_def (sw_cons (se_var 3) sw_nil) (wlen_cons (fun _ _ _ z => wlen_nil z))))) (ss_one s1_never) ss_nil)))))
theorem c_check_row_of (T : Tx K mg) : Cal P w K mg base 4 2 "check_row_of" d_check_row_of := by
  obtain ⟨f, fd, F, hm, hk, hb, _⟩ := T.f_check_row_of
  exact ⟨f, fd, ["many", "value"], FF_check_row_of T F, hm, hk, hb⟩
theorem FF_ratio_with (T : Tx K mg) {f : Addr} {fd : FuncData} (F : Fun K "ratio_with" "ratio_with" s_ratio_with f fd) : FnG P w K mg base 2 f fd ["number", "under"] (spD K mg 2 d_ratio_with) := by
  have sc : FnScope ["number", "under", "part"] ["number", "under"] (defScope s_ratio_with) := ⟨rfl, rfl, rfl, by decide +kernel, rfl, by decide +kernel, by decide +kernel⟩
  have nd := sc.nd
  refine fnG_of (k := 1) (M := mF) F sc (by decide) (fun cdv A outer s H E hr hgd => ?_)
  have hu := room64 hr
  have hu1 := room65 hr
  have hc : (cxOf (L2.CX P w) P w K mg base ["number", "under", "part"] "ratio_with" (defScope s_ratio_with) f cdv A outer s H E).calm = true := rfl
  exact (ss_cons (s1_set (i := 2) (se_callW (c_divisor_of T) (hr.mono (by decide)) hgd tk_def (sw_cons (se_tup (sa_cons (se_var 0) (sa_cons (se_var 1) sa_nil))) sw_nil) (wlen_cons (fun _ _ _ z => wlen_nil z))) rfl nd)
  (ss_cons (s1_set (i := 2) (se_if (st_cmp or_gt (se_var 1) se_int) (se_var 2) (se_neg (se_var 2))) rfl nd)
  (ss_one (s1_ret (se_tup (sa_cons (se_op or_div (se_var 0) (se_var 2)) (sa_cons (se_op or_div (se_var 1) (se_var 2)) sa_nil)))))))
theorem c_ratio_with (T : Tx K mg) : Cal P w K mg base 2 2 "ratio_with" d_ratio_with := by
  obtain ⟨f, fd, F, hm, hk, hb, _⟩ := T.f_ratio_with
  exact ⟨f, fd, ["number", "under"], FF_ratio_with T F, hm, hk, hb⟩
theorem FF_ratio_product (T : Tx K mg) {f : Addr} {fd : FuncData} (F : Fun K "ratio_product" "ratio_product" s_ratio_product f fd) : FnG P w K mg base 3 f fd ["one", "two"] (spD K mg 2 d_ratio_product) := by
  have sc : FnScope ["one", "two"] ["one", "two"] (defScope s_ratio_product) := ⟨rfl, rfl, rfl, by decide +kernel, rfl, by decide +kernel, by decide +kernel⟩
  have nd := sc.nd
  refine fnG_of (k := 2) (M := mF) F sc (by decide) (fun cdv A outer s H E hr hgd => ?_)
  have hu := room64 hr
  have hu1 := room65 hr
  have hc : (cxOf (L2.CX P w) P w K mg base ["one", "two"] "ratio_product" (defScope s_ratio_product) f cdv A outer s H E).calm = true := rfl
  exact (ss_one (s1_ret (se_callW (c_ratio_with T) (hr.mono (by decide)) hgd tk_def (sw_cons (se_op or_mul (se_at 0 se_int) (se_at 1 se_int)) (sw_cons (se_op or_mul (se_at 0 se_int) (se_at 1 se_int)) sw_nil)) (wlen_cons (wlen_cons (fun _ _ _ z => wlen_nil z))))))
theorem c_ratio_product (T : Tx K mg) : Cal P w K mg base 3 2 "ratio_product" d_ratio_product := by
  obtain ⟨f, fd, F, hm, hk, hb, _⟩ := T.f_ratio_product
  exact ⟨f, fd, ["one", "two"], FF_ratio_product T F, hm, hk, hb⟩
theorem FF_ratio_sum (T : Tx K mg) {f : Addr} {fd : FuncData} (F : Fun K "ratio_sum" "ratio_sum" s_ratio_sum f fd) : FnG P w K mg base 3 f fd ["one", "two"] (spD K mg 2 d_ratio_sum) := by
  have sc : FnScope ["one", "two"] ["one", "two"] (defScope s_ratio_sum) := ⟨rfl, rfl, rfl, by decide +kernel, rfl, by decide +kernel, by decide +kernel⟩
  have nd := sc.nd
  refine fnG_of (k := 2) (M := mF) F sc (by decide) (fun cdv A outer s H E hr hgd => ?_)
  have hu := room64 hr
  have hu1 := room65 hr
  have hc : (cxOf (L2.CX P w) P w K mg base ["one", "two"] "ratio_sum" (defScope s_ratio_sum) f cdv A outer s H E).calm = true := rfl
  exact (ss_one (s1_ret (se_callW (c_ratio_with T) (hr.mono (by decide)) hgd tk_def (sw_cons (se_op or_add (se_op or_mul (se_at 0 se_int) (se_at 1 se_int)) (se_op or_mul (se_at 1 se_int) (se_at 0 se_int))) (sw_cons (se_op or_mul (se_at 0 se_int) (se_at 1 se_int)) sw_nil)) (wlen_cons (wlen_cons (fun _ _ _ z => wlen_nil z))))))
theorem c_ratio_sum (T : Tx K mg) : Cal P w K mg base 3 2 "ratio_sum" d_ratio_sum := by
  obtain ⟨f, fd, F, hm, hk, hb, _⟩ := T.f_ratio_sum
  exact ⟨f, fd, ["one", "two"], FF_ratio_sum T F, hm, hk, hb⟩
theorem FF_total_of (T : Tx K mg) {f : Addr} {fd : FuncData} (F : Fun K "total_of" "total_of" s_total_of f fd) : FnG P w K mg base 4 f fd ["numbers"] (spD K mg 1 d_total_of) := by
  have sc : FnScope ["numbers", "found", "number"] ["numbers"] (defScope s_total_of) := ⟨rfl, rfl, rfl, by decide +kernel, rfl, by decide +kernel, by decide +kernel⟩
  have nd := sc.nd
  refine fnG_of (k := 3) (M := mF) F sc (by decide) (fun cdv A outer s H E hr hgd => ?_)
  have hu := room64 hr
  have hu1 := room65 hr
  have hc : (cxOf (L2.CX P w) P w K mg base ["numbers", "found", "number"] "total_of" (defScope s_total_of) f cdv A outer s H E).calm = true := rfl
  exact (ss_cons (s1_set (i := 1) (se_cst T.g_ZERO) rfl nd)
  (ss_cons (s1_for ps_def hc (si_seq (se_var 0)) (sg_name (i := 2) rfl nd) (ss_one (s1_set (i := 1) (se_callW (c_ratio_sum T) (hr.mono (by decide)) hgd tk_def (sw_cons (se_var 1) (sw_cons (se_var 2) sw_nil)) (wlen_cons (wlen_cons (fun _ _ _ z => wlen_nil z)))) rfl nd)))
  (ss_one (s1_ret (se_move 1)))))
theorem c_total_of (T : Tx K mg) : Cal P w K mg base 4 1 "total_of" d_total_of := by
  obtain ⟨f, fd, F, hm, hk, hb, _⟩ := T.f_total_of
  exact ⟨f, fd, ["numbers"], FF_total_of T F, hm, hk, hb⟩
theorem FF_dot (T : Tx K mg) {f : Addr} {fd : FuncData} (F : Fun K "dot" "dot" s_dot f fd) : FnG P w K mg base 5 f fd ["row", "other"] (spD K mg 2 d_dot) := by
  have sc : FnScope ["row", "other", "one", "two"] ["row", "other"] (defScope s_dot) := ⟨rfl, rfl, rfl, by decide +kernel, rfl, by decide +kernel, by decide +kernel⟩
  have nd := sc.nd
  refine fnG_of (k := 4) (M := mF) F sc (by decide) (fun cdv A outer s H E hr hgd => ?_)
  have hu := room64 hr
  have hu1 := room65 hr
  have hc : (cxOf (L2.CX P w) P w K mg base ["row", "other", "one", "two"] "dot" (defScope s_dot) f cdv A outer s H E).calm = true := rfl
  exact (ss_one (s1_ret (se_callW (c_total_of T) (hr.mono (by decide)) hgd tk_def (sw_cons (se_comp (by exact hc) (by exact nd) (si_zip T.z_zip (sa_cons (se_var 0) (sa_cons (se_var 1) sa_nil))) (blkOk_by (own := [("one", 2), ("two", 3)]) (by rfl)) (fun s0 H0 C0 cl0 fp0 => (sg_tup (by exact hc) (sgs_cons (sg_name (i := 2) rfl nd) (sgs_cons (sg_name (i := 3) rfl nd) sgs_nil)))) (fun s0 H0 C0 cl0 fp0 => st_nil) (fun s0 H0 C0 cl0 fp0 => (se_callW (c_ratio_product T) (hr.mono (by decide)) hgd tk_EF (sw_cons (se_var 2) (sw_cons (se_var 3) sw_nil)) (wlen_cons (wlen_cons (fun _ _ _ z => wlen_nil z)))))) sw_nil) (wlen_cons (fun _ _ _ z => wlen_nil z)))))
theorem c_dot (T : Tx K mg) : Cal P w K mg base 5 2 "dot" d_dot := by
  obtain ⟨f, fd, F, hm, hk, hb, _⟩ := T.f_dot
  exact ⟨f, fd, ["row", "other"], FF_dot T F, hm, hk, hb⟩
theorem FF_led_by (T : Tx K mg) {f : Addr} {fd : FuncData} (F : Fun K "led_by" "led_by" s_led_by f fd) : FnG P w K mg base 6 f fd ["form", "row"] (spD K mg 2 d_led_by) := by
  have sc : FnScope ["form", "row", "line"] ["form", "row"] (defScope s_led_by) := ⟨rfl, rfl, rfl, by decide +kernel, rfl, by decide +kernel, by decide +kernel⟩
  have nd := sc.nd
  refine fnG_of (k := 5) (M := mF) F sc (by decide) (fun cdv A outer s H E hr hgd => ?_)
  have hu := room64 hr
  have hu1 := room65 hr
  have hc : (cxOf (L2.CX P w) P w K mg base ["form", "row", "line"] "led_by" (defScope s_led_by) f cdv A outer s H E).calm = true := rfl
  exact (ss_one (s1_ret (se_callTy (cr_tuple) T.z_tuple bt_tuple (sa_cons (se_comp (by exact hc) (by exact nd) (si_seq (se_var 0)) (blkOk_by (own := [("line", 2)]) (by rfl)) (fun s0 H0 C0 cl0 fp0 => (sg_name (i := 2) rfl nd)) (fun s0 H0 C0 cl0 fp0 => st_nil) (fun s0 H0 C0 cl0 fp0 => (se_callW (c_dot T) (hr.mono (by decide)) hgd tk_EF (sw_cons (se_var 2) (sw_cons (se_var 1) sw_nil)) (wlen_cons (wlen_cons (fun _ _ _ z => wlen_nil z)))))) sa_nil))))
theorem c_led_by (T : Tx K mg) : Cal P w K mg base 6 2 "led_by" d_led_by := by
  obtain ⟨f, fd, F, hm, hk, hb, _⟩ := T.f_led_by
  exact ⟨f, fd, ["form", "row"], FF_led_by T F, hm, hk, hb⟩
theorem FF_led (T : Tx K mg) {f : Addr} {fd : FuncData} (F : Fun K "led" "led" s_led f fd) : FnG P w K mg base 7 f fd ["form", "row"] (spD K mg 2 d_led) := by
  have sc : FnScope ["form", "row"] ["form", "row"] (defScope s_led) := ⟨rfl, rfl, rfl, by decide +kernel, rfl, by decide +kernel, by decide +kernel⟩
  have nd := sc.nd
  refine fnG_of (k := 6) (M := mF) F sc (by decide) (fun cdv A outer s H E hr hgd => ?_)
  have hu := room64 hr
  have hu1 := room65 hr
  have hc : (cxOf (L2.CX P w) P w K mg base ["form", "row"] "led" (defScope s_led) f cdv A outer s H E).calm = true := rfl
  exact (ss_cons (s1_drop (se_callW (c_check_form T) (hr.mono (by decide)) hgd tk_def (sw_cons (se_var 0) sw_nil) (wlen_cons (fun _ _ _ z => wlen_nil z))))
  (ss_cons (s1_drop (se_callW (c_check_row_of T) (hr.mono (by decide)) hgd tk_def (sw_cons (se_callB (cr_len) T.z_len bt_len (sa_cons (se_var 0) sa_nil)) (sw_cons (se_var 1) sw_nil)) (wlen_cons (wlen_cons (fun _ _ _ z => wlen_nil z)))))
  (ss_one (s1_ret (se_callW (c_led_by T) (hr.mono (by decide)) hgd tk_def (sw_cons (se_var 0) (sw_cons (se_var 1) sw_nil)) (wlen_cons (wlen_cons (fun _ _ _ z => wlen_nil z))))))))
theorem c_led (T : Tx K mg) : Cal P w K mg base 7 2 "led" d_led := by
  obtain ⟨f, fd, F, hm, hk, hb, _⟩ := T.f_led
  exact ⟨f, fd, ["form", "row"], FF_led T F, hm, hk, hb⟩
theorem k_led__row_form (T : Tx K mg) : CalK P w K mg base 7 2 "led" d_led ["row", "form"] [1, 0] := by
  obtain ⟨f, fd, F, hm, hk, hb, kb⟩ := T.f_led
  exact ⟨f, fd, ["form", "row"], FF_led T F, hm, hk, kb⟩
theorem FF_product_by (T : Tx K mg) {f : Addr} {fd : FuncData} (F : Fun K "product_by" "product_by" s_product_by f fd) : FnG P w K mg base 7 f fd ["form", "row", "other"] (spD K mg 3 d_product_by) := by
  have sc : FnScope ["form", "row", "other"] ["form", "row", "other"] (defScope s_product_by) := ⟨rfl, rfl, rfl, by decide +kernel, rfl, by decide +kernel, by decide +kernel⟩
  have nd := sc.nd
  refine fnG_of (k := 6) (M := mF) F sc (by decide) (fun cdv A outer s H E hr hgd => ?_)
  have hu := room64 hr
  have hu1 := room65 hr
  have hc : (cxOf (L2.CX P w) P w K mg base ["form", "row", "other"] "product_by" (defScope s_product_by) f cdv A outer s H E).calm = true := rfl
  exact (ss_one (s1_ret (se_callW (c_dot T) (hr.mono (by decide)) hgd tk_def (sw_cons (se_var 1) (sw_cons (se_callW (c_led_by T) (hr.mono (by decide)) hgd tk_def (sw_cons (se_var 0) (sw_cons (se_var 2) sw_nil)) (wlen_cons (wlen_cons (fun _ _ _ z => wlen_nil z)))) sw_nil)) (wlen_cons (wlen_cons (fun _ _ _ z => wlen_nil z))))))
theorem c_product_by (T : Tx K mg) : Cal P w K mg base 7 3 "product_by" d_product_by := by
  obtain ⟨f, fd, F, hm, hk, hb, _⟩ := T.f_product_by
  exact ⟨f, fd, ["form", "row", "other"], FF_product_by T F, hm, hk, hb⟩
theorem FF_product (T : Tx K mg) {f : Addr} {fd : FuncData} (F : Fun K "product" "product" s_product f fd) : FnG P w K mg base 8 f fd ["form", "row", "column"] (spD K mg 3 d_product) := by
  have sc : FnScope ["form", "row", "column"] ["form", "row", "column"] (defScope s_product) := ⟨rfl, rfl, rfl, by decide +kernel, rfl, by decide +kernel, by decide +kernel⟩
  have nd := sc.nd
  refine fnG_of (k := 7) (M := mF) F sc (by decide) (fun cdv A outer s H E hr hgd => ?_)
  have hu := room64 hr
  have hu1 := room65 hr
  have hc : (cxOf (L2.CX P w) P w K mg base ["form", "row", "column"] "product" (defScope s_product) f cdv A outer s H E).calm = true := rfl
  exact (ss_cons (s1_drop (se_callW (c_check_form T) (hr.mono (by decide)) hgd tk_def (sw_cons (se_var 0) sw_nil) (wlen_cons (fun _ _ _ z => wlen_nil z))))
  (ss_cons (s1_drop (se_callW (c_check_row_of T) (hr.mono (by decide)) hgd tk_def (sw_cons (se_callB (cr_len) T.z_len bt_len (sa_cons (se_var 0) sa_nil)) (sw_cons (se_var 1) sw_nil)) (wlen_cons (wlen_cons (fun _ _ _ z => wlen_nil z)))))
  (ss_cons (s1_drop (se_callW (c_check_row_of T) (hr.mono (by decide)) hgd tk_def (sw_cons (se_callB (cr_len) T.z_len bt_len (sa_cons (se_var 0) sa_nil)) (sw_cons (se_var 2) sw_nil)) (wlen_cons (wlen_cons (fun _ _ _ z => wlen_nil z)))))
  (ss_one (s1_ret (se_callW (c_product_by T) (hr.mono (by decide)) hgd tk_def (sw_cons (se_var 0) (sw_cons (se_var 1) (sw_cons (se_var 2) sw_nil))) (wlen_cons (wlen_cons (wlen_cons (fun _ _ _ z => wlen_nil z))))))))))
theorem c_product (T : Tx K mg) : Cal P w K mg base 8 3 "product" d_product := by
  obtain ⟨f, fd, F, hm, hk, hb, _⟩ := T.f_product
  exact ⟨f, fd, ["form", "row", "column"], FF_product T F, hm, hk, hb⟩
theorem k_product__column_form_row (T : Tx K mg) : CalK P w K mg base 8 3 "product" d_product ["column", "form", "row"] [1, 2, 0] := by
  obtain ⟨f, fd, F, hm, hk, hb, kb⟩ := T.f_product
  exact ⟨f, fd, ["form", "row", "column"], FF_product T F, hm, hk, kb⟩
theorem FF_worth_by (T : Tx K mg) {f : Addr} {fd : FuncData} (F : Fun K "worth_by" "worth_by" s_worth_by f fd) : FnG P w K mg base 8 f fd ["form", "row"] (spD K mg 2 d_worth_by) := by
  have sc : FnScope ["form", "row"] ["form", "row"] (defScope s_worth_by) := ⟨rfl, rfl, rfl, by decide +kernel, rfl, by decide +kernel, by decide +kernel⟩
  have nd := sc.nd
  refine fnG_of (k := 7) (M := mF) F sc (by decide) (fun cdv A outer s H E hr hgd => ?_)
  have hu := room64 hr
  have hu1 := room65 hr
  have hc : (cxOf (L2.CX P w) P w K mg base ["form", "row"] "worth_by" (defScope s_worth_by) f cdv A outer s H E).calm = true := rfl
  exact (ss_one (s1_ret (se_callW (c_product_by T) (hr.mono (by decide)) hgd tk_def (sw_cons (se_var 0) (sw_cons (se_var 1) (sw_cons (se_var 1) sw_nil))) (wlen_cons (wlen_cons (wlen_cons (fun _ _ _ z => wlen_nil z)))))))
theorem c_worth_by (T : Tx K mg) : Cal P w K mg base 8 2 "worth_by" d_worth_by := by
  obtain ⟨f, fd, F, hm, hk, hb, _⟩ := T.f_worth_by
  exact ⟨f, fd, ["form", "row"], FF_worth_by T F, hm, hk, hb⟩
theorem FF_worth (T : Tx K mg) {f : Addr} {fd : FuncData} (F : Fun K "worth" "worth" s_worth f fd) : FnG P w K mg base 9 f fd ["form", "row"] (spD K mg 2 d_worth) := by
  have sc : FnScope ["form", "row"] ["form", "row"] (defScope s_worth) := ⟨rfl, rfl, rfl, by decide +kernel, rfl, by decide +kernel, by decide +kernel⟩
  have nd := sc.nd
  refine fnG_of (k := 8) (M := mF) F sc (by decide) (fun cdv A outer s H E hr hgd => ?_)
  have hu := room64 hr
  have hu1 := room65 hr
  have hc : (cxOf (L2.CX P w) P w K mg base ["form", "row"] "worth" (defScope s_worth) f cdv A outer s H E).calm = true := rfl
  exact (ss_cons (s1_drop (se_callW (c_check_form T) (hr.mono (by decide)) hgd tk_def (sw_cons (se_var 0) sw_nil) (wlen_cons (fun _ _ _ z => wlen_nil z))))
  (ss_cons (s1_drop (se_callW (c_check_row_of T) (hr.mono (by decide)) hgd tk_def (sw_cons (se_callB (cr_len) T.z_len bt_len (sa_cons (se_var 0) sa_nil)) (sw_cons (se_var 1) sw_nil)) (wlen_cons (wlen_cons (fun _ _ _ z => wlen_nil z)))))
  (ss_one (s1_ret (se_callW (c_worth_by T) (hr.mono (by decide)) hgd tk_def (sw_cons (se_var 0) (sw_cons (se_var 1) sw_nil)) (wlen_cons (wlen_cons (fun _ _ _ z => wlen_nil z))))))))
theorem c_worth (T : Tx K mg) : Cal P w K mg base 9 2 "worth" d_worth := by
  obtain ⟨f, fd, F, hm, hk, hb, _⟩ := T.f_worth
  exact ⟨f, fd, ["form", "row"], FF_worth T F, hm, hk, hb⟩
theorem k_worth__row_form (T : Tx K mg) : CalK P w K mg base 9 2 "worth" d_worth ["row", "form"] [1, 0] := by
  obtain ⟨f, fd, F, hm, hk, hb, kb⟩ := T.f_worth
  exact ⟨f, fd, ["form", "row"], FF_worth T F, hm, hk, kb⟩
theorem FF_is_between (T : Tx K mg) {f : Addr} {fd : FuncData} (F : Fun K "is_between" "is_between" s_is_between f fd) : FnG P w K mg base 2 f fd ["value", "low", "high"] (spD K mg 3 d_is_between) := by
  have sc : FnScope ["value", "low", "high"] ["value", "low", "high"] (defScope s_is_between) := ⟨rfl, rfl, rfl, by decide +kernel, rfl, by decide +kernel, by decide +kernel⟩
  have nd := sc.nd
  refine fnG_of (k := 1) (M := mF) F sc (by decide) (fun cdv A outer s H E hr hgd => ?_)
  have hu := room64 hr
  have hu1 := room65 hr
  have hc : (cxOf (L2.CX P w) P w K mg base ["value", "low", "high"] "is_between" (defScope s_is_between) f cdv A outer s H E).calm = true := rfl
  exact (ss_one (s1_ret (se_and (se_callW (c_is_whole T) (hr.mono (by decide)) hgd tk_def (sw_cons (se_var 0) sw_nil) (wlen_cons (fun _ _ _ z => wlen_nil z))) (se_one (se_chain L2.op_le L2.op_le (se_var 1) (se_var 0) (se_var 2))))))
theorem c_is_between (T : Tx K mg) : Cal P w K mg base 2 3 "is_between" d_is_between := by
  obtain ⟨f, fd, F, hm, hk, hb, _⟩ := T.f_is_between
  exact ⟨f, fd, ["value", "low", "high"], FF_is_between T F, hm, hk, hb⟩
theorem FF_wrong_in_lot (T : Tx K mg) {f : Addr} {fd : FuncData} (F : Fun K "wrong_in_lot" "wrong_in_lot" s_wrong_in_lot f fd) : FnG P w K mg base 3 f fd ["many", "value"] (spD K mg 2 d_wrong_in_lot) := by
  have sc : FnScope ["many", "value", "last", "index", "each"] ["many", "value"] (defScope s_wrong_in_lot) := ⟨rfl, rfl, rfl, by decide +kernel, rfl, by decide +kernel, by decide +kernel⟩
  have nd := sc.nd
  refine fnG_of (k := 2) (M := mF) F sc (by decide) (fun cdv A outer s H E hr hgd => ?_)
  have hu := room64 hr
  have hu1 := room65 hr
  have hc : (cxOf (L2.CX P w) P w K mg base ["many", "value", "last", "index", "each"] "wrong_in_lot" (defScope s_wrong_in_lot) f cdv A outer s H E).calm = true := rfl
  exact (ss_cons (s1_set (i := 2) (se_neg se_int) rfl nd)
  (ss_cons (s1_for ps_def hc (si_enum T.z_enumerate (sa_cons (se_var 1) sa_nil)) (sg_tup (by exact hc) (sgs_cons (sg_name (i := 3) rfl nd) (sgs_cons (sg_name (i := 4) rfl nd) sgs_nil))) (ss_cons (s1_if (st_not (st_val (se_callW (c_is_between T) (hr.mono (by decide)) hgd tk_def (sw_cons (se_var 4) (sw_cons (se_op or_add (se_var 2) se_int) (sw_cons (se_op or_sub (se_var 0) se_int) sw_nil))) (wlen_cons (wlen_cons (wlen_cons (fun _ _ _ z => wlen_nil z))))))) (ss_one (s1_ret (se_move 3))) ss_nil)
  (ss_one (s1_set (i := 2) (se_var 4) rfl nd))))
  (ss_one (s1_ret se_non))))
theorem c_wrong_in_lot (T : Tx K mg) : Cal P w K mg base 3 2 "wrong_in_lot" d_wrong_in_lot := by
  obtain ⟨f, fd, F, hm, hk, hb, _⟩ := T.f_wrong_in_lot
  exact ⟨f, fd, ["many", "value"], FF_wrong_in_lot T F, hm, hk, hb⟩
theorem FF_check_lot (T : Tx K mg) {f : Addr} {fd : FuncData} (F : Fun K "check_lot" "check_lot" s_check_lot f fd) : FnG P w K mg base 4 f fd ["many", "value"] (spD K mg 2 d_check_lot) := by
  have sc : FnScope ["many", "value", "index"] ["many", "value"] (defScope s_check_lot) := ⟨rfl, rfl, rfl, by decide +kernel, rfl, by decide +kernel, by decide +kernel⟩
  have nd := sc.nd
  refine fnG_of (k := 3) (M := mF) F sc (by decide) (fun cdv A outer s H E hr hgd => ?_)
  have hu := room64 hr
  have hu1 := room65 hr
  have hc : (cxOf (L2.CX P w) P w K mg base ["many", "value", "index"] "check_lot" (defScope s_check_lot) f cdv A outer s H E).calm = true := rfl
  exact (ss_cons (s1_if (SW.T (sw_or (st_not (st_val (se_isi T.z_isinstance T.z_tuple bt_tuple (by decide) (se_var 1)))) (sw_or1 (st_cmp (or_eq hu) (se_var 1) (se_tup sa_nil))))) (ss_one s1_never) ss_nil)
  (ss_cons (s1_set (i := 2) (se_callW (c_wrong_in_lot T) (hr.mono (by decide)) hgd tk_def (sw_cons (se_var 0) (sw_cons (se_var 1) sw_nil)) (wlen_cons (wlen_cons (fun _ _ _ z => wlen_nil z)))) rfl nd)
  (ss_one (s1_if (st_cmp or_isnot (se_var 2) se_non) (ss_one s1_never) ss_nil))))
theorem c_check_lot (T : Tx K mg) : Cal P w K mg base 4 2 "check_lot" d_check_lot := by
  obtain ⟨f, fd, F, hm, hk, hb, _⟩ := T.f_check_lot
  exact ⟨f, fd, ["many", "value"], FF_check_lot T F, hm, hk, hb⟩
theorem FF_part_on (T : Tx K mg) {f : Addr} {fd : FuncData} (F : Fun K "part_on" "part_on" s_part_on f fd) : FnG P w K mg base 1 f fd ["form", "lot"] (spD K mg 2 d_part_on) := by
  have sc : FnScope ["form", "lot", "one", "two"] ["form", "lot"] (defScope s_part_on) := ⟨rfl, rfl, rfl, by decide +kernel, rfl, by decide +kernel, by decide +kernel⟩
  have nd := sc.nd
  refine fnG_of (k := 0) (M := mF) F sc (by decide) (fun cdv A outer s H E hr hgd => ?_)
  have hu := room64 hr
  have hu1 := room65 hr
  have hc : (cxOf (L2.CX P w) P w K mg base ["form", "lot", "one", "two"] "part_on" (defScope s_part_on) f cdv A outer s H E).calm = true := rfl
  exact (ss_one (s1_ret (se_callTy (cr_tuple) T.z_tuple bt_tuple (sa_cons (se_comp (by exact hc) (by exact nd) (si_seq (se_var 1)) (blkOk_by (own := [("one", 2)]) (by rfl)) (fun s0 H0 C0 cl0 fp0 => (sg_name (i := 2) rfl nd)) (fun s0 H0 C0 cl0 fp0 => st_nil) (fun s0 H0 C0 cl0 fp0 => (se_callTy (cr_tuple) T.z_tuple bt_tuple (sa_cons (se_comp (by exact hc) (by exact nd) (si_seq (se_var 1)) (blkOk_by (own := [("two", 3)]) (by rfl)) (fun s0 H0 C0 cl0 fp0 => (sg_name (i := 3) rfl nd)) (fun s0 H0 C0 cl0 fp0 => st_nil) (fun s0 H0 C0 cl0 fp0 => (se_ix (se_at 0 (se_var 2)) (se_var 3)))) sa_nil)))) sa_nil))))
theorem c_part_on (T : Tx K mg) : Cal P w K mg base 1 2 "part_on" d_part_on := by
  obtain ⟨f, fd, F, hm, hk, hb, _⟩ := T.f_part_on
  exact ⟨f, fd, ["form", "lot"], FF_part_on T F, hm, hk, hb⟩
theorem FF_part_of (T : Tx K mg) {f : Addr} {fd : FuncData} (F : Fun K "part_of" "part_of" s_part_of f fd) : FnG P w K mg base 7 f fd ["form", "lot"] (spD K mg 2 d_part_of) := by
  have sc : FnScope ["form", "lot"] ["form", "lot"] (defScope s_part_of) := ⟨rfl, rfl, rfl, by decide +kernel, rfl, by decide +kernel, by decide +kernel⟩
  have nd := sc.nd
  refine fnG_of (k := 6) (M := mF) F sc (by decide) (fun cdv A outer s H E hr hgd => ?_)
  have hu := room64 hr
  have hu1 := room65 hr
  have hc : (cxOf (L2.CX P w) P w K mg base ["form", "lot"] "part_of" (defScope s_part_of) f cdv A outer s H E).calm = true := rfl
  exact (ss_cons (s1_drop (se_callW (c_check_form T) (hr.mono (by decide)) hgd tk_def (sw_cons (se_var 0) sw_nil) (wlen_cons (fun _ _ _ z => wlen_nil z))))
  (ss_cons (s1_drop (se_callW (c_check_lot T) (hr.mono (by decide)) hgd tk_def (sw_cons (se_callB (cr_len) T.z_len bt_len (sa_cons (se_var 0) sa_nil)) (sw_cons (se_var 1) sw_nil)) (wlen_cons (wlen_cons (fun _ _ _ z => wlen_nil z)))))
  (ss_one (s1_ret (se_callW (c_part_on T) (hr.mono (by decide)) hgd tk_def (sw_cons (se_var 0) (sw_cons (se_var 1) sw_nil)) (wlen_cons (wlen_cons (fun _ _ _ z => wlen_nil z))))))))
theorem c_part_of (T : Tx K mg) : Cal P w K mg base 7 2 "part_of" d_part_of := by
  obtain ⟨f, fd, F, hm, hk, hb, _⟩ := T.f_part_of
  exact ⟨f, fd, ["form", "lot"], FF_part_of T F, hm, hk, hb⟩
theorem k_part_of__lot_form (T : Tx K mg) : CalK P w K mg base 7 2 "part_of" d_part_of ["lot", "form"] [1, 0] := by
  obtain ⟨f, fd, F, hm, hk, hb, kb⟩ := T.f_part_of
  exact ⟨f, fd, ["form", "lot"], FF_part_of T F, hm, hk, kb⟩
theorem FF__law_deck (T : Tx K mg) {f : Addr} {fd : FuncData} (F : Fun K "_law_deck" "_law_deck" s__law_deck f fd) : FnG P w K mg base 1 f fd ["script", "turn", "salt"] (spD K mg 3 d__law_deck) := by
  have sc : FnScope ["script", "turn", "salt", "mixed", "cell", "great"] ["script", "turn", "salt"] (defScope s__law_deck) := ⟨rfl, rfl, rfl, by decide +kernel, rfl, by decide +kernel, by decide +kernel⟩
  have nd := sc.nd
  refine fnG_of (k := 0) (M := m0) F sc (by decide) (fun cdv A outer s H E hr hgd => ?_)
  have hu := room64 hr
  have hu1 := room65 hr
  have hc : (cxOf (L2.CX P w) P w K mg base ["script", "turn", "salt", "mixed", "cell", "great"] "_law_deck" (defScope s__law_deck) f cdv A outer s H E).calm = true := rfl
  exact (ss_cons (s1_set (i := 3) (se_op or_add (se_var 2) (se_op or_mul se_int (se_var 1))) rfl nd)
  (ss_cons (s1_for ps_def hc (si_seq (se_cutS 0)) (sg_name (i := 4) rfl nd) (ss_one (s1_set (i := 3) (se_op or_mod (se_callTy (cr_int) T.z_int bt_int (sa_cons (se_op or_add (se_op or_add (se_op or_mul (se_var 3) se_int) (se_op or_mul (se_op or_mod (se_callTy (cr_int) T.z_int bt_int (sa_cons (se_var 4) sa_nil)) se_int) se_int)) se_int) sa_nil)) se_int) rfl nd)))
  (ss_cons (s1_set (i := 5) (se_if (st_cmp or_lt (se_var 1) (se_lenAt 0 T.z_len)) (se_callB (cr_abs) T.z_abs bt_abs (sa_cons (se_callTy (cr_int) T.z_int bt_int (sa_cons (se_at 0 (se_var 1)) sa_nil)) sa_nil)) se_int) rfl nd)
  (ss_one (s1_ret (se_lst (sa_cons (se_if (st_cmp or_ge (se_var 5) (se_op or_pow se_int se_int)) (se_var 5) se_int) (sa_cons (se_var 3) (sa_cons (se_var 2) sa_nil)))))))))
theorem c__law_deck (T : Tx K mg) : Cal P w K mg base 1 3 "_law_deck" d__law_deck := by
  obtain ⟨f, fd, F, hm, hk, hb, _⟩ := T.f__law_deck
  exact ⟨f, fd, ["script", "turn", "salt"], FF__law_deck T F, hm, hk, hb⟩
theorem FF__law_roll (T : Tx K mg) {f : Addr} {fd : FuncData} (F : Fun K "_law_roll" "_law_roll" s__law_roll f fd) : FnG P w K mg base 1 f fd ["deck", "width"] (spD K mg 2 d__law_roll) := by
  have sc : FnScope ["deck", "width", "figure"] ["deck", "width"] (defScope s__law_roll) := ⟨rfl, rfl, rfl, by decide +kernel, rfl, by decide +kernel, by decide +kernel⟩
  have nd := sc.nd
  refine fnG_of (k := 0) (M := m0) F sc (by decide) (fun cdv A outer s H E hr hgd => ?_)
  have hu := room64 hr
  have hu1 := room65 hr
  have hc : (cxOf (L2.CX P w) P w K mg base ["deck", "width", "figure"] "_law_roll" (defScope s__law_roll) f cdv A outer s H E).calm = true := rfl
  exact (ss_cons (s1_if (st_cmp or_gt (se_at 0 se_int) se_int) (ss_cons (s1_set (i := 2) (se_op or_mod (se_callTy (cr_int) T.z_int bt_int (sa_cons (se_at 0 se_int) sa_nil)) (se_var 1)) rfl nd)
  (ss_cons (s1_asgW (se_op or_div (se_at 0 se_int) (se_var 1)) (sw_at 0 sx_int))
  (ss_one (s1_ret (se_move 2))))) ss_nil)
  (ss_cons (s1_asgW (se_op or_mod (se_callTy (cr_int) T.z_int bt_int (sa_cons (se_op or_add (se_op or_mul (se_at 0 se_int) se_int) se_int) sa_nil)) se_int) (sw_at 0 sx_int))
  (ss_cons (s1_asgW (se_op or_mod (se_callTy (cr_int) T.z_int bt_int (sa_cons (se_op or_add (se_op or_add (se_op or_mul (se_at 0 se_int) se_int) (se_at 0 se_int)) se_int) sa_nil)) se_int) (sw_at 0 sx_int))
  (ss_one (s1_ret (se_op or_mod (se_callTy (cr_int) T.z_int bt_int (sa_cons (se_op or_div (se_at 0 se_int) se_int) sa_nil)) (se_var 1)))))))
theorem c__law_roll (T : Tx K mg) : Cal P w K mg base 1 2 "_law_roll" d__law_roll := by
  obtain ⟨f, fd, F, hm, hk, hb, _⟩ := T.f__law_roll
  exact ⟨f, fd, ["deck", "width"], FF__law_roll T F, hm, hk, hb⟩
theorem FF__law_pick (T : Tx K mg) {f : Addr} {fd : FuncData} (F : Fun K "_law_pick" "_law_pick" s__law_pick f fd) : FnG P w K mg base 2 f fd ["deck", "some"] (spD K mg 2 d__law_pick) := by
  have sc : FnScope ["deck", "some"] ["deck", "some"] (defScope s__law_pick) := ⟨rfl, rfl, rfl, by decide +kernel, rfl, by decide +kernel, by decide +kernel⟩
  have nd := sc.nd
  refine fnG_of (k := 1) (M := m0) F sc (by decide) (fun cdv A outer s H E hr hgd => ?_)
  have hu := room64 hr
  have hu1 := room65 hr
  have hc : (cxOf (L2.CX P w) P w K mg base ["deck", "some"] "_law_pick" (defScope s__law_pick) f cdv A outer s H E).calm = true := rfl
  exact (ss_one (s1_ret (se_at 1 (se_callA (c__law_roll T) 0 (hr.mono (by decide)) hgd tk_def (sw_cons (se_callB (cr_len) T.z_len bt_len (sa_cons (se_var 1) sa_nil)) sw_nil) (fun ρ ws r z => congrArg Nat.succ ((wlen_cons (fun _ _ _ z => wlen_nil z)) ρ ws r z))))))
theorem c__law_pick (T : Tx K mg) : Cal P w K mg base 2 2 "_law_pick" d__law_pick := by
  obtain ⟨f, fd, F, hm, hk, hb, _⟩ := T.f__law_pick
  exact ⟨f, fd, ["deck", "some"], FF__law_pick T F, hm, hk, hb⟩
theorem FF__law_gcd (T : Tx K mg) {f : Addr} {fd : FuncData} (F : Fun K "_law_gcd" "_law_gcd" s__law_gcd f fd) : FnG P w K mg base 1 f fd ["one", "two"] (spD K mg 2 d__law_gcd) := by
  have sc : FnScope ["one", "two"] ["one", "two"] (defScope s__law_gcd) := ⟨rfl, rfl, rfl, by decide +kernel, rfl, by decide +kernel, by decide +kernel⟩
  have nd := sc.nd
  refine fnG_of (k := 0) (M := mF) F sc (by decide) (fun cdv A outer s H E hr hgd => ?_)
  have hu := room64 hr
  have hu1 := room65 hr
  have hc : (cxOf (L2.CX P w) P w K mg base ["one", "two"] "_law_gcd" (defScope s__law_gcd) f cdv A outer s H E).calm = true := rfl
  exact (ss_cons (s1_while ps_def (st_cmp or_gt (se_var 1) se_int) (ss_one (s1_par (i := 0) (j := 1) hc (sw_cons (se_var 1) (sw_cons (se_op or_mod (se_callTy (cr_int) T.z_int bt_int (sa_cons (se_var 0) sa_nil)) (se_var 1)) sw_nil)) nd)))
  (ss_one (s1_ret (se_move 0))))
theorem c__law_gcd (T : Tx K mg) : Cal P w K mg base 1 2 "_law_gcd" d__law_gcd := by
  obtain ⟨f, fd, F, hm, hk, hb, _⟩ := T.f__law_gcd
  exact ⟨f, fd, ["one", "two"], FF__law_gcd T F, hm, hk, hb⟩
theorem FF__law_frac (T : Tx K mg) {f : Addr} {fd : FuncData} (F : Fun K "_law_frac" "_law_frac" s__law_frac f fd) : FnG P w K mg base 2 f fd ["top", "down"] (spD K mg 2 d__law_frac) := by
  have sc : FnScope ["top", "down", "sign", "common"] ["top", "down"] (defScope s__law_frac) := ⟨rfl, rfl, rfl, by decide +kernel, rfl, by decide +kernel, by decide +kernel⟩
  have nd := sc.nd
  refine fnG_of (k := 1) (M := mF) F sc (by decide) (fun cdv A outer s H E hr hgd => ?_)
  have hu := room64 hr
  have hu1 := room65 hr
  have hc : (cxOf (L2.CX P w) P w K mg base ["top", "down", "sign", "common"] "_law_frac" (defScope s__law_frac) f cdv A outer s H E).calm = true := rfl
  exact (ss_cons (s1_set (i := 2) (se_if (st_cmp or_lt (se_var 1) se_int) (se_neg se_int) se_int) rfl nd)
  (ss_cons (s1_set (i := 3) (se_callW (c__law_gcd T) (hr.mono (by decide)) hgd tk_def (sw_cons (se_callB (cr_abs) T.z_abs bt_abs (sa_cons (se_var 1) sa_nil)) (sw_cons (se_callB (cr_abs) T.z_abs bt_abs (sa_cons (se_var 0) sa_nil)) sw_nil)) (wlen_cons (wlen_cons (fun _ _ _ z => wlen_nil z)))) rfl nd)
  (ss_one (s1_ret (se_tup (sa_cons (se_op or_div (se_op or_mul (se_var 2) (se_var 0)) (se_var 3)) (sa_cons (se_op or_div (se_op or_mul (se_var 2) (se_var 1)) (se_var 3)) sa_nil)))))))
theorem c__law_frac (T : Tx K mg) : Cal P w K mg base 2 2 "_law_frac" d__law_frac := by
  obtain ⟨f, fd, F, hm, hk, hb, _⟩ := T.f__law_frac
  exact ⟨f, fd, ["top", "down"], FF__law_frac T F, hm, hk, hb⟩
theorem FF__law_plus (T : Tx K mg) {f : Addr} {fd : FuncData} (F : Fun K "_law_plus" "_law_plus" s__law_plus f fd) : FnG P w K mg base 3 f fd ["one", "two"] (spD K mg 2 d__law_plus) := by
  have sc : FnScope ["one", "two"] ["one", "two"] (defScope s__law_plus) := ⟨rfl, rfl, rfl, by decide +kernel, rfl, by decide +kernel, by decide +kernel⟩
  have nd := sc.nd
  refine fnG_of (k := 2) (M := mF) F sc (by decide) (fun cdv A outer s H E hr hgd => ?_)
  have hu := room64 hr
  have hu1 := room65 hr
  have hc : (cxOf (L2.CX P w) P w K mg base ["one", "two"] "_law_plus" (defScope s__law_plus) f cdv A outer s H E).calm = true := rfl
  exact (ss_one (s1_ret (se_callW (c__law_frac T) (hr.mono (by decide)) hgd tk_def (sw_cons (se_op or_add (se_op or_mul (se_at 0 se_int) (se_at 1 se_int)) (se_op or_mul (se_at 1 se_int) (se_at 0 se_int))) (sw_cons (se_op or_mul (se_at 0 se_int) (se_at 1 se_int)) sw_nil)) (wlen_cons (wlen_cons (fun _ _ _ z => wlen_nil z))))))
theorem c__law_plus (T : Tx K mg) : Cal P w K mg base 3 2 "_law_plus" d__law_plus := by
  obtain ⟨f, fd, F, hm, hk, hb, _⟩ := T.f__law_plus
  exact ⟨f, fd, ["one", "two"], FF__law_plus T F, hm, hk, hb⟩
theorem FF__law_times (T : Tx K mg) {f : Addr} {fd : FuncData} (F : Fun K "_law_times" "_law_times" s__law_times f fd) : FnG P w K mg base 3 f fd ["one", "two"] (spD K mg 2 d__law_times) := by
  have sc : FnScope ["one", "two"] ["one", "two"] (defScope s__law_times) := ⟨rfl, rfl, rfl, by decide +kernel, rfl, by decide +kernel, by decide +kernel⟩
  have nd := sc.nd
  refine fnG_of (k := 2) (M := mF) F sc (by decide) (fun cdv A outer s H E hr hgd => ?_)
  have hu := room64 hr
  have hu1 := room65 hr
  have hc : (cxOf (L2.CX P w) P w K mg base ["one", "two"] "_law_times" (defScope s__law_times) f cdv A outer s H E).calm = true := rfl
  exact (ss_one (s1_ret (se_callW (c__law_frac T) (hr.mono (by decide)) hgd tk_def (sw_cons (se_op or_mul (se_at 0 se_int) (se_at 1 se_int)) (sw_cons (se_op or_mul (se_at 0 se_int) (se_at 1 se_int)) sw_nil)) (wlen_cons (wlen_cons (fun _ _ _ z => wlen_nil z))))))
theorem c__law_times (T : Tx K mg) : Cal P w K mg base 3 2 "_law_times" d__law_times := by
  obtain ⟨f, fd, F, hm, hk, hb, _⟩ := T.f__law_times
  exact ⟨f, fd, ["one", "two"], FF__law_times T F, hm, hk, hb⟩
theorem FF__law_dot (T : Tx K mg) {f : Addr} {fd : FuncData} (F : Fun K "_law_dot" "_law_dot" s__law_dot f fd) : FnG P w K mg base 4 f fd ["one", "two"] (spD K mg 2 d__law_dot) := by
  have sc : FnScope ["one", "two", "total", "left", "right"] ["one", "two"] (defScope s__law_dot) := ⟨rfl, rfl, rfl, by decide +kernel, rfl, by decide +kernel, by decide +kernel⟩
  have nd := sc.nd
  refine fnG_of (k := 3) (M := mF) F sc (by decide) (fun cdv A outer s H E hr hgd => ?_)
  have hu := room64 hr
  have hu1 := room65 hr
  have hc : (cxOf (L2.CX P w) P w K mg base ["one", "two", "total", "left", "right"] "_law_dot" (defScope s__law_dot) f cdv A outer s H E).calm = true := rfl
  exact (ss_cons (s1_set (i := 2) (se_tup (sa_cons se_int (sa_cons se_int sa_nil))) rfl nd)
  (ss_cons (s1_for ps_def hc (si_zip T.z_zip (sa_cons (se_var 0) (sa_cons (se_var 1) sa_nil))) (sg_tup (by exact hc) (sgs_cons (sg_name (i := 3) rfl nd) (sgs_cons (sg_name (i := 4) rfl nd) sgs_nil))) (ss_one (s1_set (i := 2) (se_callW (c__law_plus T) (hr.mono (by decide)) hgd tk_def (sw_cons (se_var 2) (sw_cons (se_callW (c__law_times T) (hr.mono (by decide)) hgd tk_def (sw_cons (se_var 3) (sw_cons (se_var 4) sw_nil)) (wlen_cons (wlen_cons (fun _ _ _ z => wlen_nil z)))) sw_nil)) (wlen_cons (wlen_cons (fun _ _ _ z => wlen_nil z)))) rfl nd)))
  (ss_one (s1_ret (se_move 2)))))
theorem c__law_dot (T : Tx K mg) : Cal P w K mg base 4 2 "_law_dot" d__law_dot := by
  obtain ⟨f, fd, F, hm, hk, hb, _⟩ := T.f__law_dot
  exact ⟨f, fd, ["one", "two"], FF__law_dot T F, hm, hk, hb⟩
theorem FF__law_led (T : Tx K mg) {f : Addr} {fd : FuncData} (F : Fun K "_law_led" "_law_led" s__law_led f fd) : FnG P w K mg base 5 f fd ["table", "line"] (spD K mg 2 d__law_led) := by
  have sc : FnScope ["table", "line", "own"] ["table", "line"] (defScope s__law_led) := ⟨rfl, rfl, rfl, by decide +kernel, rfl, by decide +kernel, by decide +kernel⟩
  have nd := sc.nd
  refine fnG_of (k := 4) (M := mF) F sc (by decide) (fun cdv A outer s H E hr hgd => ?_)
  have hu := room64 hr
  have hu1 := room65 hr
  have hc : (cxOf (L2.CX P w) P w K mg base ["table", "line", "own"] "_law_led" (defScope s__law_led) f cdv A outer s H E).calm = true := rfl
  exact (ss_one (s1_ret (se_callTy (cr_tuple) T.z_tuple bt_tuple (sa_cons (se_comp (by exact hc) (by exact nd) (si_seq (se_var 0)) (blkOk_by (own := [("own", 2)]) (by rfl)) (fun s0 H0 C0 cl0 fp0 => (sg_name (i := 2) rfl nd)) (fun s0 H0 C0 cl0 fp0 => st_nil) (fun s0 H0 C0 cl0 fp0 => (se_callW (c__law_dot T) (hr.mono (by decide)) hgd tk_EF (sw_cons (se_var 2) (sw_cons (se_var 1) sw_nil)) (wlen_cons (wlen_cons (fun _ _ _ z => wlen_nil z)))))) sa_nil))))
theorem c__law_led (T : Tx K mg) : Cal P w K mg base 5 2 "_law_led" d__law_led := by
  obtain ⟨f, fd, F, hm, hk, hb, _⟩ := T.f__law_led
  exact ⟨f, fd, ["table", "line"], FF__law_led T F, hm, hk, hb⟩
theorem FF__law_worth (T : Tx K mg) {f : Addr} {fd : FuncData} (F : Fun K "_law_worth" "_law_worth" s__law_worth f fd) : FnG P w K mg base 6 f fd ["table", "line"] (spD K mg 2 d__law_worth) := by
  have sc : FnScope ["table", "line"] ["table", "line"] (defScope s__law_worth) := ⟨rfl, rfl, rfl, by decide +kernel, rfl, by decide +kernel, by decide +kernel⟩
  have nd := sc.nd
  refine fnG_of (k := 5) (M := mF) F sc (by decide) (fun cdv A outer s H E hr hgd => ?_)
  have hu := room64 hr
  have hu1 := room65 hr
  have hc : (cxOf (L2.CX P w) P w K mg base ["table", "line"] "_law_worth" (defScope s__law_worth) f cdv A outer s H E).calm = true := rfl
  exact (ss_one (s1_ret (se_callW (c__law_dot T) (hr.mono (by decide)) hgd tk_def (sw_cons (se_var 1) (sw_cons (se_callW (c__law_led T) (hr.mono (by decide)) hgd tk_def (sw_cons (se_var 0) (sw_cons (se_var 1) sw_nil)) (wlen_cons (wlen_cons (fun _ _ _ z => wlen_nil z)))) sw_nil)) (wlen_cons (wlen_cons (fun _ _ _ z => wlen_nil z))))))
theorem c__law_worth (T : Tx K mg) : Cal P w K mg base 6 2 "_law_worth" d__law_worth := by
  obtain ⟨f, fd, F, hm, hk, hb, _⟩ := T.f__law_worth
  exact ⟨f, fd, ["table", "line"], FF__law_worth T F, hm, hk, hb⟩
theorem FF__law_wholes (T : Tx K mg) {f : Addr} {fd : FuncData} (F : Fun K "_law_wholes" "_law_wholes" s__law_wholes f fd) : FnG P w K mg base 2 f fd ["deck", "size", "low", "width"] (spD K mg 4 d__law_wholes) := by
  have sc : FnScope ["deck", "size", "low", "width", "found", "turn"] ["deck", "size", "low", "width"] (defScope s__law_wholes) := ⟨rfl, rfl, rfl, by decide +kernel, rfl, by decide +kernel, by decide +kernel⟩
  have nd := sc.nd
  refine fnG_of (k := 1) (M := m0) F sc (by decide) (fun cdv A outer s H E hr hgd => ?_)
  have hu := room64 hr
  have hu1 := room65 hr
  have hc : (cxOf (L2.CX P w) P w K mg base ["deck", "size", "low", "width", "found", "turn"] "_law_wholes" (defScope s__law_wholes) f cdv A outer s H E).calm = true := rfl
  exact (ss_cons (s1_set (i := 4) (se_lst sa_nil) rfl nd)
  (ss_cons (s1_for ps_def hc (si_range1 T.z_range (sa_cons (se_var 1) sa_nil)) (sg_name (i := 5) rfl nd) (ss_one (s1_app 4 (se_op or_add (se_var 2) (se_callA (c__law_roll T) 0 (hr.mono (by decide)) hgd tk_def (sw_cons (se_var 3) sw_nil) (fun ρ ws r z => congrArg Nat.succ ((wlen_cons (fun _ _ _ z => wlen_nil z)) ρ ws r z)))))))
  (ss_one (s1_ret (se_move 4)))))
theorem c__law_wholes (T : Tx K mg) : Cal P w K mg base 2 4 "_law_wholes" d__law_wholes := by
  obtain ⟨f, fd, F, hm, hk, hb, _⟩ := T.f__law_wholes
  exact ⟨f, fd, ["deck", "size", "low", "width"], FF__law_wholes T F, hm, hk, hb⟩
theorem FF__law_spots (T : Tx K mg) {f : Addr} {fd : FuncData} (F : Fun K "_law_spots" "_law_spots" s__law_spots f fd) : FnG P w K mg base 3 f fd ["deck", "size"] (spD K mg 2 d__law_spots) := by
  have sc : FnScope ["deck", "size", "kept", "at"] ["deck", "size"] (defScope s__law_spots) := ⟨rfl, rfl, rfl, by decide +kernel, rfl, by decide +kernel, by decide +kernel⟩
  have nd := sc.nd
  refine fnG_of (k := 2) (M := m0) F sc (by decide) (fun cdv A outer s H E hr hgd => ?_)
  have hu := room64 hr
  have hu1 := room65 hr
  have hc : (cxOf (L2.CX P w) P w K mg base ["deck", "size", "kept", "at"] "_law_spots" (defScope s__law_spots) f cdv A outer s H E).calm = true := rfl
  exact (ss_cons (s1_set (i := 2) (se_callA (c__law_wholes T) 0 (hr.mono (by decide)) hgd tk_def (sw_cons (se_var 1) (sw_cons se_int (sw_cons se_int sw_nil))) (fun ρ ws r z => congrArg Nat.succ ((wlen_cons (wlen_cons (wlen_cons (fun _ _ _ z => wlen_nil z)))) ρ ws r z))) rfl nd)
  (ss_cons (s1_setE 2 se_int (se_callA (c__law_roll T) 0 (hr.mono (by decide)) hgd tk_def (sw_cons (se_var 1) sw_nil) (fun ρ ws r z => congrArg Nat.succ ((wlen_cons (fun _ _ _ z => wlen_nil z)) ρ ws r z))))
  (ss_one (s1_ret (se_callTy (cr_tuple) T.z_tuple bt_tuple (sa_cons (se_comp (by exact hc) (by exact nd) (si_range1 T.z_range (sa_cons (se_var 1) sa_nil)) (blkOk_by (own := [("at", 3)]) (by rfl)) (fun s0 H0 C0 cl0 fp0 => (sg_name (i := 3) rfl nd)) (fun s0 H0 C0 cl0 fp0 => (st_one (st_cmp (or_eq hu) (se_at 2 (se_var 3)) se_int))) (fun s0 H0 C0 cl0 fp0 => (se_var 3))) sa_nil))))))
theorem c__law_spots (T : Tx K mg) : Cal P w K mg base 3 2 "_law_spots" d__law_spots := by
  obtain ⟨f, fd, F, hm, hk, hb, _⟩ := T.f__law_spots
  exact ⟨f, fd, ["deck", "size"], FF__law_spots T F, hm, hk, hb⟩
theorem FF__law_table (T : Tx K mg) {f : Addr} {fd : FuncData} (F : Fun K "_law_table" "_law_table" s__law_table f fd) : FnG P w K mg base 3 f fd ["cells", "down"] (spD K mg 2 d__law_table) := by
  have sc : FnScope ["cells", "down", "line", "x"] ["cells", "down"] (defScope s__law_table) := ⟨rfl, rfl, rfl, by decide +kernel, rfl, by decide +kernel, by decide +kernel⟩
  have nd := sc.nd
  refine fnG_of (k := 2) (M := mF) F sc (by decide) (fun cdv A outer s H E hr hgd => ?_)
  have hu := room64 hr
  have hu1 := room65 hr
  have hc : (cxOf (L2.CX P w) P w K mg base ["cells", "down", "line", "x"] "_law_table" (defScope s__law_table) f cdv A outer s H E).calm = true := rfl
  exact (ss_one (s1_ret (se_callTy (cr_tuple) T.z_tuple bt_tuple (sa_cons (se_comp (by exact hc) (by exact nd) (si_seq (se_var 0)) (blkOk_by (own := [("line", 2)]) (by rfl)) (fun s0 H0 C0 cl0 fp0 => (sg_name (i := 2) rfl nd)) (fun s0 H0 C0 cl0 fp0 => st_nil) (fun s0 H0 C0 cl0 fp0 => (se_callTy (cr_tuple) T.z_tuple bt_tuple (sa_cons (se_comp (by exact hc) (by exact nd) (si_seq (se_var 2)) (blkOk_by (own := [("x", 3)]) (by rfl)) (fun s0 H0 C0 cl0 fp0 => (sg_name (i := 3) rfl nd)) (fun s0 H0 C0 cl0 fp0 => st_nil) (fun s0 H0 C0 cl0 fp0 => (se_callW (c__law_frac T) (hr.mono (by decide)) hgd tk_EF (sw_cons (se_var 3) (sw_cons (se_var 1) sw_nil)) (wlen_cons (wlen_cons (fun _ _ _ z => wlen_nil z)))))) sa_nil)))) sa_nil))))
theorem c__law_table (T : Tx K mg) : Cal P w K mg base 3 2 "_law_table" d__law_table := by
  obtain ⟨f, fd, F, hm, hk, hb, _⟩ := T.f__law_table
  exact ⟨f, fd, ["cells", "down"], FF__law_table T F, hm, hk, hb⟩
theorem FF__law_form (T : Tx K mg) {f : Addr} {fd : FuncData} (F : Fun K "_law_form" "_law_form" s__law_form f fd) : FnG P w K mg base 4 f fd ["deck", "size"] (spD K mg 2 d__law_form) := by
  have sc : FnScope ["deck", "size", "way", "down", "i", "cells", "turn", "line", "j", "more"] ["deck", "size"] (defScope s__law_form) := ⟨rfl, rfl, rfl, by decide +kernel, rfl, by decide +kernel, by decide +kernel⟩
  have nd := sc.nd
  refine fnG_of (k := 3) (M := m0) F sc (by decide) (fun cdv A outer s H E hr hgd => ?_)
  have hu := room64 hr
  have hu1 := room65 hr
  have hc : (cxOf (L2.CX P w) P w K mg base ["deck", "size", "way", "down", "i", "cells", "turn", "line", "j", "more"] "_law_form" (defScope s__law_form) f cdv A outer s H E).calm = true := rfl
  exact (ss_cons (s1_par (i := 2) (j := 3) hc (sw_cons (se_callA (c__law_roll T) 0 (hr.mono (by decide)) hgd tk_def (sw_cons se_int sw_nil) (fun ρ ws r z => congrArg Nat.succ ((wlen_cons (fun _ _ _ z => wlen_nil z)) ρ ws r z))) (sw_cons (se_callA (c__law_pick T) 0 (hr.mono (by decide)) hgd tk_def (sw_cons (se_lst (sa_cons se_int (sa_cons se_int (sa_cons se_int (sa_cons se_int (sa_cons se_int sa_nil)))))) sw_nil) (fun ρ ws r z => congrArg Nat.succ ((wlen_cons (fun _ _ _ z => wlen_nil z)) ρ ws r z))) sw_nil)) nd)
  (ss_cons (s1_set (i := 5) (se_comp (by exact hc) (by exact nd) (si_range1 T.z_range (sa_cons (se_var 1) sa_nil)) (blkOk_by (own := [("i", 4)]) (by rfl)) (fun s0 H0 C0 cl0 fp0 => (sg_name (i := 4) rfl nd)) (fun s0 H0 C0 cl0 fp0 => st_nil) (fun s0 H0 C0 cl0 fp0 => (se_op or_mul (se_lst (sa_cons se_int sa_nil)) (se_var 1)))) rfl nd)
  (ss_cons (s1_if (SW.T (sw_or (st_cmp (or_eq hu) (se_var 2) se_int) (sw_or1 (st_cmp (or_eq hu) (se_var 2) se_int)))) (ss_one (s1_for ps_def hc (si_range1 T.z_range (sa_cons (se_op or_add se_int (se_callA (c__law_roll T) 0 (hr.mono (by decide)) hgd tk_def (sw_cons se_int sw_nil) (fun ρ ws r z => congrArg Nat.succ ((wlen_cons (fun _ _ _ z => wlen_nil z)) ρ ws r z)))) sa_nil)) (sg_name (i := 6) rfl nd) (ss_cons (s1_set (i := 7) (se_callA (c__law_wholes T) 0 (hr.mono (by decide)) hgd tk_def (sw_cons (se_var 1) (sw_cons (se_neg se_int) (sw_cons se_int sw_nil))) (fun ρ ws r z => congrArg Nat.succ ((wlen_cons (wlen_cons (wlen_cons (fun _ _ _ z => wlen_nil z)))) ρ ws r z))) rfl nd)
  (ss_one (s1_set (i := 5) (se_comp (by exact hc) (by exact nd) (si_range1 T.z_range (sa_cons (se_var 1) sa_nil)) (blkOk_by (own := [("i", 4)]) (by rfl)) (fun s0 H0 C0 cl0 fp0 => (sg_name (i := 4) rfl nd)) (fun s0 H0 C0 cl0 fp0 => st_nil) (fun s0 H0 C0 cl0 fp0 => (se_comp (by exact hc) (by exact nd) (si_range1 T.z_range (sa_cons (se_var 1) sa_nil)) (blkOk_by (own := [("j", 8)]) (by rfl)) (fun s0 H0 C0 cl0 fp0 => (sg_name (i := 8) rfl nd)) (fun s0 H0 C0 cl0 fp0 => st_nil) (fun s0 H0 C0 cl0 fp0 => (se_op or_add (se_at2 5 (sx_var 4) (sx_var 8)) (se_op or_mul (se_at 7 (se_var 4)) (se_at 7 (se_var 8)))))))) rfl nd))))) ss_nil)
  (ss_cons (s1_for ps_def hc (si_range1 T.z_range (sa_cons (se_var 1) sa_nil)) (sg_name (i := 4) rfl nd) (ss_one (s1_for ps_def hc (si_range2 T.z_range (sa_cons (se_var 4) (sa_cons (se_var 1) sa_nil))) (sg_name (i := 8) rfl nd) (ss_cons (s1_set (i := 9) se_int rfl nd)
  (ss_cons (s1_if (st_cmp (or_eq hu) (se_var 2) se_int) (ss_one (s1_set (i := 9) (se_op or_sub (se_callA (c__law_roll T) 0 (hr.mono (by decide)) hgd tk_def (sw_cons se_int sw_nil) (fun ρ ws r z => congrArg Nat.succ ((wlen_cons (fun _ _ _ z => wlen_nil z)) ρ ws r z))) se_int) rfl nd)) (ss_one (s1_if (SW.T (sw_or (st_cmp (or_eq hu) (se_var 2) se_int) (sw_or1 (st_cmp (or_eq hu) (se_var 2) se_int)))) (ss_one (s1_set (i := 9) (se_callA (c__law_roll T) 0 (hr.mono (by decide)) hgd tk_def (sw_cons se_int sw_nil) (fun ρ ws r z => congrArg Nat.succ ((wlen_cons (fun _ _ _ z => wlen_nil z)) ρ ws r z))) rfl nd)) (ss_one (s1_if (st_cmp (or_eq hu) (se_var 2) se_int) (ss_one (s1_set (i := 9) (se_if (st_cmp (or_eq hu) (se_var 4) (se_var 8)) se_int (se_callA (c__law_roll T) 0 (hr.mono (by decide)) hgd tk_def (sw_cons se_int sw_nil) (fun ρ ws r z => congrArg Nat.succ ((wlen_cons (fun _ _ _ z => wlen_nil z)) ρ ws r z)))) rfl nd)) (ss_one (s1_if (st_cmp (or_eq hu) (se_var 2) se_int) (ss_one (s1_set (i := 9) (se_op or_sub se_int (se_op or_div (se_callA (c__law_roll T) 0 (hr.mono (by decide)) hgd tk_def (sw_cons se_int sw_nil) (fun ρ ws r z => congrArg Nat.succ ((wlen_cons (fun _ _ _ z => wlen_nil z)) ρ ws r z))) se_int)) rfl nd)) ss_nil)))))))
  (ss_cons (s1_asgW (se_op or_add (se_at2 5 (sx_var 4) (sx_var 8)) (se_var 9)) (sw_at2 5 (sx_var 4) (sx_var 8)))
  (ss_one (s1_asgW (se_at2 5 (sx_var 4) (sx_var 8)) (sw_at2 5 (sx_var 8) (sx_var 4))))))))))
  (ss_one (s1_ret (se_callW (c__law_table T) (hr.mono (by decide)) hgd tk_def (sw_cons (se_var 5) (sw_cons (se_var 3) sw_nil)) (wlen_cons (wlen_cons (fun _ _ _ z => wlen_nil z))))))))))
theorem c__law_form (T : Tx K mg) : Cal P w K mg base 4 2 "_law_form" d__law_form := by
  obtain ⟨f, fd, F, hm, hk, hb, _⟩ := T.f__law_form
  exact ⟨f, fd, ["deck", "size"], FF__law_form T F, hm, hk, hb⟩
theorem FF__law_line (T : Tx K mg) {f : Addr} {fd : FuncData} (F : Fun K "_law_line" "_law_line" s__law_line f fd) : FnG P w K mg base 3 f fd ["deck", "size"] (spD K mg 2 d__law_line) := by
  have sc : FnScope ["deck", "size", "found", "great", "turn", "top"] ["deck", "size"] (defScope s__law_line) := ⟨rfl, rfl, rfl, by decide +kernel, rfl, by decide +kernel, by decide +kernel⟩
  have nd := sc.nd
  refine fnG_of (k := 2) (M := m0) F sc (by decide) (fun cdv A outer s H E hr hgd => ?_)
  have hu := room64 hr
  have hu1 := room65 hr
  have hc : (cxOf (L2.CX P w) P w K mg base ["deck", "size", "found", "great", "turn", "top"] "_law_line" (defScope s__law_line) f cdv A outer s H E).calm = true := rfl
  exact (ss_cons (s1_par (i := 2) (j := 3) hc (sw_cons (se_lst sa_nil) (sw_cons (se_callA (c__law_pick T) 0 (hr.mono (by decide)) hgd tk_def (sw_cons (se_lst (sa_cons se_int (sa_cons se_int (sa_cons se_int (sa_cons se_int sa_nil))))) sw_nil) (fun ρ ws r z => congrArg Nat.succ ((wlen_cons (fun _ _ _ z => wlen_nil z)) ρ ws r z))) sw_nil)) nd)
  (ss_cons (s1_for ps_def hc (si_range1 T.z_range (sa_cons (se_var 1) sa_nil)) (sg_name (i := 4) rfl nd) (ss_cons (s1_set (i := 5) (se_op or_sub (se_callA (c__law_roll T) 0 (hr.mono (by decide)) hgd tk_def (sw_cons se_int sw_nil) (fun ρ ws r z => congrArg Nat.succ ((wlen_cons (fun _ _ _ z => wlen_nil z)) ρ ws r z))) se_int) rfl nd)
  (ss_one (s1_app 2 (se_callW (c__law_frac T) (hr.mono (by decide)) hgd tk_def (sw_cons (se_op or_mul (se_var 5) (se_var 3)) (sw_cons (se_op or_add se_int (se_callA (c__law_roll T) 0 (hr.mono (by decide)) hgd tk_def (sw_cons se_int sw_nil) (fun ρ ws r z => congrArg Nat.succ ((wlen_cons (fun _ _ _ z => wlen_nil z)) ρ ws r z)))) sw_nil)) (wlen_cons (wlen_cons (fun _ _ _ z => wlen_nil z))))))))
  (ss_one (s1_ret (se_callTy (cr_tuple) T.z_tuple bt_tuple (sa_cons (se_var 2) sa_nil))))))
theorem c__law_line (T : Tx K mg) : Cal P w K mg base 3 2 "_law_line" d__law_line := by
  obtain ⟨f, fd, F, hm, hk, hb, _⟩ := T.f__law_line
  exact ⟨f, fd, ["deck", "size"], FF__law_line T F, hm, hk, hb⟩
theorem FF_law (T : Tx K mg) {f : Addr} {fd : FuncData} (F : Fun K "law" "law" s_law f fd) : FnG P w K mg base 10 f fd ["script"] (spD K mg 1 d_law) := by
  have sc : FnScope ["script", "turn", "deck", "size", "table", "one", "two", "some", "own", "told", "part", "crossed", "due", "i", "j"] ["script"] (defScope s_law) := ⟨rfl, rfl, rfl, by decide +kernel, rfl, by decide +kernel, by decide +kernel⟩
  have nd := sc.nd
  refine fnG_of (k := 9) (M := m0) F sc (by decide) (fun cdv A outer s H E hr hgd => ?_)
  have hu := room64 hr
  have hu1 := room65 hr
  have hc : (cxOf (L2.CX P w) P w K mg base ["script", "turn", "deck", "size", "table", "one", "two", "some", "own", "told", "part", "crossed", "due", "i", "j"] "law" (defScope s_law) f cdv A outer s H E).calm = true := rfl
  exact (ss_cons (s1_for ps_def hc (si_range1 T.z_range (sa_cons (se_callB (cr_max2 (by exact hc)) T.z_max bt_max (sa_cons se_int (sa_cons (se_callB (cr_min2 (by exact hc)) T.z_min bt_min (sa_cons (se_lenAt 0 T.z_len) (sa_cons se_int sa_nil))) sa_nil))) sa_nil)) (sg_name (i := 1) rfl nd) (ss_cons (s1_set (i := 2) (se_callA (c__law_deck T) 0 (hr.mono (by decide)) hgd tk_def (sw_cons (se_var 1) (sw_cons se_int sw_nil)) (fun ρ ws r z => congrArg Nat.succ ((wlen_cons (wlen_cons (fun _ _ _ z => wlen_nil z))) ρ ws r z))) rfl nd)
  (ss_cons (s1_set (i := 3) (se_callA (c__law_pick T) 2 (hr.mono (by decide)) hgd tk_def (sw_cons (se_lst (sa_cons se_int (sa_cons se_int (sa_cons se_int (sa_cons se_int (sa_cons se_int (sa_cons se_int (sa_cons se_int (sa_cons se_int sa_nil))))))))) sw_nil) (fun ρ ws r z => congrArg Nat.succ ((wlen_cons (fun _ _ _ z => wlen_nil z)) ρ ws r z))) rfl nd)
  (ss_cons (s1_set (i := 4) (se_callA (c__law_form T) 2 (hr.mono (by decide)) hgd tk_def (sw_cons (se_var 3) sw_nil) (fun ρ ws r z => congrArg Nat.succ ((wlen_cons (fun _ _ _ z => wlen_nil z)) ρ ws r z))) rfl nd)
  (ss_cons (s1_par (i := 5) (j := 6) hc (sw_cons (se_callA (c__law_line T) 2 (hr.mono (by decide)) hgd tk_def (sw_cons (se_var 3) sw_nil) (fun ρ ws r z => congrArg Nat.succ ((wlen_cons (fun _ _ _ z => wlen_nil z)) ρ ws r z))) (sw_cons (se_callA (c__law_line T) 2 (hr.mono (by decide)) hgd tk_def (sw_cons (se_var 3) sw_nil) (fun ρ ws r z => congrArg Nat.succ ((wlen_cons (fun _ _ _ z => wlen_nil z)) ρ ws r z))) sw_nil)) nd)
  (ss_cons (s1_set (i := 7) (se_callA (c__law_spots T) 2 (hr.mono (by decide)) hgd tk_def (sw_cons (se_var 3) sw_nil) (fun ρ ws r z => congrArg Nat.succ ((wlen_cons (fun _ _ _ z => wlen_nil z)) ρ ws r z))) rfl nd)
  (ss_cons (s1_set (i := 8) (se_callW (c__law_led T) (hr.mono (by decide)) hgd tk_def (sw_cons (se_var 4) (sw_cons (se_var 6) sw_nil)) (wlen_cons (wlen_cons (fun _ _ _ z => wlen_nil z)))) rfl nd)
  (ss_cons (s1_set (i := 9) (se_lst (sa_cons (se_callW (c_led T) (hr.mono (by decide)) hgd tk_def (sw_cons (se_var 4) (sw_cons (se_var 6) sw_nil)) (wlen_cons (wlen_cons (fun _ _ _ z => wlen_nil z)))) (sa_cons (se_callK (k_led__row_form T) (hr.mono (by decide)) hgd tk_def (sk_cons (se_var 6) (sk_cons (se_var 4) sk_nil)) (fun ds h => match ds, h with | [_, _], _ => rfl)) (sa_cons (se_callW (c_product T) (hr.mono (by decide)) hgd tk_def (sw_cons (se_var 4) (sw_cons (se_var 5) (sw_cons (se_var 6) sw_nil))) (wlen_cons (wlen_cons (wlen_cons (fun _ _ _ z => wlen_nil z))))) sa_nil)))) rfl nd)
  (ss_cons (s1_set (i := 9) (se_op or_add (se_var 9) (se_lst (sa_cons (se_callK (k_product__column_form_row T) (hr.mono (by decide)) hgd tk_def (sk_cons (se_var 5) (sk_cons (se_var 4) (sk_cons (se_var 6) sk_nil))) (fun ds h => match ds, h with | [_, _, _], _ => rfl)) (sa_cons (se_callW (c_worth T) (hr.mono (by decide)) hgd tk_def (sw_cons (se_var 4) (sw_cons (se_var 6) sw_nil)) (wlen_cons (wlen_cons (fun _ _ _ z => wlen_nil z)))) (sa_cons (se_callK (k_worth__row_form T) (hr.mono (by decide)) hgd tk_def (sk_cons (se_var 5) (sk_cons (se_var 4) sk_nil)) (fun ds h => match ds, h with | [_, _], _ => rfl)) sa_nil))))) rfl nd)
  (ss_cons (s1_set (i := 9) (se_op or_add (se_var 9) (se_lst (sa_cons (se_callW (c_part_of T) (hr.mono (by decide)) hgd tk_def (sw_cons (se_var 4) (sw_cons (se_var 7) sw_nil)) (wlen_cons (wlen_cons (fun _ _ _ z => wlen_nil z)))) (sa_cons (se_callK (k_part_of__lot_form T) (hr.mono (by decide)) hgd tk_def (sk_cons (se_var 7) (sk_cons (se_var 4) sk_nil)) (fun ds h => match ds, h with | [_, _], _ => rfl)) sa_nil)))) rfl nd)
  (ss_cons (s1_set (i := 10) (se_callTy (cr_tuple) T.z_tuple bt_tuple (sa_cons (se_comp (by exact hc) (by exact nd) (si_seq (se_var 7)) (blkOk_by (own := [("i", 13)]) (by rfl)) (fun s0 H0 C0 cl0 fp0 => (sg_name (i := 13) rfl nd)) (fun s0 H0 C0 cl0 fp0 => st_nil) (fun s0 H0 C0 cl0 fp0 => (se_callTy (cr_tuple) T.z_tuple bt_tuple (sa_cons (se_comp (by exact hc) (by exact nd) (si_seq (se_var 7)) (blkOk_by (own := [("j", 14)]) (by rfl)) (fun s0 H0 C0 cl0 fp0 => (sg_name (i := 14) rfl nd)) (fun s0 H0 C0 cl0 fp0 => st_nil) (fun s0 H0 C0 cl0 fp0 => (se_ix (se_at 4 (se_var 13)) (se_var 14)))) sa_nil)))) sa_nil)) rfl nd)
  (ss_cons (s1_set (i := 11) (se_callW (c__law_dot T) (hr.mono (by decide)) hgd tk_def (sw_cons (se_var 5) (sw_cons (se_var 8) sw_nil)) (wlen_cons (wlen_cons (fun _ _ _ z => wlen_nil z)))) rfl nd)
  (ss_cons (s1_set (i := 12) (se_lst (sa_cons (se_var 8) (sa_cons (se_var 8) (sa_cons (se_var 11) (sa_cons (se_var 11) (sa_cons (se_callW (c__law_dot T) (hr.mono (by decide)) hgd tk_def (sw_cons (se_var 6) (sw_cons (se_var 8) sw_nil)) (wlen_cons (wlen_cons (fun _ _ _ z => wlen_nil z)))) (sa_cons (se_callW (c__law_worth T) (hr.mono (by decide)) hgd tk_def (sw_cons (se_var 4) (sw_cons (se_var 5) sw_nil)) (wlen_cons (wlen_cons (fun _ _ _ z => wlen_nil z)))) (sa_cons (se_var 10) (sa_cons (se_var 10) sa_nil))))))))) rfl nd)
  (ss_one (s1_if (st_cmp (or_ne hu) (se_callB (cr_repr (by exact hr) (by exact hgd)) T.z_repr bt_repr (sa_cons (se_var 9) sa_nil)) (se_callB (cr_repr (by exact hr) (by exact hgd)) T.z_repr bt_repr (sa_cons (se_var 12) sa_nil))) (ss_one (s1_ret se_bl)) ss_nil)))))))))))))))
  (ss_one (s1_ret se_bl)))
theorem c_law (T : Tx K mg) : Cal P w K mg base 10 1 "law" d_law := by
  obtain ⟨f, fd, F, hm, hk, hb, _⟩ := T.f_law
  exact ⟨f, fd, ["script"], FF_law T F, hm, hk, hb⟩
theorem tf_is_whole {h : Heap} {mg : Mg} (X : K.In h) (G : h.Ns mainGlobals mg) {f : Addr} {od an : Option Addr} {sl : Array (Option Value)} {oc kV dc pm cd ct : Value} (a : PySem.W.nsIn K mainGlobals "is_whole" = some (some (.ref f))) (l : K.lookup f = some ⟨oc, od, .func (PySem.W.fnOf "is_whole" "is_whole" (defArgs s_is_whole) (defBody s_is_whole) (defScope s_is_whole) .none kV dc pm an cd ct), sl⟩) (c : PySem.W.codeIn K cd "is_whole" = true) (k : PySem.W.keepIn K (.ref f) = true) : TF_is_whole K mg :=
  ⟨f, _, fun_mk l c k, PySem.W.mg_of X G a, k, (fun_mk l c k).binds (fun _ _ _ _ _ _ us hl => match us, hl with | [_], _ => rfl), trivial⟩
theorem tf_are_wholes {h : Heap} {mg : Mg} (X : K.In h) (G : h.Ns mainGlobals mg) {f : Addr} {od an : Option Addr} {sl : Array (Option Value)} {oc kV dc pm cd ct : Value} (a : PySem.W.nsIn K mainGlobals "are_wholes" = some (some (.ref f))) (l : K.lookup f = some ⟨oc, od, .func (PySem.W.fnOf "are_wholes" "are_wholes" (defArgs s_are_wholes) (defBody s_are_wholes) (defScope s_are_wholes) .none kV dc pm an cd ct), sl⟩) (c : PySem.W.codeIn K cd "are_wholes" = true) (k : PySem.W.keepIn K (.ref f) = true) : TF_are_wholes K mg :=
  ⟨f, _, fun_mk l c k, PySem.W.mg_of X G a, k, (fun_mk l c k).binds (fun _ _ _ _ _ _ us hl => match us, hl with | [_, _], _ => rfl), trivial⟩
theorem tf_divisor_of {h : Heap} {mg : Mg} (X : K.In h) (G : h.Ns mainGlobals mg) {f : Addr} {od an : Option Addr} {sl : Array (Option Value)} {oc kV dc pm cd ct : Value} (a : PySem.W.nsIn K mainGlobals "divisor_of" = some (some (.ref f))) (l : K.lookup f = some ⟨oc, od, .func (PySem.W.fnOf "divisor_of" "divisor_of" (defArgs s_divisor_of) (defBody s_divisor_of) (defScope s_divisor_of) .none kV dc pm an cd ct), sl⟩) (c : PySem.W.codeIn K cd "divisor_of" = true) (k : PySem.W.keepIn K (.ref f) = true) : TF_divisor_of K mg :=
  ⟨f, _, fun_mk l c k, PySem.W.mg_of X G a, k, (fun_mk l c k).binds (fun _ _ _ _ _ _ us hl => match us, hl with | [_], _ => rfl), trivial⟩
theorem tf_is_reduced {h : Heap} {mg : Mg} (X : K.In h) (G : h.Ns mainGlobals mg) {f : Addr} {od an : Option Addr} {sl : Array (Option Value)} {oc kV dc pm cd ct : Value} (a : PySem.W.nsIn K mainGlobals "is_reduced" = some (some (.ref f))) (l : K.lookup f = some ⟨oc, od, .func (PySem.W.fnOf "is_reduced" "is_reduced" (defArgs s_is_reduced) (defBody s_is_reduced) (defScope s_is_reduced) .none kV dc pm an cd ct), sl⟩) (c : PySem.W.codeIn K cd "is_reduced" = true) (k : PySem.W.keepIn K (.ref f) = true) : TF_is_reduced K mg :=
  ⟨f, _, fun_mk l c k, PySem.W.mg_of X G a, k, (fun_mk l c k).binds (fun _ _ _ _ _ _ us hl => match us, hl with | [_], _ => rfl), trivial⟩
theorem tf_is_ratio {h : Heap} {mg : Mg} (X : K.In h) (G : h.Ns mainGlobals mg) {f : Addr} {od an : Option Addr} {sl : Array (Option Value)} {oc kV dc pm cd ct : Value} (a : PySem.W.nsIn K mainGlobals "is_ratio" = some (some (.ref f))) (l : K.lookup f = some ⟨oc, od, .func (PySem.W.fnOf "is_ratio" "is_ratio" (defArgs s_is_ratio) (defBody s_is_ratio) (defScope s_is_ratio) .none kV dc pm an cd ct), sl⟩) (c : PySem.W.codeIn K cd "is_ratio" = true) (k : PySem.W.keepIn K (.ref f) = true) : TF_is_ratio K mg :=
  ⟨f, _, fun_mk l c k, PySem.W.mg_of X G a, k, (fun_mk l c k).binds (fun _ _ _ _ _ _ us hl => match us, hl with | [_], _ => rfl), trivial⟩
theorem tf_are_ratios {h : Heap} {mg : Mg} (X : K.In h) (G : h.Ns mainGlobals mg) {f : Addr} {od an : Option Addr} {sl : Array (Option Value)} {oc kV dc pm cd ct : Value} (a : PySem.W.nsIn K mainGlobals "are_ratios" = some (some (.ref f))) (l : K.lookup f = some ⟨oc, od, .func (PySem.W.fnOf "are_ratios" "are_ratios" (defArgs s_are_ratios) (defBody s_are_ratios) (defScope s_are_ratios) .none kV dc pm an cd ct), sl⟩) (c : PySem.W.codeIn K cd "are_ratios" = true) (k : PySem.W.keepIn K (.ref f) = true) : TF_are_ratios K mg :=
  ⟨f, _, fun_mk l c k, PySem.W.mg_of X G a, k, (fun_mk l c k).binds (fun _ _ _ _ _ _ us hl => match us, hl with | [_, _], _ => rfl), trivial⟩
theorem tf_is_formed {h : Heap} {mg : Mg} (X : K.In h) (G : h.Ns mainGlobals mg) {f : Addr} {od an : Option Addr} {sl : Array (Option Value)} {oc kV dc pm cd ct : Value} (a : PySem.W.nsIn K mainGlobals "is_formed" = some (some (.ref f))) (l : K.lookup f = some ⟨oc, od, .func (PySem.W.fnOf "is_formed" "is_formed" (defArgs s_is_formed) (defBody s_is_formed) (defScope s_is_formed) .none kV dc pm an cd ct), sl⟩) (c : PySem.W.codeIn K cd "is_formed" = true) (k : PySem.W.keepIn K (.ref f) = true) : TF_is_formed K mg :=
  ⟨f, _, fun_mk l c k, PySem.W.mg_of X G a, k, (fun_mk l c k).binds (fun _ _ _ _ _ _ us hl => match us, hl with | [_], _ => rfl), trivial⟩
theorem tf_check_form {h : Heap} {mg : Mg} (X : K.In h) (G : h.Ns mainGlobals mg) {f : Addr} {od an : Option Addr} {sl : Array (Option Value)} {oc kV dc pm cd ct : Value} (a : PySem.W.nsIn K mainGlobals "check_form" = some (some (.ref f))) (l : K.lookup f = some ⟨oc, od, .func (PySem.W.fnOf "check_form" "check_form" (defArgs s_check_form) (defBody s_check_form) (defScope s_check_form) .none kV dc pm an cd ct), sl⟩) (c : PySem.W.codeIn K cd "check_form" = true) (k : PySem.W.keepIn K (.ref f) = true) : TF_check_form K mg :=
  ⟨f, _, fun_mk l c k, PySem.W.mg_of X G a, k, (fun_mk l c k).binds (fun _ _ _ _ _ _ us hl => match us, hl with | [_], _ => rfl), trivial⟩
theorem tf_check_row_of {h : Heap} {mg : Mg} (X : K.In h) (G : h.Ns mainGlobals mg) {f : Addr} {od an : Option Addr} {sl : Array (Option Value)} {oc kV dc pm cd ct : Value} (a : PySem.W.nsIn K mainGlobals "check_row_of" = some (some (.ref f))) (l : K.lookup f = some ⟨oc, od, .func (PySem.W.fnOf "check_row_of" "check_row_of" (defArgs s_check_row_of) (defBody s_check_row_of) (defScope s_check_row_of) .none kV dc pm an cd ct), sl⟩) (c : PySem.W.codeIn K cd "check_row_of" = true) (k : PySem.W.keepIn K (.ref f) = true) : TF_check_row_of K mg :=
  ⟨f, _, fun_mk l c k, PySem.W.mg_of X G a, k, (fun_mk l c k).binds (fun _ _ _ _ _ _ us hl => match us, hl with | [_, _], _ => rfl), trivial⟩
theorem tf_ratio_with {h : Heap} {mg : Mg} (X : K.In h) (G : h.Ns mainGlobals mg) {f : Addr} {od an : Option Addr} {sl : Array (Option Value)} {oc kV dc pm cd ct : Value} (a : PySem.W.nsIn K mainGlobals "ratio_with" = some (some (.ref f))) (l : K.lookup f = some ⟨oc, od, .func (PySem.W.fnOf "ratio_with" "ratio_with" (defArgs s_ratio_with) (defBody s_ratio_with) (defScope s_ratio_with) .none kV dc pm an cd ct), sl⟩) (c : PySem.W.codeIn K cd "ratio_with" = true) (k : PySem.W.keepIn K (.ref f) = true) : TF_ratio_with K mg :=
  ⟨f, _, fun_mk l c k, PySem.W.mg_of X G a, k, (fun_mk l c k).binds (fun _ _ _ _ _ _ us hl => match us, hl with | [_, _], _ => rfl), trivial⟩
theorem tf_ratio_product {h : Heap} {mg : Mg} (X : K.In h) (G : h.Ns mainGlobals mg) {f : Addr} {od an : Option Addr} {sl : Array (Option Value)} {oc kV dc pm cd ct : Value} (a : PySem.W.nsIn K mainGlobals "ratio_product" = some (some (.ref f))) (l : K.lookup f = some ⟨oc, od, .func (PySem.W.fnOf "ratio_product" "ratio_product" (defArgs s_ratio_product) (defBody s_ratio_product) (defScope s_ratio_product) .none kV dc pm an cd ct), sl⟩) (c : PySem.W.codeIn K cd "ratio_product" = true) (k : PySem.W.keepIn K (.ref f) = true) : TF_ratio_product K mg :=
  ⟨f, _, fun_mk l c k, PySem.W.mg_of X G a, k, (fun_mk l c k).binds (fun _ _ _ _ _ _ us hl => match us, hl with | [_, _], _ => rfl), trivial⟩
theorem tf_ratio_sum {h : Heap} {mg : Mg} (X : K.In h) (G : h.Ns mainGlobals mg) {f : Addr} {od an : Option Addr} {sl : Array (Option Value)} {oc kV dc pm cd ct : Value} (a : PySem.W.nsIn K mainGlobals "ratio_sum" = some (some (.ref f))) (l : K.lookup f = some ⟨oc, od, .func (PySem.W.fnOf "ratio_sum" "ratio_sum" (defArgs s_ratio_sum) (defBody s_ratio_sum) (defScope s_ratio_sum) .none kV dc pm an cd ct), sl⟩) (c : PySem.W.codeIn K cd "ratio_sum" = true) (k : PySem.W.keepIn K (.ref f) = true) : TF_ratio_sum K mg :=
  ⟨f, _, fun_mk l c k, PySem.W.mg_of X G a, k, (fun_mk l c k).binds (fun _ _ _ _ _ _ us hl => match us, hl with | [_, _], _ => rfl), trivial⟩
theorem tf_total_of {h : Heap} {mg : Mg} (X : K.In h) (G : h.Ns mainGlobals mg) {f : Addr} {od an : Option Addr} {sl : Array (Option Value)} {oc kV dc pm cd ct : Value} (a : PySem.W.nsIn K mainGlobals "total_of" = some (some (.ref f))) (l : K.lookup f = some ⟨oc, od, .func (PySem.W.fnOf "total_of" "total_of" (defArgs s_total_of) (defBody s_total_of) (defScope s_total_of) .none kV dc pm an cd ct), sl⟩) (c : PySem.W.codeIn K cd "total_of" = true) (k : PySem.W.keepIn K (.ref f) = true) : TF_total_of K mg :=
  ⟨f, _, fun_mk l c k, PySem.W.mg_of X G a, k, (fun_mk l c k).binds (fun _ _ _ _ _ _ us hl => match us, hl with | [_], _ => rfl), trivial⟩
theorem tf_dot {h : Heap} {mg : Mg} (X : K.In h) (G : h.Ns mainGlobals mg) {f : Addr} {od an : Option Addr} {sl : Array (Option Value)} {oc kV dc pm cd ct : Value} (a : PySem.W.nsIn K mainGlobals "dot" = some (some (.ref f))) (l : K.lookup f = some ⟨oc, od, .func (PySem.W.fnOf "dot" "dot" (defArgs s_dot) (defBody s_dot) (defScope s_dot) .none kV dc pm an cd ct), sl⟩) (c : PySem.W.codeIn K cd "dot" = true) (k : PySem.W.keepIn K (.ref f) = true) : TF_dot K mg :=
  ⟨f, _, fun_mk l c k, PySem.W.mg_of X G a, k, (fun_mk l c k).binds (fun _ _ _ _ _ _ us hl => match us, hl with | [_, _], _ => rfl), trivial⟩
theorem tf_led_by {h : Heap} {mg : Mg} (X : K.In h) (G : h.Ns mainGlobals mg) {f : Addr} {od an : Option Addr} {sl : Array (Option Value)} {oc kV dc pm cd ct : Value} (a : PySem.W.nsIn K mainGlobals "led_by" = some (some (.ref f))) (l : K.lookup f = some ⟨oc, od, .func (PySem.W.fnOf "led_by" "led_by" (defArgs s_led_by) (defBody s_led_by) (defScope s_led_by) .none kV dc pm an cd ct), sl⟩) (c : PySem.W.codeIn K cd "led_by" = true) (k : PySem.W.keepIn K (.ref f) = true) : TF_led_by K mg :=
  ⟨f, _, fun_mk l c k, PySem.W.mg_of X G a, k, (fun_mk l c k).binds (fun _ _ _ _ _ _ us hl => match us, hl with | [_, _], _ => rfl), trivial⟩
theorem tf_led {h : Heap} {mg : Mg} (X : K.In h) (G : h.Ns mainGlobals mg) {f : Addr} {od an : Option Addr} {sl : Array (Option Value)} {oc kV dc pm cd ct : Value} (a : PySem.W.nsIn K mainGlobals "led" = some (some (.ref f))) (l : K.lookup f = some ⟨oc, od, .func (PySem.W.fnOf "led" "led" (defArgs s_led) (defBody s_led) (defScope s_led) .none kV dc pm an cd ct), sl⟩) (c : PySem.W.codeIn K cd "led" = true) (k : PySem.W.keepIn K (.ref f) = true) : TF_led K mg :=
  ⟨f, _, fun_mk l c k, PySem.W.mg_of X G a, k, (fun_mk l c k).binds (fun _ _ _ _ _ _ us hl => match us, hl with | [_, _], _ => rfl), ⟨fun s ws _ hl => match ws, hl with | [_, _], _ => .of_eq rfl⟩⟩
theorem tf_product_by {h : Heap} {mg : Mg} (X : K.In h) (G : h.Ns mainGlobals mg) {f : Addr} {od an : Option Addr} {sl : Array (Option Value)} {oc kV dc pm cd ct : Value} (a : PySem.W.nsIn K mainGlobals "product_by" = some (some (.ref f))) (l : K.lookup f = some ⟨oc, od, .func (PySem.W.fnOf "product_by" "product_by" (defArgs s_product_by) (defBody s_product_by) (defScope s_product_by) .none kV dc pm an cd ct), sl⟩) (c : PySem.W.codeIn K cd "product_by" = true) (k : PySem.W.keepIn K (.ref f) = true) : TF_product_by K mg :=
  ⟨f, _, fun_mk l c k, PySem.W.mg_of X G a, k, (fun_mk l c k).binds (fun _ _ _ _ _ _ us hl => match us, hl with | [_, _, _], _ => rfl), trivial⟩
theorem tf_product {h : Heap} {mg : Mg} (X : K.In h) (G : h.Ns mainGlobals mg) {f : Addr} {od an : Option Addr} {sl : Array (Option Value)} {oc kV dc pm cd ct : Value} (a : PySem.W.nsIn K mainGlobals "product" = some (some (.ref f))) (l : K.lookup f = some ⟨oc, od, .func (PySem.W.fnOf "product" "product" (defArgs s_product) (defBody s_product) (defScope s_product) .none kV dc pm an cd ct), sl⟩) (c : PySem.W.codeIn K cd "product" = true) (k : PySem.W.keepIn K (.ref f) = true) : TF_product K mg :=
  ⟨f, _, fun_mk l c k, PySem.W.mg_of X G a, k, (fun_mk l c k).binds (fun _ _ _ _ _ _ us hl => match us, hl with | [_, _, _], _ => rfl), ⟨fun s ws _ hl => match ws, hl with | [_, _, _], _ => .of_eq rfl⟩⟩
theorem tf_worth_by {h : Heap} {mg : Mg} (X : K.In h) (G : h.Ns mainGlobals mg) {f : Addr} {od an : Option Addr} {sl : Array (Option Value)} {oc kV dc pm cd ct : Value} (a : PySem.W.nsIn K mainGlobals "worth_by" = some (some (.ref f))) (l : K.lookup f = some ⟨oc, od, .func (PySem.W.fnOf "worth_by" "worth_by" (defArgs s_worth_by) (defBody s_worth_by) (defScope s_worth_by) .none kV dc pm an cd ct), sl⟩) (c : PySem.W.codeIn K cd "worth_by" = true) (k : PySem.W.keepIn K (.ref f) = true) : TF_worth_by K mg :=
  ⟨f, _, fun_mk l c k, PySem.W.mg_of X G a, k, (fun_mk l c k).binds (fun _ _ _ _ _ _ us hl => match us, hl with | [_, _], _ => rfl), trivial⟩
theorem tf_worth {h : Heap} {mg : Mg} (X : K.In h) (G : h.Ns mainGlobals mg) {f : Addr} {od an : Option Addr} {sl : Array (Option Value)} {oc kV dc pm cd ct : Value} (a : PySem.W.nsIn K mainGlobals "worth" = some (some (.ref f))) (l : K.lookup f = some ⟨oc, od, .func (PySem.W.fnOf "worth" "worth" (defArgs s_worth) (defBody s_worth) (defScope s_worth) .none kV dc pm an cd ct), sl⟩) (c : PySem.W.codeIn K cd "worth" = true) (k : PySem.W.keepIn K (.ref f) = true) : TF_worth K mg :=
  ⟨f, _, fun_mk l c k, PySem.W.mg_of X G a, k, (fun_mk l c k).binds (fun _ _ _ _ _ _ us hl => match us, hl with | [_, _], _ => rfl), ⟨fun s ws _ hl => match ws, hl with | [_, _], _ => .of_eq rfl⟩⟩
theorem tf_is_between {h : Heap} {mg : Mg} (X : K.In h) (G : h.Ns mainGlobals mg) {f : Addr} {od an : Option Addr} {sl : Array (Option Value)} {oc kV dc pm cd ct : Value} (a : PySem.W.nsIn K mainGlobals "is_between" = some (some (.ref f))) (l : K.lookup f = some ⟨oc, od, .func (PySem.W.fnOf "is_between" "is_between" (defArgs s_is_between) (defBody s_is_between) (defScope s_is_between) .none kV dc pm an cd ct), sl⟩) (c : PySem.W.codeIn K cd "is_between" = true) (k : PySem.W.keepIn K (.ref f) = true) : TF_is_between K mg :=
  ⟨f, _, fun_mk l c k, PySem.W.mg_of X G a, k, (fun_mk l c k).binds (fun _ _ _ _ _ _ us hl => match us, hl with | [_, _, _], _ => rfl), trivial⟩
theorem tf_wrong_in_lot {h : Heap} {mg : Mg} (X : K.In h) (G : h.Ns mainGlobals mg) {f : Addr} {od an : Option Addr} {sl : Array (Option Value)} {oc kV dc pm cd ct : Value} (a : PySem.W.nsIn K mainGlobals "wrong_in_lot" = some (some (.ref f))) (l : K.lookup f = some ⟨oc, od, .func (PySem.W.fnOf "wrong_in_lot" "wrong_in_lot" (defArgs s_wrong_in_lot) (defBody s_wrong_in_lot) (defScope s_wrong_in_lot) .none kV dc pm an cd ct), sl⟩) (c : PySem.W.codeIn K cd "wrong_in_lot" = true) (k : PySem.W.keepIn K (.ref f) = true) : TF_wrong_in_lot K mg :=
  ⟨f, _, fun_mk l c k, PySem.W.mg_of X G a, k, (fun_mk l c k).binds (fun _ _ _ _ _ _ us hl => match us, hl with | [_, _], _ => rfl), trivial⟩
theorem tf_check_lot {h : Heap} {mg : Mg} (X : K.In h) (G : h.Ns mainGlobals mg) {f : Addr} {od an : Option Addr} {sl : Array (Option Value)} {oc kV dc pm cd ct : Value} (a : PySem.W.nsIn K mainGlobals "check_lot" = some (some (.ref f))) (l : K.lookup f = some ⟨oc, od, .func (PySem.W.fnOf "check_lot" "check_lot" (defArgs s_check_lot) (defBody s_check_lot) (defScope s_check_lot) .none kV dc pm an cd ct), sl⟩) (c : PySem.W.codeIn K cd "check_lot" = true) (k : PySem.W.keepIn K (.ref f) = true) : TF_check_lot K mg :=
  ⟨f, _, fun_mk l c k, PySem.W.mg_of X G a, k, (fun_mk l c k).binds (fun _ _ _ _ _ _ us hl => match us, hl with | [_, _], _ => rfl), trivial⟩
theorem tf_part_on {h : Heap} {mg : Mg} (X : K.In h) (G : h.Ns mainGlobals mg) {f : Addr} {od an : Option Addr} {sl : Array (Option Value)} {oc kV dc pm cd ct : Value} (a : PySem.W.nsIn K mainGlobals "part_on" = some (some (.ref f))) (l : K.lookup f = some ⟨oc, od, .func (PySem.W.fnOf "part_on" "part_on" (defArgs s_part_on) (defBody s_part_on) (defScope s_part_on) .none kV dc pm an cd ct), sl⟩) (c : PySem.W.codeIn K cd "part_on" = true) (k : PySem.W.keepIn K (.ref f) = true) : TF_part_on K mg :=
  ⟨f, _, fun_mk l c k, PySem.W.mg_of X G a, k, (fun_mk l c k).binds (fun _ _ _ _ _ _ us hl => match us, hl with | [_, _], _ => rfl), trivial⟩
theorem tf_part_of {h : Heap} {mg : Mg} (X : K.In h) (G : h.Ns mainGlobals mg) {f : Addr} {od an : Option Addr} {sl : Array (Option Value)} {oc kV dc pm cd ct : Value} (a : PySem.W.nsIn K mainGlobals "part_of" = some (some (.ref f))) (l : K.lookup f = some ⟨oc, od, .func (PySem.W.fnOf "part_of" "part_of" (defArgs s_part_of) (defBody s_part_of) (defScope s_part_of) .none kV dc pm an cd ct), sl⟩) (c : PySem.W.codeIn K cd "part_of" = true) (k : PySem.W.keepIn K (.ref f) = true) : TF_part_of K mg :=
  ⟨f, _, fun_mk l c k, PySem.W.mg_of X G a, k, (fun_mk l c k).binds (fun _ _ _ _ _ _ us hl => match us, hl with | [_, _], _ => rfl), ⟨fun s ws _ hl => match ws, hl with | [_, _], _ => .of_eq rfl⟩⟩
theorem tf__law_deck {h : Heap} {mg : Mg} (X : K.In h) (G : h.Ns mainGlobals mg) {f : Addr} {od an : Option Addr} {sl : Array (Option Value)} {oc kV dc pm cd ct : Value} (a : PySem.W.nsIn K mainGlobals "_law_deck" = some (some (.ref f))) (l : K.lookup f = some ⟨oc, od, .func (PySem.W.fnOf "_law_deck" "_law_deck" (defArgs s__law_deck) (defBody s__law_deck) (defScope s__law_deck) .none kV dc pm an cd ct), sl⟩) (c : PySem.W.codeIn K cd "_law_deck" = true) (k : PySem.W.keepIn K (.ref f) = true) : TF__law_deck K mg :=
  ⟨f, _, fun_mk l c k, PySem.W.mg_of X G a, k, (fun_mk l c k).binds (fun _ _ _ _ _ _ us hl => match us, hl with | [_, _, _], _ => rfl), trivial⟩
theorem tf__law_roll {h : Heap} {mg : Mg} (X : K.In h) (G : h.Ns mainGlobals mg) {f : Addr} {od an : Option Addr} {sl : Array (Option Value)} {oc kV dc pm cd ct : Value} (a : PySem.W.nsIn K mainGlobals "_law_roll" = some (some (.ref f))) (l : K.lookup f = some ⟨oc, od, .func (PySem.W.fnOf "_law_roll" "_law_roll" (defArgs s__law_roll) (defBody s__law_roll) (defScope s__law_roll) .none kV dc pm an cd ct), sl⟩) (c : PySem.W.codeIn K cd "_law_roll" = true) (k : PySem.W.keepIn K (.ref f) = true) : TF__law_roll K mg :=
  ⟨f, _, fun_mk l c k, PySem.W.mg_of X G a, k, (fun_mk l c k).binds (fun _ _ _ _ _ _ us hl => match us, hl with | [_, _], _ => rfl), trivial⟩
theorem tf__law_pick {h : Heap} {mg : Mg} (X : K.In h) (G : h.Ns mainGlobals mg) {f : Addr} {od an : Option Addr} {sl : Array (Option Value)} {oc kV dc pm cd ct : Value} (a : PySem.W.nsIn K mainGlobals "_law_pick" = some (some (.ref f))) (l : K.lookup f = some ⟨oc, od, .func (PySem.W.fnOf "_law_pick" "_law_pick" (defArgs s__law_pick) (defBody s__law_pick) (defScope s__law_pick) .none kV dc pm an cd ct), sl⟩) (c : PySem.W.codeIn K cd "_law_pick" = true) (k : PySem.W.keepIn K (.ref f) = true) : TF__law_pick K mg :=
  ⟨f, _, fun_mk l c k, PySem.W.mg_of X G a, k, (fun_mk l c k).binds (fun _ _ _ _ _ _ us hl => match us, hl with | [_, _], _ => rfl), trivial⟩
theorem tf__law_gcd {h : Heap} {mg : Mg} (X : K.In h) (G : h.Ns mainGlobals mg) {f : Addr} {od an : Option Addr} {sl : Array (Option Value)} {oc kV dc pm cd ct : Value} (a : PySem.W.nsIn K mainGlobals "_law_gcd" = some (some (.ref f))) (l : K.lookup f = some ⟨oc, od, .func (PySem.W.fnOf "_law_gcd" "_law_gcd" (defArgs s__law_gcd) (defBody s__law_gcd) (defScope s__law_gcd) .none kV dc pm an cd ct), sl⟩) (c : PySem.W.codeIn K cd "_law_gcd" = true) (k : PySem.W.keepIn K (.ref f) = true) : TF__law_gcd K mg :=
  ⟨f, _, fun_mk l c k, PySem.W.mg_of X G a, k, (fun_mk l c k).binds (fun _ _ _ _ _ _ us hl => match us, hl with | [_, _], _ => rfl), trivial⟩
theorem tf__law_frac {h : Heap} {mg : Mg} (X : K.In h) (G : h.Ns mainGlobals mg) {f : Addr} {od an : Option Addr} {sl : Array (Option Value)} {oc kV dc pm cd ct : Value} (a : PySem.W.nsIn K mainGlobals "_law_frac" = some (some (.ref f))) (l : K.lookup f = some ⟨oc, od, .func (PySem.W.fnOf "_law_frac" "_law_frac" (defArgs s__law_frac) (defBody s__law_frac) (defScope s__law_frac) .none kV dc pm an cd ct), sl⟩) (c : PySem.W.codeIn K cd "_law_frac" = true) (k : PySem.W.keepIn K (.ref f) = true) : TF__law_frac K mg :=
  ⟨f, _, fun_mk l c k, PySem.W.mg_of X G a, k, (fun_mk l c k).binds (fun _ _ _ _ _ _ us hl => match us, hl with | [_, _], _ => rfl), trivial⟩
theorem tf__law_plus {h : Heap} {mg : Mg} (X : K.In h) (G : h.Ns mainGlobals mg) {f : Addr} {od an : Option Addr} {sl : Array (Option Value)} {oc kV dc pm cd ct : Value} (a : PySem.W.nsIn K mainGlobals "_law_plus" = some (some (.ref f))) (l : K.lookup f = some ⟨oc, od, .func (PySem.W.fnOf "_law_plus" "_law_plus" (defArgs s__law_plus) (defBody s__law_plus) (defScope s__law_plus) .none kV dc pm an cd ct), sl⟩) (c : PySem.W.codeIn K cd "_law_plus" = true) (k : PySem.W.keepIn K (.ref f) = true) : TF__law_plus K mg :=
  ⟨f, _, fun_mk l c k, PySem.W.mg_of X G a, k, (fun_mk l c k).binds (fun _ _ _ _ _ _ us hl => match us, hl with | [_, _], _ => rfl), trivial⟩
theorem tf__law_times {h : Heap} {mg : Mg} (X : K.In h) (G : h.Ns mainGlobals mg) {f : Addr} {od an : Option Addr} {sl : Array (Option Value)} {oc kV dc pm cd ct : Value} (a : PySem.W.nsIn K mainGlobals "_law_times" = some (some (.ref f))) (l : K.lookup f = some ⟨oc, od, .func (PySem.W.fnOf "_law_times" "_law_times" (defArgs s__law_times) (defBody s__law_times) (defScope s__law_times) .none kV dc pm an cd ct), sl⟩) (c : PySem.W.codeIn K cd "_law_times" = true) (k : PySem.W.keepIn K (.ref f) = true) : TF__law_times K mg :=
  ⟨f, _, fun_mk l c k, PySem.W.mg_of X G a, k, (fun_mk l c k).binds (fun _ _ _ _ _ _ us hl => match us, hl with | [_, _], _ => rfl), trivial⟩
theorem tf__law_dot {h : Heap} {mg : Mg} (X : K.In h) (G : h.Ns mainGlobals mg) {f : Addr} {od an : Option Addr} {sl : Array (Option Value)} {oc kV dc pm cd ct : Value} (a : PySem.W.nsIn K mainGlobals "_law_dot" = some (some (.ref f))) (l : K.lookup f = some ⟨oc, od, .func (PySem.W.fnOf "_law_dot" "_law_dot" (defArgs s__law_dot) (defBody s__law_dot) (defScope s__law_dot) .none kV dc pm an cd ct), sl⟩) (c : PySem.W.codeIn K cd "_law_dot" = true) (k : PySem.W.keepIn K (.ref f) = true) : TF__law_dot K mg :=
  ⟨f, _, fun_mk l c k, PySem.W.mg_of X G a, k, (fun_mk l c k).binds (fun _ _ _ _ _ _ us hl => match us, hl with | [_, _], _ => rfl), trivial⟩
theorem tf__law_led {h : Heap} {mg : Mg} (X : K.In h) (G : h.Ns mainGlobals mg) {f : Addr} {od an : Option Addr} {sl : Array (Option Value)} {oc kV dc pm cd ct : Value} (a : PySem.W.nsIn K mainGlobals "_law_led" = some (some (.ref f))) (l : K.lookup f = some ⟨oc, od, .func (PySem.W.fnOf "_law_led" "_law_led" (defArgs s__law_led) (defBody s__law_led) (defScope s__law_led) .none kV dc pm an cd ct), sl⟩) (c : PySem.W.codeIn K cd "_law_led" = true) (k : PySem.W.keepIn K (.ref f) = true) : TF__law_led K mg :=
  ⟨f, _, fun_mk l c k, PySem.W.mg_of X G a, k, (fun_mk l c k).binds (fun _ _ _ _ _ _ us hl => match us, hl with | [_, _], _ => rfl), trivial⟩
theorem tf__law_worth {h : Heap} {mg : Mg} (X : K.In h) (G : h.Ns mainGlobals mg) {f : Addr} {od an : Option Addr} {sl : Array (Option Value)} {oc kV dc pm cd ct : Value} (a : PySem.W.nsIn K mainGlobals "_law_worth" = some (some (.ref f))) (l : K.lookup f = some ⟨oc, od, .func (PySem.W.fnOf "_law_worth" "_law_worth" (defArgs s__law_worth) (defBody s__law_worth) (defScope s__law_worth) .none kV dc pm an cd ct), sl⟩) (c : PySem.W.codeIn K cd "_law_worth" = true) (k : PySem.W.keepIn K (.ref f) = true) : TF__law_worth K mg :=
  ⟨f, _, fun_mk l c k, PySem.W.mg_of X G a, k, (fun_mk l c k).binds (fun _ _ _ _ _ _ us hl => match us, hl with | [_, _], _ => rfl), trivial⟩
theorem tf__law_wholes {h : Heap} {mg : Mg} (X : K.In h) (G : h.Ns mainGlobals mg) {f : Addr} {od an : Option Addr} {sl : Array (Option Value)} {oc kV dc pm cd ct : Value} (a : PySem.W.nsIn K mainGlobals "_law_wholes" = some (some (.ref f))) (l : K.lookup f = some ⟨oc, od, .func (PySem.W.fnOf "_law_wholes" "_law_wholes" (defArgs s__law_wholes) (defBody s__law_wholes) (defScope s__law_wholes) .none kV dc pm an cd ct), sl⟩) (c : PySem.W.codeIn K cd "_law_wholes" = true) (k : PySem.W.keepIn K (.ref f) = true) : TF__law_wholes K mg :=
  ⟨f, _, fun_mk l c k, PySem.W.mg_of X G a, k, (fun_mk l c k).binds (fun _ _ _ _ _ _ us hl => match us, hl with | [_, _, _, _], _ => rfl), trivial⟩
theorem tf__law_spots {h : Heap} {mg : Mg} (X : K.In h) (G : h.Ns mainGlobals mg) {f : Addr} {od an : Option Addr} {sl : Array (Option Value)} {oc kV dc pm cd ct : Value} (a : PySem.W.nsIn K mainGlobals "_law_spots" = some (some (.ref f))) (l : K.lookup f = some ⟨oc, od, .func (PySem.W.fnOf "_law_spots" "_law_spots" (defArgs s__law_spots) (defBody s__law_spots) (defScope s__law_spots) .none kV dc pm an cd ct), sl⟩) (c : PySem.W.codeIn K cd "_law_spots" = true) (k : PySem.W.keepIn K (.ref f) = true) : TF__law_spots K mg :=
  ⟨f, _, fun_mk l c k, PySem.W.mg_of X G a, k, (fun_mk l c k).binds (fun _ _ _ _ _ _ us hl => match us, hl with | [_, _], _ => rfl), trivial⟩
theorem tf__law_table {h : Heap} {mg : Mg} (X : K.In h) (G : h.Ns mainGlobals mg) {f : Addr} {od an : Option Addr} {sl : Array (Option Value)} {oc kV dc pm cd ct : Value} (a : PySem.W.nsIn K mainGlobals "_law_table" = some (some (.ref f))) (l : K.lookup f = some ⟨oc, od, .func (PySem.W.fnOf "_law_table" "_law_table" (defArgs s__law_table) (defBody s__law_table) (defScope s__law_table) .none kV dc pm an cd ct), sl⟩) (c : PySem.W.codeIn K cd "_law_table" = true) (k : PySem.W.keepIn K (.ref f) = true) : TF__law_table K mg :=
  ⟨f, _, fun_mk l c k, PySem.W.mg_of X G a, k, (fun_mk l c k).binds (fun _ _ _ _ _ _ us hl => match us, hl with | [_, _], _ => rfl), trivial⟩
theorem tf__law_form {h : Heap} {mg : Mg} (X : K.In h) (G : h.Ns mainGlobals mg) {f : Addr} {od an : Option Addr} {sl : Array (Option Value)} {oc kV dc pm cd ct : Value} (a : PySem.W.nsIn K mainGlobals "_law_form" = some (some (.ref f))) (l : K.lookup f = some ⟨oc, od, .func (PySem.W.fnOf "_law_form" "_law_form" (defArgs s__law_form) (defBody s__law_form) (defScope s__law_form) .none kV dc pm an cd ct), sl⟩) (c : PySem.W.codeIn K cd "_law_form" = true) (k : PySem.W.keepIn K (.ref f) = true) : TF__law_form K mg :=
  ⟨f, _, fun_mk l c k, PySem.W.mg_of X G a, k, (fun_mk l c k).binds (fun _ _ _ _ _ _ us hl => match us, hl with | [_, _], _ => rfl), trivial⟩
theorem tf__law_line {h : Heap} {mg : Mg} (X : K.In h) (G : h.Ns mainGlobals mg) {f : Addr} {od an : Option Addr} {sl : Array (Option Value)} {oc kV dc pm cd ct : Value} (a : PySem.W.nsIn K mainGlobals "_law_line" = some (some (.ref f))) (l : K.lookup f = some ⟨oc, od, .func (PySem.W.fnOf "_law_line" "_law_line" (defArgs s__law_line) (defBody s__law_line) (defScope s__law_line) .none kV dc pm an cd ct), sl⟩) (c : PySem.W.codeIn K cd "_law_line" = true) (k : PySem.W.keepIn K (.ref f) = true) : TF__law_line K mg :=
  ⟨f, _, fun_mk l c k, PySem.W.mg_of X G a, k, (fun_mk l c k).binds (fun _ _ _ _ _ _ us hl => match us, hl with | [_, _], _ => rfl), trivial⟩
theorem tf_law {h : Heap} {mg : Mg} (X : K.In h) (G : h.Ns mainGlobals mg) {f : Addr} {od an : Option Addr} {sl : Array (Option Value)} {oc kV dc pm cd ct : Value} (a : PySem.W.nsIn K mainGlobals "law" = some (some (.ref f))) (l : K.lookup f = some ⟨oc, od, .func (PySem.W.fnOf "law" "law" (defArgs s_law) (defBody s_law) (defScope s_law) .none kV dc pm an cd ct), sl⟩) (c : PySem.W.codeIn K cd "law" = true) (k : PySem.W.keepIn K (.ref f) = true) : TF_law K mg :=
  ⟨f, _, fun_mk l c k, PySem.W.mg_of X G a, k, (fun_mk l c k).binds (fun _ _ _ _ _ _ us hl => match us, hl with | [_], _ => rfl), trivial⟩
theorem all_mk {h : Heap} {mg : Mg} {fa : Addr} (X : K.In h) (G : h.Ns mainGlobals mg) (hfa : mg "law" = some (.ref fa)) {f : Addr} {od an : Option Addr} {sl : Array (Option Value)} {oc kV dc pm cd ct : Value} (a : PySem.W.nsIn K mainGlobals "law" = some (some (.ref f))) (l : K.lookup f = some ⟨oc, od, .func (PySem.W.fnOf "law" "law" (defArgs s_law) (defBody s_law) (defScope s_law) .none kV dc pm an cd ct), sl⟩) (c : PySem.W.codeIn K cd "law" = true) (k : PySem.W.keepIn K (.ref f) = true) (T : Tx K mg) :
    ∃ fd : FuncData, (∀ (s : Shared) (v : Value), BindsTo s fd ⟨[v], []⟩ [("script", v)]) ∧ ∀ base : Heap, K.In base → base.Ns mainGlobals mg → FnG P w K mg base 10 fa fd ["script"] (spD K mg 1 d_law) := by
  have e := hfa.symm.trans (PySem.W.mg_of X G a)
  cases e
  exact ⟨_, fun s v => .of_eq rfl, fun base _ _ => FF_law T (fun_mk l c k)⟩
end
end LW

set_option Elab.async false
set_option linter.all false
set_option maxRecDepth 100000
set_option maxHeartbeats 1000001
namespace LW
open PySem PySem.Spec L2 FW
variable {P : Wv → Rho → Prop} {a b : Int} {p q : Rat} {d : D} {m n : Nat}
theorem m_divisor2 : d_divisor_of [.d (.tuple [.int a, .int b])] = .ok (.d (.int (Nat.gcd a.natAbs b.natAbs : Nat))) [none] := by
  apply eq_of
  unfold d_divisor_of
  rw [w_def]
  simp [forL_cons, forL_nil]
theorem m_is_whole : d_is_whole [.d (.int a)] = .ok (.d (.bool true)) [none] := by
  apply eq_of
  unfold d_is_whole
  rw [w_def]
  simp
theorem m_reduced : d_is_reduced [.d (.tuple [.int a, .int b])] = .ok (.d (.bool (decide (Nat.gcd a.natAbs b.natAbs = 1)))) [none] := by
  apply eq_of
  unfold d_is_reduced
  rw [w_def]
  simp [m_divisor2]
  omega
theorem pAll_bs {bs : List Bool} : pAll [.list (bs.map .bool)] = some (.d (.bool (bs.all fun b => b))) := pAll_map (f := fun b => b)
theorem m_wholes2 : d_are_wholes [.d (.tuple [.int a, .int b]), .d (.int 2)] = .ok (.d (.bool true)) [none, none] := by
  apply eq_of
  unfold d_are_wholes
  rw [w_def]
  have e : pAll [.list [.bool true, .bool true]] = some (.d (.bool true)) := rfl
  simp [m_is_whole, compL_cons, compL, e]
theorem m_ratio_with (h : b ≠ 0) (hb : big (Nat.gcd a.natAbs b.natAbs : Nat) < 9000) : d_ratio_with [.d (.int a), .d (.int b)] = .ok (.d (rq (Rat.divInt a b))) [none, none] := by
  apply eq_of
  unfold d_ratio_with
  rw [w_def]
  obtain ⟨e1, e2⟩ := frac1 (a := a) h
  have g0 := gcd_ne (a := a) h
  have bn : big (-((Nat.gcd a.natAbs b.natAbs : Nat) : Int)) = big (Nat.gcd a.natAbs b.natAbs : Nat) := by unfold big; rw [Int.natAbs_neg]
  by_cases hp : 0 < b
  · rw [if_pos hp] at e1 e2
    simp [m_divisor2, hp, hb, e1, e2, rq, h]
  · rw [if_neg hp] at e1 e2
    simp [m_divisor2, hp, hb, bn, e1, e2, rq, h]
theorem big_gcd {a b : Int} {k : Nat} (h : b ≠ 0) (hb : b.natAbs < 2 ^ k) (hk : k ≤ 9000) : big (Nat.gcd a.natAbs b.natAbs : Nat) < 9000 := by
  have h1 : Nat.gcd a.natAbs b.natAbs ≤ b.natAbs := Nat.gcd_le_right _ (Int.natAbs_pos.mpr h)
  have k0 : 0 < k := by
    cases k with
    | zero => simp at hb; exact absurd hb h
    | succ k => exact Nat.succ_pos k
  exact Nat.lt_of_lt_of_le (big_lt (n := k) (by show Nat.gcd _ _ < _; omega) k0) hk
theorem big_num (h : Sz n q) (hn : 0 < n) : big q.num < n := big_lt h.1 hn
theorem big_den (h : Sz n q) (hn : 0 < n) : big (q.den : Int) < n := big_lt h.2 hn
theorem sz_pos (h : Sz n q) : 0 < n := by
  cases n with
  | zero => have := h.2; have := q.den_pos; omega
  | succ n => exact Nat.succ_pos n
theorem m_product (hp : Sz m p) (hq : Sz n q) (h : m + n ≤ 9000) : d_ratio_product [.d (rq p), .d (rq q)] = .ok (.d (rq (p * q))) [none, none] := by
  apply eq_of
  unfold d_ratio_product
  rw [w_def]
  have p0 := sz_pos hp
  have q0 := sz_pos hq
  have n1 := big_num hp p0
  have n2 := big_num hq q0
  have n3 := big_den hp p0
  have n4 := big_den hq q0
  have b1 : big p.num + big q.num < 1000000 := by omega
  have b2 : big (p.den : Int) + big (q.den : Int) < 1000000 := by omega
  have c := m_ratio_with (a := p.num * q.num) (den_mul_ne p q) (big_gcd (k := m + n) (den_mul_ne p q) (by rw [Int.natAbs_mul]; exact mul_lt_pow hp.2 hq.2) h)
  rw [divInt_mul] at c
  have ep : rq p = .tuple [.int p.num, .int p.den] := rfl
  have eq : rq q = .tuple [.int q.num, .int q.den] := rfl
  rw [ep, eq]
  simp [b1, b2, c]
theorem m_sum (hp : Sz m p) (hq : Sz n q) (h : m + n ≤ 9000) : d_ratio_sum [.d (rq p), .d (rq q)] = .ok (.d (rq (p + q))) [none, none] := by
  apply eq_of
  unfold d_ratio_sum
  rw [w_def]
  have p0 := sz_pos hp
  have q0 := sz_pos hq
  have n1 := big_num hp p0
  have n2 := big_num hq q0
  have n3 := big_den hp p0
  have n4 := big_den hq q0
  have b1 : big p.num + big (q.den : Int) < 1000000 := by omega
  have b2 : big (p.den : Int) + big (q.den : Int) < 1000000 := by omega
  have b3 : big q.num + big (p.den : Int) < 1000000 := by omega
  have c := m_ratio_with (a := p.num * q.den + q.num * p.den) (den_mul_ne p q) (big_gcd (k := m + n) (den_mul_ne p q) (by rw [Int.natAbs_mul]; exact mul_lt_pow hp.2 hq.2) h)
  rw [divInt_add] at c
  have ep : rq p = .tuple [.int p.num, .int p.den] := rfl
  have eq : rq q = .tuple [.int q.num, .int q.den] := rfl
  rw [ep, eq]
  simp [b1, b2, b3, c]
theorem red (q : Rat) : Nat.gcd q.num.natAbs (q.den : Int).natAbs = 1 := q.reduced
theorem m_is_ratio : d_is_ratio [.d (rq q)] = .ok (.d (.bool true)) [none] := by
  apply eq_of
  unfold d_is_ratio
  rw [w_def]
  have ep : rq q = .tuple [.int q.num, .int q.den] := rfl
  have dp : (0 : Int) < q.den := by have := q.den_pos; omega
  have r := m_reduced (a := q.num) (b := q.den)
  simp only [red q, decide_true] at r
  rw [ep]
  simp [m_wholes2, r, q.den_pos]

variable {M : Nat → Nat → Rat} {r g : Nat → Rat}
theorem m_are_ratios (hl : n ≤ 1000000) : d_are_ratios [.d (rowF n g), .d (.int n)] = .ok (.d (.bool true)) [none, none] := by
  apply eq_of
  unfold d_are_ratios
  rw [w_def]
  have ep : rowF n g = .tuple ((List.range n).map fun j => rq (g j)) := rfl
  rw [ep]
  simp [hl]
  refine comp_pred (· = .d (.bool true)) (S := fun r => ∃ x, r = [some (.d (.tuple ((List.range n).map fun j => rq (g j)))), some (.d (.int n)), x]) ⟨_, rfl⟩ ?_ ?_
  · rintro x hx r ⟨y, rfl⟩
    obtain ⟨q, _, rfl⟩ := List.mem_map.mp hx
    simp [m_is_ratio]
  · rintro ws r hw ⟨y, rfl⟩
    simp [all_true hw]
def Sym (n : Nat) (M : Nat → Nat → Rat) : Prop := ∀ i < n, ∀ j < n, M i j = M j i
theorem m_is_formed (h1 : 1 ≤ n) (h2 : n ≤ 6) (hs : Sym n M) : d_is_formed [.d (formF n M)] = .ok (.d (.bool true)) [none] := by
  apply eq_of
  unfold d_is_formed
  rw [w_def]
  have ep : formF n M = .tuple ((List.range n).map fun i => rowF n (M i)) := rfl
  have er : ∀ i, rowF n (M i) = .tuple ((List.range n).map fun j => rq (M i j)) := fun _ => rfl
  have k1 : (n : Int) ≤ 6 := by omega
  have k2 : (1 : Int) ≤ n := by omega
  have k3 : n ≤ 1000000 := by omega
  simp only [ep]
  simp [k1, k2, k3, h1, h2]
  refine comp_pred (· = .d (.bool true)) (S := fun r => ∃ x y z, r = [some (.d (.tuple ((List.range n).map fun i => rowF n (M i)))), x, y, z]) ⟨_, _, _, rfl⟩ ?_ ?_
  · rintro x hx r ⟨y, z, u, rfl⟩
    obtain ⟨i, _, rfl⟩ := List.mem_map.mp hx
    simp [m_are_ratios k3]
  · rintro ws r hw ⟨y, z, u, rfl⟩
    simp [all_true hw]
    refine ⟨by omega, ?_⟩
    rw [rngD_len]
    refine ⟨by omega, ?_⟩
    refine comp2_pred (· = .d (.bool true)) (S := fun r => ∃ x y z, r = [some (.d (.tuple ((List.range n).map fun i => rowF n (M i)))), x, y, z]) ⟨_, _, _, rfl⟩ ?_ ?_
    · rintro x hx r ⟨y, z, u, rfl⟩
      obtain ⟨i, hi, rfl⟩ := rngD_mem hx
      have i1 : (i : Int) ≤ 1000000 := by omega
      have i2 : (-1000000 : Int) ≤ i := by omega
      have i3 : i ≤ 1000 := by omega
      simp [i1, i2, i3, rngD_len]
      refine ⟨by omega, comp_pred (· = .d (.bool true)) (S := fun r => ∃ x, r = [some (.d (.tuple ((List.range n).map fun i => rowF n (M i)))), some (.d (.int i)), x, u]) ⟨_, rfl⟩ ?_ ?_⟩
      · rintro x hx r ⟨y, rfl⟩
        obtain ⟨j, hj, rfl⟩ := rngD_mem hx
        have hjn : j < n := by omega
        have e1 : ((List.range n).map fun i => rowF n (M i))[i]? = some (rowF n (M i)) := rng_get hi
        have e2 : ((List.range n).map fun i => rowF n (M i))[j]? = some (rowF n (M j)) := rng_get hjn
        have e3 : ((List.range n).map fun k => rq (M i k))[j]? = some (rq (M i j)) := rng_get hjn
        have e4 : ((List.range n).map fun k => rq (M j k))[i]? = some (rq (M i j)) := by rw [rng_get hi, hs i hi j hjn]
        have g1 : (List.range n)[i]? = some i := List.getElem?_range hi
        have g2 : (List.range n)[j]? = some j := List.getElem?_range hjn
        simp [g1, g2, er, hs j hjn i hi, pEq_same (rq_shaped _)]
      · rintro ws r hw ⟨y, rfl⟩
        exact ⟨hw, _, _, _, rfl⟩
    · rintro ws r hw ⟨y, z, u, rfl⟩
      simp [all_true hw]
theorem m_check_form (h1 : 1 ≤ n) (h2 : n ≤ 6) (hs : Sym n M) : d_check_form [.d (formF n M)] = .ok (.d .none) [none] := by
  apply eq_of
  unfold d_check_form
  rw [w_def]
  simp [m_is_formed h1 h2 hs]
theorem m_check_row (h2 : n ≤ 6) : d_check_row_of [.d (.int n), .d (rowF n g)] = .ok (.d .none) [none, none] := by
  apply eq_of
  unfold d_check_row_of
  rw [w_def]
  have er : rowF n g = .tuple ((List.range n).map fun j => rq (g j)) := rfl
  simp [er]
  refine for_inv (I := fun xs r => (∀ x ∈ xs, ∃ k q, x = .tuple [.int k, rq q]) ∧ ∃ y z, r = [some (.d (.int n)), some (.d (rowF n g)), y, z]) ?_ ?_ _ _ ?_
  · rintro r ⟨_, y, z, rfl⟩
    simp
  · rintro x xs r ⟨h, y, z, rfl⟩
    obtain ⟨k, q, rfl⟩ := h x (by simp)
    have h' : ∀ x ∈ xs, ∃ k q, x = .tuple [.int k, rq q] := fun x hx => h x (by simp [hx])
    simp [m_is_ratio]
    exact h'
  · refine ⟨?_, _, _, rfl⟩
    have go : ∀ (xs : List Nat) (k : Nat), ∀ x ∈ enumD k (xs.map fun j => rq (g j)), ∃ k q, x = .tuple [.int k, rq q] := by
      intro xs
      induction xs with
      | nil => intro k x hx; simp [enumD] at hx
      | cons y ys ih =>
        intro k x hx
        rw [List.map_cons, enumD] at hx
        rcases List.mem_cons.mp hx with e | e
        · exact ⟨_, _, e⟩
        · exact ih (k + 1) x e
    exact go _ _
/-! ### sums -/
theorem m_total {w : Wv} {f : Nat → Rat} {k : Nat} (hw : w.nos = true) (hd : w.dat = .list ((List.range n).map fun i => rq (f i))) (h : ∀ i < n, Sz k (f i)) (hk : n * (k + 1) + 1 + k ≤ 9000) : d_total_of [w] = .ok (.d (rq (sumR n f))) [none] := by
  apply eq_of
  unfold d_total_of
  rw [w_def]
  simp [hw, hd]
  have z : PyData.tuple [.int 0, .int 1] = rq (sumR 0 f) := rfl
  rw [z]
  refine for_inv (I := fun xs r => ∃ j, j ≤ n ∧ xs = ((List.range n).map fun i => rq (f i)).drop j ∧ ∃ x y, r = [x, some (.d (rq (sumR j f))), y]) ?_ ?_ _ _ ⟨0, by omega, by simp, _, _, rfl⟩
  · rintro r ⟨j, hj, e, x, y, rfl⟩
    have ej : j = n := by
      have := congrArg List.length e
      simp at this
      omega
    subst ej
    simp
  · rintro x xs r ⟨j, hj, e, u, v, rfl⟩
    have hlt : j < n := by
      have := congrArg List.length e
      simp at this
      omega
    have ex : ((List.range n).map fun i => rq (f i)).drop j = rq (f j) :: ((List.range n).map fun i => rq (f i)).drop (j + 1) := by
      rw [List.drop_eq_getElem_cons (by simp; omega)]
      simp
    rw [ex] at e
    cases e
    have c := m_sum (p := sumR j f) (q := f j) (sz_sumR fun i hi => h i (by omega)) (h j hlt) (by
      have : j * (k + 1) ≤ n * (k + 1) := Nat.mul_le_mul_right _ hj
      omega)
    simp [c]
    exact ⟨j + 1, by omega, by simp, rfl⟩
theorem m_dot {f g : Nat → Rat} {k l : Nat} (hn : n ≤ 6) (h : ∀ i < n, Sz k (f i)) (h' : ∀ i < n, Sz l (g i)) (hk : n * (k + l + 1) + 1 + (k + l) ≤ 9000) : d_dot [.d (rowF n f), .d (rowF n g)] = .ok (.d (rq (sumR n fun i => f i * g i))) [none, none] := by
  apply eq_of
  unfold d_dot
  rw [w_def]
  have er : ∀ g, rowF n g = .tuple ((List.range n).map fun j => rq (g j)) := fun _ => rfl
  simp [er]
  have e0 : (zipD ((List.range n).map fun j => rq (f j)) ((List.range n).map fun j => rq (g j))) = (List.range n).map fun j => PyData.tuple [rq (f j), rq (g j)] := zipD_map
  rw [e0]
  simp
  have key : ∀ {PL : List Wv → Rho → Prop}, (∀ x y, PL ((List.range n).map fun i => .d (rq (f i * g i))) [some (.d (rowF n f)), some (.d (rowF n g)), x, y]) → Gs (compL [2, 3] (gT 2 (gsCons (gN 2) (gsCons (gN 3) gsNil))) tYesB (sCallW d_ratio_product (wCons (sVar 2) (wCons (sVar 3) wNil))) ((List.range n).map fun j => PyData.tuple [rq (f j), rq (g j)]) [some (.d (rowF n f)), some (.d (rowF n g)), none, none]) PL := by
    intro PL hPL
    refine comp_inv (I := fun xs acc r => ∃ j, j ≤ n ∧ xs = ((List.range n).map fun j => PyData.tuple [rq (f j), rq (g j)]).drop j ∧ acc = (List.range j).map (fun i => .d (rq (f i * g i))) ∧ ∃ x y, r = [some (.d (rowF n f)), some (.d (rowF n g)), x, y]) ?_ ?_ ⟨0, by omega, by simp, rfl, _, _, rfl⟩
    · rintro acc r ⟨j, hj, e, rfl, x, y, rfl⟩
      have ej : j = n := by
        have := congrArg List.length e
        simp at this
        omega
      subst ej
      exact hPL x y
    · rintro x xs acc r ⟨j, hj, e, rfl, u, v, rfl⟩
      have hlt : j < n := by
        have := congrArg List.length e
        simp at this
        omega
      have ex : ((List.range n).map fun j => PyData.tuple [rq (f j), rq (g j)]).drop j = PyData.tuple [rq (f j), rq (g j)] :: ((List.range n).map fun j => PyData.tuple [rq (f j), rq (g j)]).drop (j + 1) := by
        rw [List.drop_eq_getElem_cons (by simp; omega)]
        simp
      rw [ex] at e
      cases e
      have c := m_product (h j hlt) (h' j hlt) (by omega)
      simp [c]
      exact ⟨j + 1, by omega, by simp, by simp [List.range_succ]⟩
  have t := m_total (n := n) (w := .o ((List.range n).map fun i => .d (rq (f i * g i)))) (f := fun i => f i * g i) (k := k + l) (by simp) (by simp) (fun i hi => (h i hi).mul (h' i hi)) hk
  simp [rowF] at key
  exact ⟨by omega, key fun x y => by simp [t]⟩
/-! ### forms -/
theorem m_led_by {k l : Nat} (hn : n ≤ 6) (h : ∀ i < n, ∀ j < n, Sz k (M i j)) (h' : ∀ i < n, Sz l (g i)) (hk : n * (k + l + 1) + 1 + (k + l) ≤ 9000) : d_led_by [.d (formF n M), .d (rowF n g)] = .ok (.d (rowF n fun i => sumR n fun j => M i j * g j)) [none, none] := by
  apply eq_of
  unfold d_led_by
  rw [w_def]
  have ep : formF n M = .tuple ((List.range n).map fun i => rowF n (M i)) := rfl
  simp [ep]
  refine ⟨by omega, comp_rows (fun i => rq (sumR n fun j => M i j * g j)) (fun r => ∃ x, r = [some (.d (formF n M)), some (.d (rowF n g)), x]) ⟨_, rfl⟩ ?_ ?_⟩
  · rintro i hi r ⟨x, rfl⟩
    simp [m_dot hn (h i hi) h' hk]
  · rintro r ⟨x, rfl⟩
    simp [rowF]
end LW

set_option Elab.async false
set_option linter.all false
set_option maxRecDepth 100000
set_option maxHeartbeats 1000001
namespace LW
open PySem PySem.Spec L2 FW
variable {P : Wv → Rho → Prop} {a b : Int} {p q : Rat} {d : D} {m n : Nat} {w : Wv}
/-! ## the drawing -/
def Dk (w : Wv) : Prop := ∃ a b c : Int, w = .o [.d (.int a), .d (.int b), .d (.int c)] ∧ 0 ≤ a ∧ (0 ≤ b ∧ b < 2147483648) ∧ 0 ≤ c ∧ c < 2147483648
theorem big31 {b : Int} (h : 0 ≤ b) (h' : b < 2147483648) : big b < 31 := big_lt (n := 31) (by
  have : (2 : Nat) ^ 31 = 2147483648 := by decide
  omega) (by decide)
theorem fmod_rng {a b : Int} (h : 0 < b) : 0 ≤ a.fmod b ∧ a.fmod b < b := ⟨Int.fmod_nonneg_of_pos a h, Int.fmod_lt_of_pos a h⟩
@[simp] theorem setW_o {ws : List Wv} {k : Nat} {x : Wv} : setW (.o ws) (k : Int) x = if k < ws.length then some (.o (ws.set k x)) else none := by
  show (ixN ws.length (k : Int)).bind (fun j => if j < ws.length then some (Wv.o (ws.set j x)) else none) = _
  by_cases h : k < ws.length
  · have e : ixN ws.length (k : Int) = some k := by
      unfold ixN; rw [if_pos (by omega), if_pos (by omega)]; simp
    rw [e]; rfl
  · unfold ixN
    rw [if_pos (by omega), if_neg (by omega), if_neg h]; rfl
@[simp] theorem setW_0 {ws : List Wv} {x : Wv} : setW (.o ws) 0 x = if 0 < ws.length then some (.o (ws.set 0 x)) else none := setW_o (k := 0)
@[simp] theorem setW_1 {ws : List Wv} {x : Wv} : setW (.o ws) 1 x = if 1 < ws.length then some (.o (ws.set 1 x)) else none := setW_o (k := 1)
@[simp] theorem setW_2 {ws : List Wv} {x : Wv} : setW (.o ws) 2 x = if 2 < ws.length then some (.o (ws.set 2 x)) else none := setW_o (k := 2)
theorem roll_spec (hk : Dk w) {wd : Int} (h1 : 0 < wd) (h2 : wd ≤ 1000) : Gs (d__law_roll [w, .d (.int wd)]) (fun v r => ∃ i w', v = .d (.int i) ∧ (0 ≤ i ∧ i < wd) ∧ r = [some w', none] ∧ Dk w') := by
  obtain ⟨a, b, c, rfl, ha, hb, hc⟩ := hk
  have bw : big wd < 9000 := Nat.lt_trans (big31 (by omega) (by omega)) (by decide)
  have wn : wd ≠ 0 := by omega
  unfold d__law_roll
  rw [w_def]
  by_cases h : 0 < a
  · simp [h, bw, wn]
    exact ⟨fmod_rng h1, _, _, _, rfl, Int.fdiv_nonneg ha (by omega), ⟨hb.1, hb.2⟩, hc.1, hc.2⟩
  · have b1 := big31 hb.1 hb.2
    have b2 := big31 hc.1 hc.2
    have b3 : big 5 < 31 := by decide
    have b4 : big 39373 < 31 := by decide
    have b5 : big 65536 < 9000 := by decide
    have b6 : big 2147483629 < 9000 := by decide
    have b7 : big 1013 < 9000 := by decide
    have b8 : big c + big 5 < 1000000 := by omega
    have b9 : big b + big 39373 < 1000000 := by omega
    simp [h, bw, wn, b3, b4, b5, b6, b7, b8, b9]
    refine ⟨fmod_rng h1, _, _, _, rfl, ha, ?_, ?_⟩
    · have := fmod_rng (a := b * 39373 + (c * 5 + 4021).fmod 65536 + 1) (b := 2147483629) (by decide)
      omega
    · have := fmod_rng (a := c * 5 + 4021) (b := 65536) (by decide)
      omega
theorem pick_spec (hk : Dk w) {xs : List Int} (h1 : xs ≠ []) (h2 : xs.length ≤ 1000) : Gs (d__law_pick [w, .o (xs.map fun i => .d (.int i))]) (fun v r => ∃ i ∈ xs, ∃ w', v = .d (.int i) ∧ r = [some w', none] ∧ Dk w') := by
  unfold d__law_pick
  rw [w_def]
  have l1 : 0 < xs.length := List.length_pos_iff.mpr h1
  simp
  refine (roll_spec hk (wd := xs.length) (by omega) (by omega)).mono ?_
  rintro v r ⟨i, w', rfl, hi, rfl, hw⟩
  obtain ⟨j, rfl⟩ := Int.eq_ofNat_of_zero_le hi.1
  have hj : j < xs.length := by omega
  simp [List.getElem?_eq_getElem hj]
  exact ⟨_, List.getElem_mem hj, rfl, hw⟩
theorem wholes_spec (hk : Dk w) {lo wd : Int} (hn : n ≤ 1000) (h1 : 0 < wd) (h2 : wd ≤ 1000) : Gs (d__law_wholes [w, .d (.int n), .d (.int lo), .d (.int wd)]) (fun v r => ∃ f : Nat → Int, v = .o ((List.range n).map fun i => .d (.int (f i))) ∧ (∀ i, lo ≤ f i ∧ f i < lo + wd) ∧ ∃ w', r = [some w', none, none, none] ∧ Dk w') := by
  unfold d__law_wholes
  rw [w_def]
  simp
  refine ⟨by omega, for_rng (m := n) (lo := 0) (I := fun j r => ∃ (f : Nat → Int) (w' : Wv) (x : Option Wv), (∀ i, lo ≤ f i ∧ f i < lo + wd) ∧ Dk w' ∧ r = [some w', some (.d (.int n)), some (.d (.int lo)), some (.d (.int wd)), some (.o ((List.range j).map fun i => .d (.int (f i)))), x]) ?_ ?_ ⟨fun _ => lo, w, _, fun _ => ⟨Int.le_refl _, Int.lt_add_of_pos_right _ h1⟩, hk, rfl⟩⟩
  · rintro r ⟨f, w', x, hf, hw, rfl⟩
    simp
    exact ⟨f, fun _ _ => rfl, hf, hw⟩
  · rintro j r hj ⟨f, w', x, hf, hw, rfl⟩
    simp
    refine (roll_spec hw h1 h2).mono ?_
    rintro v r ⟨i, w2, rfl, hi, rfl, hw2⟩
    simp
    refine ⟨by omega, fun k => if k = j then lo + i else f k, ?_, w2, hw2, ?_⟩
    · intro k
      show lo ≤ (if k = j then lo + i else f k) ∧ (if k = j then lo + i else f k) < lo + wd
      split
      · omega
      · exact hf k
    · refine ⟨rfl, ?_⟩
      rw [List.range_succ, List.map_append]
      congr 1
      · refine List.map_congr_left fun k hk => ?_
        have : k ≠ j := by have := List.mem_range.mp hk; omega
        simp [this]
      · simp
theorem m_law_gcd {x y : Nat} : d__law_gcd [.d (.int x), .d (.int y)] = .ok (.d (.int (Nat.gcd x y : Nat))) [none, none] := by
  apply eq_of
  unfold d__law_gcd
  rw [w_def]
  simp
  refine while_inv (I := fun k r => ∃ u v : Nat, v = k ∧ Nat.gcd u v = Nat.gcd x y ∧ r = [some (.d (.int u)), some (.d (.int v))]) ?_ y _ ⟨x, y, rfl, rfl, rfl⟩
  rintro k r ⟨u, v, rfl, hg, rfl⟩
  simp
  by_cases h : 0 < v
  · have e : ((u : Int).fmod v) = ((u % v : Nat) : Int) := by
      rw [Int.fmod_eq_emod_of_nonneg _ (by omega)]; exact (Int.natCast_emod u v).symm
    have vn : v ≠ 0 := by omega
    simp [h, vn]
    exact ⟨u % v, Nat.mod_lt _ h, v, by rw [← hg, Nat.gcd_comm v, ← Nat.gcd_rec, Nat.gcd_comm], rfl, e⟩
  · have v0 : v = 0 := by omega
    subst v0
    simp
    rw [← hg]; simp
theorem m_law_frac (h : b ≠ 0) (ha : big a < 900000) (hb : big b < 9000) : d__law_frac [.d (.int a), .d (.int b)] = .ok (.d (rq (Rat.divInt a b))) [none, none] := by
  apply eq_of
  unfold d__law_frac
  rw [w_def]
  obtain ⟨e1, e2⟩ := frac2 (a := a) h
  have g0 := gcd_ne (a := a) h
  have bg : big (Nat.gcd a.natAbs b.natAbs : Nat) < 9000 := by
    unfold big
    exact (Nat.log2_lt (fun z => gcd_ne (a := a) h (by simpa using z))).mpr (Nat.lt_of_le_of_lt (Nat.gcd_le_right _ (Int.natAbs_pos.mpr h)) ((Nat.log2_lt (by omega)).mp hb))
  have ab : ∀ i : Int, (if i < 0 then -i else i) = (i.natAbs : Int) := fun i => by split <;> omega
  have b1 : big (-1) = 0 := by decide
  have b2 : big 1 = 0 := by decide
  have c := m_law_gcd (x := b.natAbs) (y := a.natAbs)
  rw [Nat.gcd_comm] at c
  have c1 : big a < 1000000 := by omega
  have c2 : big b < 1000000 := by omega
  by_cases hn : b < 0
  · rw [if_pos hn] at e1 e2
    simp only [Int.neg_mul, Int.one_mul] at e1 e2
    rw [show (b.natAbs : Int) = -b by omega] at c
    simp [hn, ab, c, b1, b2, c1, c2, bg, e1, e2, h, rq]
  · rw [if_neg hn] at e1 e2
    simp only [Int.one_mul] at e1 e2
    rw [show (b.natAbs : Int) = b by omega] at c
    simp [hn, ab, c, b1, b2, c1, c2, bg, e1, e2, h, rq]
theorem m_law_times (hp : Sz m p) (hq : Sz n q) (h : m + n ≤ 9000) : d__law_times [.d (rq p), .d (rq q)] = .ok (.d (rq (p * q))) [none, none] := by
  apply eq_of
  unfold d__law_times
  rw [w_def]
  have p0 := sz_pos hp
  have q0 := sz_pos hq
  have n1 := big_num hp p0
  have n2 := big_num hq q0
  have n3 := big_den hp p0
  have n4 := big_den hq q0
  have b1 : big p.num + big q.num < 1000000 := by omega
  have b2 : big (p.den : Int) + big (q.den : Int) < 1000000 := by omega
  have s1 : (p.num * q.num).natAbs < 2 ^ (m + n) := by rw [Int.natAbs_mul]; exact mul_lt_pow hp.1 hq.1
  have s2 : ((p.den : Int) * q.den).natAbs < 2 ^ (m + n) := by rw [Int.natAbs_mul]; exact mul_lt_pow hp.2 hq.2
  have c := m_law_frac (a := p.num * q.num) (den_mul_ne p q) (Nat.lt_of_lt_of_le (big_lt s1 (by omega)) (by omega)) (Nat.lt_of_lt_of_le (big_lt s2 (by omega)) (by omega))
  rw [divInt_mul] at c
  have ep : rq p = .tuple [.int p.num, .int p.den] := rfl
  have eq : rq q = .tuple [.int q.num, .int q.den] := rfl
  rw [ep, eq]
  simp [b1, b2, c]
theorem m_law_plus (hp : Sz m p) (hq : Sz n q) (h : m + n + 1 ≤ 9000) : d__law_plus [.d (rq p), .d (rq q)] = .ok (.d (rq (p + q))) [none, none] := by
  apply eq_of
  unfold d__law_plus
  rw [w_def]
  have p0 := sz_pos hp
  have q0 := sz_pos hq
  have n1 := big_num hp p0
  have n2 := big_num hq q0
  have n3 := big_den hp p0
  have n4 := big_den hq q0
  have b1 : big p.num + big (q.den : Int) < 1000000 := by omega
  have b2 : big (p.den : Int) + big (q.den : Int) < 1000000 := by omega
  have b3 : big q.num + big (p.den : Int) < 1000000 := by omega
  have s1 : (p.num * q.den + q.num * p.den).natAbs < 2 ^ (m + n + 1) := by
    have h1 := mul_lt_pow hp.1 hq.2
    have h2 := mul_lt_pow hq.1 hp.2
    have h3 : (p.num * q.den + q.num * p.den).natAbs ≤ p.num.natAbs * q.den + q.num.natAbs * p.den := by
      refine Nat.le_trans (Int.natAbs_add_le _ _) ?_
      rw [Int.natAbs_mul, Int.natAbs_mul]
      exact Nat.le_refl _
    rw [Nat.pow_succ]
    rw [Nat.add_comm n m] at h2
    omega
  have s2 : ((p.den : Int) * q.den).natAbs < 2 ^ (m + n) := by rw [Int.natAbs_mul]; exact mul_lt_pow hp.2 hq.2
  have c := m_law_frac (a := p.num * q.den + q.num * p.den) (den_mul_ne p q) (Nat.lt_of_lt_of_le (big_lt s1 (by omega)) (by omega)) (Nat.lt_of_lt_of_le (big_lt s2 (by omega)) (by omega))
  rw [divInt_add] at c
  have ep : rq p = .tuple [.int p.num, .int p.den] := rfl
  have eq : rq q = .tuple [.int q.num, .int q.den] := rfl
  rw [ep, eq]
  simp [b1, b2, b3, c]
variable {M : Nat → Nat → Rat} {f g : Nat → Rat}
theorem m_law_dot {k l : Nat} (h : ∀ i < n, Sz k (f i)) (h' : ∀ i < n, Sz l (g i)) (hk : n * (k + l + 1) + 2 + (k + l) ≤ 9000) : d__law_dot [.d (rowF n f), .d (rowF n g)] = .ok (.d (rq (sumR n fun i => f i * g i))) [none, none] := by
  apply eq_of
  unfold d__law_dot
  rw [w_def]
  have er : ∀ g, rowF n g = .tuple ((List.range n).map fun j => rq (g j)) := fun _ => rfl
  have e0 : (zipD ((List.range n).map fun j => rq (f j)) ((List.range n).map fun j => rq (g j))) = (List.range n).map fun j => PyData.tuple [rq (f j), rq (g j)] := zipD_map
  simp [er]
  rw [e0]
  have z : PyData.tuple [.int 0, .int 1] = rq (sumR 0 fun i => f i * g i) := rfl
  rw [z]
  refine for_inv (I := fun xs r => ∃ j, j ≤ n ∧ xs = ((List.range n).map fun j => PyData.tuple [rq (f j), rq (g j)]).drop j ∧ ∃ x y, r = [some (.d (rowF n f)), some (.d (rowF n g)), some (.d (rq (sumR j fun i => f i * g i))), x, y]) ?_ ?_ _ _ ⟨0, by omega, by simp, _, _, rfl⟩
  · rintro r ⟨j, hj, e, x, y, rfl⟩
    have ej : j = n := by
      have := congrArg List.length e
      simp at this
      omega
    subst ej
    simp
  · rintro x xs r ⟨j, hj, e, u, v, rfl⟩
    have hlt : j < n := by
      have := congrArg List.length e
      simp at this
      omega
    have ex : ((List.range n).map fun j => PyData.tuple [rq (f j), rq (g j)]).drop j = PyData.tuple [rq (f j), rq (g j)] :: ((List.range n).map fun j => PyData.tuple [rq (f j), rq (g j)]).drop (j + 1) := by
      rw [List.drop_eq_getElem_cons (by simp; omega)]
      simp
    rw [ex] at e
    cases e
    have c1 := m_law_times (h j hlt) (h' j hlt) (by omega)
    have c2 := m_law_plus (p := sumR j fun i => f i * g i) (q := f j * g j) (sz_sumR (k := k + l) fun i hi => (h i (by omega)).mul (h' i (by omega))) ((h j hlt).mul (h' j hlt)) (by
      have : j * (k + l + 1) ≤ n * (k + l + 1) := Nat.mul_le_mul_right _ hj
      omega)
    simp [c1, c2]
    exact ⟨j + 1, by omega, by simp, rfl⟩
theorem m_law_led {k l : Nat} (hn : n ≤ 6) (h : ∀ i < n, ∀ j < n, Sz k (M i j)) (h' : ∀ i < n, Sz l (g i)) (hk : n * (k + l + 1) + 2 + (k + l) ≤ 9000) : d__law_led [.d (formF n M), .d (rowF n g)] = .ok (.d (rowF n fun i => sumR n fun j => M i j * g j)) [none, none] := by
  apply eq_of
  unfold d__law_led
  rw [w_def]
  have ep : formF n M = .tuple ((List.range n).map fun i => rowF n (M i)) := rfl
  simp [ep]
  refine ⟨by omega, comp_rows (fun i => rq (sumR n fun j => M i j * g j)) (fun r => ∃ x, r = [some (.d (formF n M)), some (.d (rowF n g)), x]) ⟨_, rfl⟩ ?_ ?_⟩
  · rintro i hi r ⟨x, rfl⟩
    simp [m_law_dot (h i hi) h' hk]
  · rintro r ⟨x, rfl⟩
    simp [rowF]
end LW

set_option Elab.async false
set_option linter.all false
set_option maxRecDepth 100000
set_option maxHeartbeats 1000001
namespace LW
open PySem PySem.Spec L2 FW
variable {P : Wv → Rho → Prop} {a b : Int} {p q : Rat} {d : D} {m n k l : Nat} {w : Wv} {M : Nat → Nat → Rat} {f g : Nat → Rat}
/-! ## the program's own -/
def dotR (n : Nat) (f g : Nat → Rat) : Rat := sumR n fun i => f i * g i
def ledR (n : Nat) (M : Nat → Nat → Rat) (g : Nat → Rat) (i : Nat) : Rat := sumR n fun j => M i j * g j
/-- bits of a row led by a form -/
def lb (n k l : Nat) : Nat := n * (k + l + 1) + 1
theorem sz_led (h : ∀ i < n, ∀ j < n, Sz k (M i j)) (h' : ∀ i < n, Sz l (g i)) : ∀ i < n, Sz (lb n k l) (ledR n M g i) := fun i hi => sz_sumR fun j hj => (h i hi j hj).mul (h' j hj)
theorem m_product_by {k l l' : Nat} (hn : n ≤ 6) (h : ∀ i < n, ∀ j < n, Sz k (M i j)) (h' : ∀ i < n, Sz l (f i)) (h'' : ∀ i < n, Sz l' (g i)) (hk : lb n k l' + k + l' ≤ 9000) (hk2 : lb n l (lb n k l') + l + lb n k l' ≤ 9000) :
    d_product_by [.d (formF n M), .d (rowF n f), .d (rowF n g)] = .ok (.d (rq (dotR n f (ledR n M g)))) [none, none, none] := by
  apply eq_of
  unfold d_product_by
  rw [w_def]
  have c1 := m_led_by hn h h'' (by unfold lb at hk; omega)
  have c2 := m_dot (f := f) (g := ledR n M g) hn h' (sz_led h h'') (by unfold lb at hk2 ⊢; omega)
  simp [c1]
  rw [show (rowF n fun i => sumR n fun j => M i j * g j) = rowF n (ledR n M g) from rfl, c2]
  simp [dotR]
theorem m_worth_by {k l : Nat} (hn : n ≤ 6) (h : ∀ i < n, ∀ j < n, Sz k (M i j)) (h' : ∀ i < n, Sz l (g i)) (hk : lb n k l + k + l ≤ 9000) (hk2 : lb n l (lb n k l) + l + lb n k l ≤ 9000) :
    d_worth_by [.d (formF n M), .d (rowF n g)] = .ok (.d (rq (dotR n g (ledR n M g)))) [none, none] := by
  apply eq_of
  unfold d_worth_by
  rw [w_def]
  simp [m_product_by hn h h' h' hk hk2]
theorem m_led {k l : Nat} (h1 : 1 ≤ n) (hn : n ≤ 6) (hs : Sym n M) (h : ∀ i < n, ∀ j < n, Sz k (M i j)) (h' : ∀ i < n, Sz l (g i)) (hk : lb n k l + k + l ≤ 9000) : d_led [.d (formF n M), .d (rowF n g)] = .ok (.d (rowF n (ledR n M g))) [none, none] := by
  apply eq_of
  unfold d_led
  rw [w_def]
  have c1 := m_led_by hn h h' (by unfold lb at hk; omega)
  have c2 := m_check_form h1 hn hs
  have c3 := m_check_row (g := g) hn
  have pl : pLen [formF n M] = some (.d (.int n)) := by simp [formF]
  simp [c1, c2, c3, pl]
  rfl
theorem m_prod {k l l' : Nat} (h1 : 1 ≤ n) (hn : n ≤ 6) (hs : Sym n M) (h : ∀ i < n, ∀ j < n, Sz k (M i j)) (h' : ∀ i < n, Sz l (f i)) (h'' : ∀ i < n, Sz l' (g i)) (hk : lb n k l' + k + l' ≤ 9000) (hk2 : lb n l (lb n k l') + l + lb n k l' ≤ 9000) :
    d_product [.d (formF n M), .d (rowF n f), .d (rowF n g)] = .ok (.d (rq (dotR n f (ledR n M g)))) [none, none, none] := by
  apply eq_of
  unfold d_product
  rw [w_def]
  have c1 := m_product_by hn h h' h'' hk hk2
  have c2 := m_check_form h1 hn hs
  have c3 := m_check_row (g := g) hn
  have c4 := m_check_row (g := f) hn
  have pl : pLen [formF n M] = some (.d (.int n)) := by simp [formF]
  simp [c1, c2, c3, c4, pl]
theorem m_worth {k l : Nat} (h1 : 1 ≤ n) (hn : n ≤ 6) (hs : Sym n M) (h : ∀ i < n, ∀ j < n, Sz k (M i j)) (h' : ∀ i < n, Sz l (g i)) (hk : lb n k l + k + l ≤ 9000) (hk2 : lb n l (lb n k l) + l + lb n k l ≤ 9000) :
    d_worth [.d (formF n M), .d (rowF n g)] = .ok (.d (rq (dotR n g (ledR n M g)))) [none, none] := by
  apply eq_of
  unfold d_worth
  rw [w_def]
  have c1 := m_worth_by hn h h' hk hk2
  have c2 := m_check_form h1 hn hs
  have c3 := m_check_row (g := g) hn
  have pl : pLen [formF n M] = some (.d (.int n)) := by simp [formF]
  simp [c1, c2, c3, pl]
/-- places of a lot -/
def lotD (L : List Nat) : D := .tuple (L.map fun (i : Nat) => .int (i : Int))
def partD (M : Nat → Nat → Rat) (L : List Nat) : D := .tuple (L.map fun i => .tuple (L.map fun j => rq (M i j)))
def Lot (n : Nat) (L : List Nat) : Prop := L ≠ [] ∧ L.Pairwise (· < ·) ∧ ∀ i ∈ L, i < n
theorem m_between {x lo hi : Int} (h : lo ≤ x) (h' : x ≤ hi) : d_is_between [.d (.int x), .d (.int lo), .d (.int hi)] = .ok (.d (.bool true)) [none, none, none] := by
  apply eq_of
  unfold d_is_between
  rw [w_def]
  simp [m_is_whole, h, h']
theorem m_wrong {L : List Nat} (h : L.Pairwise (· < ·)) (hL : ∀ i ∈ L, i < n) : d_wrong_in_lot [.d (.int n), .d (lotD L)] = .ok (.d .none) [none, none] := by
  apply eq_of
  unfold d_wrong_in_lot
  rw [w_def]
  simp [lotD]
  refine for_inv (I := fun xs r => ∃ (k : Nat) (K : List Nat) (last : Int) (x y : Option Wv), xs = enumD k (K.map fun (i : Nat) => PyData.int (i : Int)) ∧ K.Pairwise (· < ·) ∧ (∀ i ∈ K, i < n ∧ last < (i : Int)) ∧ r = [some (.d (.int n)), some (.d (lotD L)), some (.d (.int last)), x, y]) ?_ ?_ _ _ ⟨0, L, -1, _, _, rfl, h, fun i hi => ⟨hL i hi, by omega⟩, rfl⟩
  · rintro r ⟨k, K, last, x, y, e, hp, hK, rfl⟩
    simp
  · rintro x xs r ⟨k, K, last, y, z, e, hp, hK, rfl⟩
    cases K with
    | nil => simp [enumD] at e
    | cons i K =>
      rw [List.map_cons, enumD] at e
      cases e
      have h1 := hK i (by simp)
      have c := m_between (x := i) (lo := last + 1) (hi := n - 1) (by omega) (by omega)
      simp [c]
      refine ⟨k + 1, K, rfl, (List.pairwise_cons.mp hp).2, fun j hj => ⟨(hK j (by simp [hj])).1, by have := (List.pairwise_cons.mp hp).1 j hj; omega⟩⟩
theorem shaped_tupI {xs : List Int} : SeqAt.shaped (.tuple (xs.map .int)) = true := by
  have h1 : PyData.canLayAll0 (xs.map .int) = true := by
    induction xs with
    | nil => rfl
    | cons x xs ih => rw [List.map_cons, PyData.canLayAll0, ih]; rfl
  have h2 : PyData.depthAll (xs.map .int) = 0 := by
    clear h1
    induction xs with
    | nil => rfl
    | cons x xs ih => rw [List.map_cons, PyData.depthAll, ih]; rfl
  unfold SeqAt.shaped
  rw [PyData.canLay0, h1, PyData.depth, h2]
  rfl
theorem m_check_lot {L : List Nat} (h : Lot n L) : d_check_lot [.d (.int n), .d (lotD L)] = .ok (.d .none) [none, none] := by
  apply eq_of
  unfold d_check_lot
  rw [w_def]
  have c := m_wrong h.2.1 h.2.2
  have e : pEq (lotD L) (.tuple []) = some (.d (.bool false)) := by
    have s1 : SeqAt.shaped (lotD L) = true := by
      have := shaped_tupI (xs := L.map fun (i : Nat) => (i : Int))
      rw [List.map_map] at this
      exact this
    cases L with
    | nil => exact absurd rfl h.1
    | cons x L =>
      show (if SeqAt.shaped (lotD (x :: L)) = true ∧ SeqAt.shaped (.tuple []) = true then _ else _) = _
      rw [if_pos ⟨s1, rfl⟩, lotD, List.map_cons, PyData.eqv, PyData.eqvAll]
  have i : isiD "tuple" (lotD L) = true := rfl
  simp [c, e, i]
theorem comp_list {α : Type} {t : TgF} {el : ES} {vs : List Nat} {PL : List Wv → Rho → Prop} {L : List α} {F : α → D} (Gf : α → D) (S : Rho → Prop) {ρ0 : Rho} (h0 : S ρ0) (hstep : ∀ i ∈ L, ∀ r, S r → ∃ r1, t (F i) (wipeR r vs) = some r1 ∧ Gs (el r1) fun w r3 => w = .d (Gf i) ∧ S r3)
    (hend : ∀ r, S r → PL (L.map fun i => .d (Gf i)) r) : Gs (compL vs t tYesB el (L.map F) ρ0) PL := by
  refine comp_inv (I := fun xs acc r => S r ∧ ∃ A B, L = A ++ B ∧ xs = B.map F ∧ acc = A.map (fun i => .d (Gf i))) ?_ ?_ ⟨h0, [], L, rfl, rfl, rfl⟩
  · rintro acc r ⟨hS, A, B, e, e2, rfl⟩
    have : B = [] := by simpa using e2.symm
    subst this
    rw [List.append_nil] at e
    subst e
    exact hend r hS
  · rintro x xs acc r ⟨hS, A, B, e, e2, rfl⟩
    cases B with
    | nil => simp at e2
    | cons y B =>
      rw [List.map_cons] at e2
      cases e2
      obtain ⟨r1, e1, q⟩ := hstep y (by rw [e]; simp) r hS
      refine ⟨r1, e1, ?_⟩
      rw [w_yes, if_pos rfl]
      exact q.mono fun w r3 ⟨e2, s3⟩ => ⟨s3, A ++ [y], B, by rw [e]; simp, rfl, by rw [e2]; simp⟩
theorem m_part_on {L : List Nat} (hn : n ≤ 6) (h : ∀ i ∈ L, i < n) (hl : L.length ≤ 1000) : d_part_on [.d (formF n M), .d (lotD L)] = .ok (.d (partD M L)) [none, none] := by
  apply eq_of
  unfold d_part_on
  rw [w_def]
  have ep : formF n M = .tuple ((List.range n).map fun i => rowF n (M i)) := rfl
  have er : ∀ i, rowF n (M i) = .tuple ((List.range n).map fun j => rq (M i j)) := fun _ => rfl
  have el : lotD L = .tuple (L.map fun (i : Nat) => .int (i : Int)) := rfl
  simp [ep, el]
  refine ⟨by omega, comp_list (fun i => .tuple (L.map fun j => rq (M i j))) (fun r => ∃ x y, r = [some (.d (formF n M)), some (.d (lotD L)), x, y]) ⟨_, _, rfl⟩ ?_ ?_⟩
  · rintro i hi r ⟨x, y, rfl⟩
    simp [ep, el]
    refine ⟨by omega, comp_list (fun j => rq (M i j)) (fun r => ∃ y, r = [some (.d (formF n M)), some (.d (lotD L)), some (.d (.int i)), y]) ⟨_, rfl⟩ ?_ ?_⟩
    · rintro j hj r ⟨y, rfl⟩
      have g1 : (List.range n)[i]? = some i := List.getElem?_range (h i hi)
      have g2 : (List.range n)[j]? = some j := List.getElem?_range (h j hj)
      simp [ep, er, g1, g2]
    · rintro r ⟨y, rfl⟩
      simp [ep, el]
  · rintro r ⟨x, y, rfl⟩
    simp [partD]
theorem m_part_of {L : List Nat} (h1 : 1 ≤ n) (hn : n ≤ 6) (hs : Sym n M) (h : Lot n L) (hl : L.length ≤ 1000) : d_part_of [.d (formF n M), .d (lotD L)] = .ok (.d (partD M L)) [none, none] := by
  apply eq_of
  unfold d_part_of
  rw [w_def]
  have c1 := m_part_on (M := M) hn h.2.2 hl
  have c2 := m_check_form h1 hn hs
  have c3 := m_check_lot h
  have pl : pLen [formF n M] = some (.d (.int n)) := by simp [formF]
  simp [c1, c2, c3, pl]
end LW

set_option Elab.async false
set_option linter.all false
set_option maxRecDepth 100000
set_option maxHeartbeats 1000001
namespace LW
open PySem PySem.Spec L2 FW
variable {P : Wv → Rho → Prop} {a b : Int} {p q : Rat} {d : D} {m n k l : Nat} {w : Wv} {M : Nat → Nat → Rat} {f g : Nat → Rat}
/-! ## drawn tables -/
def cellsW (n : Nat) (C : Nat → Nat → Int) : Wv := .o ((List.range n).map fun i => .o ((List.range n).map fun j => .d (.int (C i j))))
def upd2 (C : Nat → Nat → Int) (i j : Nat) (v : Int) : Nat → Nat → Int := fun a b => if a = i ∧ b = j then v else C a b
theorem map_set_rng {α : Type} {n i : Nat} {F : Nat → α} {x : α} (h : i < n) : ((List.range n).map F).set i x = (List.range n).map fun k => if k = i then x else F k := by
  apply List.ext_getElem
  · simp
  · intro j h1 h2
    simp at h1 h2
    rw [List.getElem_set]
    simp
    by_cases e : i = j
    · subst e; simp
    · rw [if_neg e, if_neg (fun z => e z.symm)]
theorem cells_at {C : Nat → Nat → Int} {i j : Nat} (hi : i < n) (hj : j < n) : ((atW (cellsW n C) (i : Int)).bind (atW · (j : Int))).bind datW = some (.int (C i j)) := by
  have g1 : (List.range n)[i]? = some i := List.getElem?_range hi
  have g2 : (List.range n)[j]? = some j := List.getElem?_range hj
  simp [cellsW, g1, g2]
theorem cells_set {C : Nat → Nat → Int} {i j : Nat} {v : Int} (hi : i < n) (hj : j < n) : set2W (cellsW n C) (i : Int) (j : Int) (.d (.int v)) = some (cellsW n (upd2 C i j v)) := by
  have g1 : (List.range n)[i]? = some i := List.getElem?_range hi
  have ix : ∀ {m k : Nat}, k < m → ixN m (k : Int) = some k := fun h => by
    unfold ixN; rw [if_pos (by omega), if_pos (by omega)]; simp
  unfold set2W cellsW
  simp only [List.length_map, List.length_range, ix hi, Option.bind_some, List.getElem?_map, g1, Option.map_some]
  rw [setW_o]
  simp [hj]
  rw [map_set_rng hi]
  refine List.map_congr_left fun a ha => ?_
  split
  · rename_i e
    subst e
    rw [map_set_rng hj]
    congr 1
    refine List.map_congr_left fun b hb => ?_
    unfold upd2
    by_cases e2 : b = j <;> simp [e2]
  · rename_i e
    congr 1
    refine List.map_congr_left fun b hb => ?_
    unfold upd2
    simp [e]
theorem cells_dat {C : Nat → Nat → Int} : (cellsW n C).dat = .list ((List.range n).map fun i => .list ((List.range n).map fun j => .int (C i j))) := by
  have go : ∀ xs : List Nat, Wv.dats (xs.map fun i => Wv.o ((List.range n).map fun j => .d (.int (C i j)))) = xs.map fun i => .list ((List.range n).map fun j => .int (C i j)) := by
    intro xs
    induction xs with
    | nil => simp
    | cons x xs ih => simp [ih]
  unfold cellsW
  rw [dat_o, go]
theorem cells_nos {C : Nat → Nat → Int} : (cellsW n C).nos = true := by
  have go : ∀ xs : List Nat, Wv.noss (xs.map fun i => Wv.o ((List.range n).map fun j => .d (.int (C i j)))) = true := by
    intro xs
    induction xs with
    | nil => simp
    | cons x xs ih => simp [ih]
  unfold cellsW
  rw [nos_o, go]
theorem m_table {C : Nat → Nat → Int} {dn : Int} (hn : n ≤ 6) (hd : 0 < dn) (hd2 : dn ≤ 1000) (hC : ∀ i < n, ∀ j < n, (C i j).natAbs < 2 ^ 31) : d__law_table [.d (.list ((List.range n).map fun i => .list ((List.range n).map fun j => .int (C i j)))), .d (.int dn)] = .ok (.d (formF n fun i j => Rat.divInt (C i j) dn)) [none, none] := by
  apply eq_of
  unfold d__law_table
  rw [w_def]
  have bd : big dn < 9000 := Nat.lt_trans (big31 (by omega) (by omega)) (by decide)
  have dz : dn ≠ 0 := by omega
  simp
  refine ⟨by omega, comp_rows (fun i => rowF n fun j => Rat.divInt (C i j) dn) (fun r => ∃ x y, r = [some (.d (.list ((List.range n).map fun i => .list ((List.range n).map fun j => .int (C i j))))), some (.d (.int dn)), x, y]) ⟨_, _, rfl⟩ ?_ ?_⟩
  · rintro i hi r ⟨x, y, rfl⟩
    simp
    refine ⟨by omega, comp_rows (fun j => rq (Rat.divInt (C i j) dn)) (fun r => ∃ y, r = [some (.d (.list ((List.range n).map fun i => .list ((List.range n).map fun j => .int (C i j))))), some (.d (.int dn)), some (.d (.list ((List.range n).map fun j => .int (C i j)))), y]) ⟨_, rfl⟩ ?_ ?_⟩
    · rintro j hj r ⟨y, rfl⟩
      have c := m_law_frac (a := C i j) dz (Nat.lt_trans (big_lt (hC i hi j hj) (by decide)) (by decide)) bd
      simp [c]
    · rintro r ⟨y, rfl⟩
      simp [rowF]
  · rintro r ⟨x, y, rfl⟩
    simp [formF]
/-- a drawn lot -/
theorem spots_spec (hk : Dk w) (h1 : 1 ≤ n) (hn : n ≤ 6) : Gs (d__law_spots [w, .d (.int n)]) (fun v r => ∃ L : List Nat, v = .d (lotD L) ∧ Lot n L ∧ L.length ≤ n ∧ ∃ w', r = [some w', none] ∧ Dk w') := by
  unfold d__law_spots
  rw [w_def]
  simp
  refine (wholes_spec hk (by omega) (by decide) (by decide)).mono ?_
  rintro v r ⟨F, rfl, hF, w2, rfl, hw2⟩
  simp
  refine (roll_spec hw2 (wd := n) (by omega) (by omega)).mono ?_
  rintro v r ⟨i, w3, rfl, hi, rfl, hw3⟩
  obtain ⟨t, rfl⟩ := Int.eq_ofNat_of_zero_le hi.1
  have ht : t < n := by omega
  simp [ht]
  rw [map_set_rng ht]
  let Kp : Nat → Bool := fun k => decide (k = t ∨ F k = 1)
  refine ⟨by omega, by rw [rngD_len]; omega, ?_⟩
  rw [rngD_eq]
  refine comp_inv (I := fun xs acc r => ∃ j, j ≤ n ∧ xs = ((List.range n).map fun (j : Nat) => PyData.int (j : Int)).drop j ∧ acc = ((List.range j).filter Kp).map (fun (i : Nat) => Wv.d (.int (i : Int))) ∧ ∃ x, r = [some w3, some (.d (.int n)), some (.o ((List.range n).map fun k => if k = t then Wv.d (.int 1) else .d (.int (F k)))), x]) ?_ ?_ ⟨0, by omega, by simp, rfl, _, rfl⟩
  · rintro acc r ⟨j, hj, e, rfl, x, rfl⟩
    have ej : j = n := by
      have := congrArg List.length e
      simp at this
      omega
    subst ej
    simp
    refine ⟨(List.range j).filter Kp, ?_, ⟨?_, ?_, ?_⟩, ?_, hw3⟩
    · rfl
    · intro z
      have : t ∈ (List.range j).filter Kp := List.mem_filter.mpr ⟨List.mem_range.mpr ht, by simp [Kp]⟩
      rw [z] at this; cases this
    · exact List.Pairwise.filter _ (List.pairwise_lt_range)
    · intro i hi
      exact List.mem_range.mp (List.mem_filter.mp hi).1
    · exact Nat.le_trans (List.length_filter_le _ _) (by simp)
  · rintro x xs acc r ⟨j, hj, e, rfl, u, rfl⟩
    have hlt : j < n := by
      have := congrArg List.length e
      simp at this
      omega
    have ex : ((List.range n).map fun (j : Nat) => PyData.int (j : Int)).drop j = PyData.int (j : Int) :: ((List.range n).map fun (j : Nat) => PyData.int (j : Int)).drop (j + 1) := by
      rw [List.drop_eq_getElem_cons (by simp; omega)]
      simp
    rw [ex] at e
    cases e
    have g1 : (List.range n)[j]? = some j := List.getElem?_range hlt
    by_cases ej : j = t
    · subst ej
      simp [g1]
      refine ⟨j + 1, by omega, by simp, ?_⟩
      rw [List.range_succ, List.filter_append]
      simp [Kp]
    · by_cases e1 : F j = 1
      · simp [g1, ej, e1]
        refine ⟨j + 1, by omega, by simp, ?_⟩
        rw [List.range_succ, List.filter_append]
        simp [Kp, e1]
      · simp [g1, ej, e1]
        refine ⟨j + 1, by omega, by simp, ?_⟩
        rw [List.range_succ, List.filter_append]
        simp [Kp, e1, ej]
/-- a drawn row -/
theorem line_spec (hk : Dk w) (hn : n ≤ 6) : Gs (d__law_line [w, .d (.int n)]) (fun v r => ∃ g : Nat → Rat, v = .d (rowF n g) ∧ (∀ i, Sz 32 (g i)) ∧ ∃ w', r = [some w', none] ∧ Dk w') := by
  unfold d__law_line
  rw [w_def]
  have lst : ∀ {Q : Wv → Rho → Prop}, (∀ gr w', (gr = 1 ∨ gr = 1000000007) → Dk w' → Q (.d (.int gr)) [some w', none]) → Gs (d__law_pick [w, .o [.d (.int 1), .d (.int 1), .d (.int 1), .d (.int 1000000007)]]) Q := by
    intro Q h
    refine (pick_spec hk (xs := [1, 1, 1, 1000000007]) (by simp) (by simp)).mono ?_
    rintro v r ⟨i, hi, w', rfl, rfl, hw⟩
    exact h i w' (by simpa using hi) hw
  simp
  refine lst ?_
  intro gr w1 hgr hw1
  simp
  refine ⟨by omega, ?_⟩
  refine for_rng (m := n) (lo := 0) (I := fun j r => ∃ (g : Nat → Rat) (w' : Wv) (x y : Option Wv), (∀ i, Sz 32 (g i)) ∧ Dk w' ∧ r = [some w', some (.d (.int n)), some (.o ((List.range j).map fun i => .d (rq (g i)))), some (.d (.int gr)), x, y]) ?_ ?_ ⟨fun _ => 0, w1, _, _, fun _ => sz_zero.mono (by decide), hw1, rfl⟩
  · rintro r ⟨g, w', x, y, hg, hw, rfl⟩
    simp
    exact ⟨g, rfl, hg, hw⟩
  · rintro j r hj ⟨g, w', x, y, hg, hw, rfl⟩
    simp
    refine (roll_spec hw (wd := 9) (by decide) (by decide)).mono ?_
    rintro v r ⟨i, w2, rfl, hi, rfl, hw2⟩
    simp
    have bi : big (i - 4) < 4 := big_lt (n := 4) (by omega) (by decide)
    have bg : big gr < 31 := big31 (by rcases hgr with e | e <;> omega) (by rcases hgr with e | e <;> omega)
    have bb : big (i - 4) + big gr < 1000000 := by omega
    simp [bb]
    refine (roll_spec hw2 (wd := 3) (by decide) (by decide)).mono ?_
    rintro v r ⟨i2, w3, rfl, hi2, rfl, hw3⟩
    have na : ((i - 4) * gr).natAbs < 2 ^ 32 := by
      rw [Int.natAbs_mul]
      have h1 : (i - 4).natAbs ≤ 4 := by omega
      have h2 : gr.natAbs ≤ 1000000007 := by rcases hgr with e | e <;> omega
      have := Nat.mul_le_mul h1 h2
      have e : (2 : Nat) ^ 32 = 4294967296 := by decide
      omega
    have nb : (1 + i2).natAbs < 2 ^ 32 := by
      have e : (2 : Nat) ^ 32 = 4294967296 := by decide
      omega
    have nz : 1 + i2 ≠ 0 := by omega
    have c := m_law_frac (a := (i - 4) * gr) nz (Nat.lt_trans (big_lt na (by decide)) (by decide)) (Nat.lt_trans (big_lt nb (by decide)) (by decide))
    simp [c]
    refine ⟨by omega, fun k => if k = j then Rat.divInt ((i - 4) * gr) (1 + i2) else g k, ?_, w3, hw3, ⟨rfl, ?_⟩⟩
    · intro k
      show Sz 32 (if k = j then _ else g k)
      split
      · exact sz_divInt nz na nb
      · exact hg k
    · rw [List.range_succ, List.map_append]
      congr 1
      · refine List.map_congr_left fun k hk => ?_
        have : k ≠ j := by have := List.mem_range.mp hk; omega
        simp [this]
      · simp
/-- the deck -/
theorem deck_spec {ns : List Int} {t : Nat} (ht : t < 3) : Gs (d__law_deck [.s ns, .d (.int t), .d (.int 2203)]) (fun v r => Dk v ∧ r = [some (.s ns), none, none]) := by
  unfold d__law_deck
  rw [w_def]
  have b1 : big 104651 < 31 := by decide
  have b2 : big (t : Int) < 31 := big31 (by omega) (by omega)
  have b3 : big 104651 + big (t : Int) < 1000000 := by omega
  have b4 : big 48073 < 31 := by decide
  have b5 : big 3 < 31 := by decide
  simp [b3]
  refine for_inv (I := fun xs r => (∀ x ∈ xs, ∃ i : Int, x = .int i) ∧ ∃ (mx : Int) (x y : Option Wv), (0 ≤ mx ∧ mx < 2147483648) ∧ r = [some (.s ns), some (.d (.int t)), some (.d (.int 2203)), some (.d (.int mx)), x, y]) ?_ ?_ _ _ ⟨?_, 2203 + 104651 * t, _, _, by omega, rfl⟩
  · rintro r ⟨_, mx, x, y, hm, rfl⟩
    have key : ∀ e : Int, 0 ≤ e → Dk (.o [.d (.int (if 10 ^ 18 ≤ e then e else 0)), .d (.int mx), .d (.int 2203)]) := fun e he => ⟨_, _, _, rfl, by split <;> omega, hm, by omega⟩
    by_cases h : t < ns.length
    · have h2 : (t : Int) < ns.length := by omega
      have e0 : ∀ x : Int, 0 ≤ (if x < 0 then -x else x) := fun x => by split <;> omega
      have kk := key _ (e0 ns[t])
      simp [h, h2, List.getElem?_eq_getElem h]
      by_cases hc : (10 : Int) ^ 18 ≤ (if ns[t] < 0 then -ns[t] else ns[t])
      · rw [if_pos hc] at kk
        exact .inr ⟨hc, kk⟩
      · rw [if_neg hc] at kk
        exact .inl ⟨by omega, kk⟩
    · have h2 : ¬ (t : Int) < ns.length := by omega
      have kk := key 0 (by omega)
      simp at kk
      simp [h, h2]
      exact kk
  · rintro x xs r ⟨hx, mx, y, z, hm, rfl⟩
    obtain ⟨i, rfl⟩ := hx x (by simp)
    have b6 := big31 hm.1 hm.2
    have b7 : big mx + big 48073 < 1000000 := by omega
    have hf := fmod_rng (a := i) (b := 1000000093) (by decide)
    have b8 : big (i.fmod 1000000093) < 31 := big31 hf.1 (by omega)
    have b9 : big (i.fmod 1000000093) + big 3 < 1000000 := by omega
    have h3 := fmod_rng (a := mx * 48073 + i.fmod 1000000093 * 3 + 77) (b := 2147483629) (by decide)
    simp [b7, b9]
    exact ⟨fun x hx' => hx x (by simp [hx']), h3.1, by omega⟩
  · intro x hx
    obtain ⟨i, _, rfl⟩ := List.mem_map.mp hx
    exact ⟨i, rfl⟩
end LW

set_option Elab.async false
set_option linter.all false
set_option maxRecDepth 100000
set_option maxHeartbeats 1000001
namespace LW
open PySem PySem.Spec L2 FW
variable {P : Wv → Rho → Prop} {a b : Int} {p q : Rat} {d : D} {m n k l : Nat} {w : Wv} {M : Nat → Nat → Rat} {f g : Nat → Rat}
/-- a table of whole numbers alike on both sides, none above B -/
def Tb (B : Nat) (C : Nat → Nat → Int) : Prop := (∀ i j, C i j = C j i) ∧ ∀ i j, (C i j).natAbs ≤ B
theorem Tb.mono {A B : Nat} {C : Nat → Nat → Int} (h : Tb A C) (l : A ≤ B) : Tb B C := ⟨h.1, fun i j => Nat.le_trans (h.2 i j) l⟩
theorem tb_upd {A B : Nat} {C : Nat → Nat → Int} {i j : Nat} {v : Int} (h : Tb A C) (hv : v.natAbs ≤ B) (l : A ≤ B) : Tb B (upd2 (upd2 C i j v) j i v) := by
  refine ⟨fun a b => ?_, fun a b => ?_⟩
  · unfold upd2
    by_cases h1 : a = j ∧ b = i
    · rw [if_pos h1]
      by_cases h2 : b = j ∧ a = i
      · rw [if_pos h2]
      · rw [if_neg h2, if_pos ⟨h1.2, h1.1⟩]
    · rw [if_neg h1]
      by_cases h2 : a = i ∧ b = j
      · rw [if_pos h2, if_pos ⟨h2.2, h2.1⟩]
      · rw [if_neg h2]
        rw [if_neg (fun z => h2 ⟨z.2, z.1⟩), if_neg (fun z => h1 ⟨z.2, z.1⟩)]
        exact h.1 a b
  · unfold upd2
    split
    · exact hv
    · split
      · exact hv
      · exact Nat.le_trans (h.2 a b) l
theorem via {α : Type} {o : Out α} {Q : α → Rho → Prop} (P : α → Rho → Prop) (h : Gs o P) (k : ∀ fl r, P fl r → Q fl r) : Gs o Q := h.mono k
theorem comp_rowsW {t : TgF} {el : ES} {vs : List Nat} {PL : List Wv → Rho → Prop} {n : Nat} {F : Nat → D} (Gf : Nat → Wv) (S : Rho → Prop) {ρ0 : Rho} (h0 : S ρ0) (hstep : ∀ i < n, ∀ r, S r → ∃ r1, t (F i) (wipeR r vs) = some r1 ∧ Gs (el r1) fun w r3 => w = Gf i ∧ S r3)
    (hend : ∀ r, S r → PL ((List.range n).map Gf) r) : Gs (compL vs t tYesB el ((List.range n).map F) ρ0) PL := by
  refine comp_inv (I := fun xs acc r => S r ∧ ∃ j, j ≤ n ∧ xs = ((List.range n).map F).drop j ∧ acc = (List.range j).map Gf) ?_ ?_ ⟨h0, 0, by omega, by simp, rfl⟩
  · rintro acc r ⟨hS, j, hj, e, rfl⟩
    have ej : j = n := by
      have := congrArg List.length e
      simp at this
      omega
    subst ej
    exact hend r hS
  · rintro x xs acc r ⟨hS, j, hj, e, rfl⟩
    have hlt : j < n := by
      have := congrArg List.length e
      simp at this
      omega
    have ex : ((List.range n).map F).drop j = F j :: ((List.range n).map F).drop (j + 1) := by
      rw [List.drop_eq_getElem_cons (by simp; omega)]
      simp
    rw [ex] at e
    cases e
    obtain ⟨r1, e1, q⟩ := hstep j hlt r hS
    refine ⟨r1, e1, ?_⟩
    rw [w_yes, if_pos rfl]
    exact q.mono fun w r3 ⟨e2, s3⟩ => ⟨s3, j + 1, by omega, by simp, by rw [e2]; simp [List.range_succ]⟩
theorem rep_rng {x : D} {n : Nat} : (List.replicate n [x]).flatten.map Wv.d = (List.range n).map fun _ => Wv.d x := by
  induction n with
  | zero => rfl
  | succ n ih => rw [List.replicate_succ', List.flatten_append, List.map_append, ih, List.range_succ, List.map_append]; rfl
abbrev St (n : Nat) (way dn : Int) (C : Nat → Nat → Int) (w' : Wv) (x4 x6 x7 x8 x9 : Option Wv) : Rho := [some w', some (.d (.int n)), some (.d (.int way)), some (.d (.int dn)), x4, some (cellsW n C), x6, x7, x8, x9]
structure Fm0 (n : Nat) (way dn : Int) (w' : Wv) (r : Rho) : Prop where
  hw : 0 ≤ way ∧ way < 6
  hd : 1 ≤ dn ∧ dn ≤ 3
  dk : Dk w'
  e : r = [some w', some (.d (.int n)), some (.d (.int way)), some (.d (.int dn)), none, none, none, none, none, none]
structure Fm (n : Nat) (way dn : Int) (B : Nat) (r : Rho) : Prop where
  ex : ∃ C w' x4 x6 x7 x8 x9, Tb B C ∧ Dk w' ∧ r = St n way dn C w' x4 x6 x7 x8 x9
structure Fm4 (n i : Nat) (way dn : Int) (B : Nat) (r : Rho) : Prop where
  ex : ∃ C w' x6 x7 x8 x9, Tb B C ∧ Dk w' ∧ r = St n way dn C w' (some (.d (.int i))) x6 x7 x8 x9
structure FmL (n : Nat) (way dn : Int) (C : Nat → Nat → Int) (F : Nat → Int) (w' : Wv) (r : Rho) : Prop where
  ex : ∃ x4 x6 x8 x9, r = St n way dn C w' x4 x6 (some (.o ((List.range n).map fun i => .d (.int (F i))))) x8 x9
structure FmJ (n i j : Nat) (way dn : Int) (C : Nat → Nat → Int) (r : Rho) : Prop where
  ex : ∃ mr w' x6 x7, mr.natAbs ≤ 3 ∧ Dk w' ∧ r = St n way dn C w' (some (.d (.int i))) x6 x7 (some (.d (.int j))) (some (.d (.int mr)))
theorem form_spec (hk : Dk w) (h1 : 1 ≤ n) (hn : n ≤ 6) : Gs (d__law_form [w, .d (.int n)]) (fun v r => ∃ M : Nat → Nat → Rat, v = .d (formF n M) ∧ Sym n M ∧ (∀ i < n, ∀ j < n, Sz 7 (M i j)) ∧ ∃ w', r = [some w', none] ∧ Dk w') := by
  unfold d__law_form
  rw [w_def]
  have lst : ∀ {w : Wv} (_ : Dk w) {Q : Wv → Rho → Prop}, (∀ dn w', (1 ≤ dn ∧ dn ≤ 3) → Dk w' → Q (.d (.int dn)) [some w', none]) → Gs (d__law_pick [w, .o [.d (.int 1), .d (.int 1), .d (.int 1), .d (.int 2), .d (.int 3)]]) Q := by
    intro w hk Q h
    refine (pick_spec hk (xs := [1, 1, 1, 2, 3]) (by simp) (by simp)).mono ?_
    rintro v r ⟨i, hi, w', rfl, rfl, hw⟩
    exact h i w' (by simp at hi; omega) hw
  refine ⟨rfl, ?_⟩
  -- way, down
  rw [w_cons]
  refine via (fun fl r => fl = Fl.nx ∧ ∃ way dn w', Fm0 n way dn w' r) ?_ ?_
  · simp
    refine (roll_spec hk (wd := 6) (by decide) (by decide)).mono ?_
    rintro v r ⟨way, w1, rfl, hway, rfl, hw1⟩
    simp
    refine lst hw1 fun dn w2 hdn hw2 => ?_
    simp
    exact ⟨way, dn, w2, hway, hdn, hw2, rfl⟩
  rintro fl r ⟨rfl, way, dn, w1, hway, hdn, hw1, rfl⟩
  -- the empty cells
  rw [nxt_nx, w_cons]
  refine via (fun fl r => fl = Fl.nx ∧ Fm n way dn 0 r) ?_ ?_
  · simp
    refine ⟨by omega, by rw [rngD_len]; omega, ?_⟩
    rw [rngD_eq]
    refine comp_rowsW (fun i => .o ((List.range n).map fun j => .d (.int 0))) (fun r => ∃ x4, r = [some w1, some (.d (.int n)), some (.d (.int way)), some (.d (.int dn)), x4, none, none, none, none, none]) ⟨_, rfl⟩ ?_ ?_
    · rintro i hi r ⟨x4, rfl⟩
      have z : (List.replicate n [PyData.int 0]).flatten.map Wv.d = (List.range n).map fun _ => Wv.d (.int 0) := rep_rng
      have n1 : (n : Int) ≤ 1000 := by omega
      have n2 : (0 : Int) ≤ n := by omega
      simp [n1, n2]
      simpa using z
    · rintro r ⟨x4, rfl⟩
      simp
      exact ⟨fun _ _ => 0, w1, _, _, _, _, _, ⟨fun _ _ => rfl, fun _ _ => by simp⟩, hw1, rfl⟩
  rintro fl r ⟨rfl, C0, w1, x4, x6, x7, x8, x9, hC0, hw1, rfl⟩
  -- squares
  rw [nxt_nx, w_cons]
  refine via (fun fl r => fl = Fl.nx ∧ Fm n way dn 8 r) ?_ ?_
  · have stay : Fm n way dn 8 (St n way dn C0 w1 x4 x6 x7 x8 x9) := ⟨_, _, _, _, _, _, _, hC0.mono (by decide), hw1, rfl⟩
    rw [w_ite]
    refine via (fun b r => r = St n way dn C0 w1 x4 x6 x7 x8 x9) ?_ ?_
    · by_cases e1 : way = 1
      · simp [e1]
      · by_cases e3 : way = 3 <;> simp [e1, e3]
    rintro bb r rfl
    cases bb with
    | false => simp; exact stay
    | true =>
      rw [if_pos rfl]
      simp
      refine (roll_spec hw1 (wd := 2) (by decide) (by decide)).mono ?_
      rintro v r ⟨tn, w2, rfl, htn, rfl, hw2⟩
      simp
      refine ⟨by omega, ?_⟩
      refine for_rng (m := (1 + tn).toNat) (lo := 0) (I := fun j r => Fm n way dn (4 * j) r) ?_ ?_ ⟨C0, w2, x4, x6, x7, x8, x9, hC0, hw2, rfl⟩
      · rintro r ⟨C, w', y4, y6, y7, y8, y9, hC, hw, rfl⟩
        exact ⟨rfl, C, w', y4, y6, y7, y8, y9, hC.mono (by omega), hw, rfl⟩
      · rintro j r hj ⟨C, w', y4, y6, y7, y8, y9, hC, hw, rfl⟩
        simp
        refine (wholes_spec hw (lo := -1) (wd := 4) (by omega) (by decide) (by decide)).mono ?_
        rintro v r ⟨F, rfl, hF, w3, rfl, hw3⟩
        simp
        refine ⟨by omega, by rw [rngD_len]; omega, ?_⟩
        rw [rngD_eq]
        refine comp_rowsW (fun i => .o ((List.range n).map fun j => .d (.int (C i j + F i * F j)))) (FmL n way dn C F w3) ⟨_, _, _, _, rfl⟩ ?_ ?_
        · rintro i hi r ⟨z4, z6, z8, z9, rfl⟩
          simp
          refine ⟨by omega, by rw [rngD_len]; omega, ?_⟩
          rw [rngD_eq]
          refine comp_rowsW (fun j => .d (.int (C i j + F i * F j))) (fun r => ∃ y8, r = St n way dn C w3 (some (.d (.int i))) z6 (some (.o ((List.range n).map fun i => .d (.int (F i))))) y8 z9) ⟨_, rfl⟩ ?_ ?_
          · rintro k hk r ⟨y8, rfl⟩
            have g1 : (List.range n)[i]? = some i := List.getElem?_range hi
            have g2 : (List.range n)[k]? = some k := List.getElem?_range hk
            have bF : ∀ i, big (F i) < 3 := fun i => big_lt (n := 3) (by have := hF i; omega) (by decide)
            have bb : big (F i) + big (F k) < 1000000 := by have := bF i; have := bF k; omega
            simp [cells_at hi hk, g1, g2, bb]
          · rintro r ⟨y8, rfl⟩
            simp
            exact ⟨_, _, _, _, rfl⟩
        · rintro r ⟨z4, z6, z8, z9, rfl⟩
          simp
          refine ⟨fun i j => C i j + F i * F j, w3, _, _, _, _, _, ⟨fun a b => ?_, fun a b => ?_⟩, hw3, rfl⟩
          · show C a b + F a * F b = C b a + F b * F a
            rw [hC.1 a b, Int.mul_comm]
          · show (C a b + F a * F b).natAbs ≤ 4 * (j + 1)
            have u1 := hF a
            have u2 := hF b
            have u3 : (F a * F b).natAbs ≤ 4 := by
              rw [Int.natAbs_mul]
              exact Nat.mul_le_mul (show (F a).natAbs ≤ 2 by omega) (show (F b).natAbs ≤ 2 by omega)
            have u4 := hC.2 a b
            omega
  rintro fl r ⟨rfl, C1, w1, x4, x6, x7, x8, x9, hC1, hw1, rfl⟩
  -- more on both sides
  rw [nxt_nx, w_cons]
  refine via (fun fl r => fl = Fl.nx ∧ Fm n way dn 116 r) ?_ ?_
  · simp only [w_for]
    simp
    refine ⟨by omega, for_rng (m := n) (lo := 0) (I := fun i r => Fm n way dn (8 + 18 * i) r) ?_ ?_ ⟨C1, w1, x4, x6, x7, x8, x9, hC1, hw1, rfl⟩⟩
    · rintro r ⟨C, w', y4, y6, y7, y8, y9, hC, hw, rfl⟩
      exact ⟨rfl, C, w', y4, y6, y7, y8, y9, hC.mono (by omega), hw, rfl⟩
    · rintro i r hi ⟨C, w', y4, y6, y7, y8, y9, hC, hw, rfl⟩
      refine ⟨St n way dn C w' (some (.d (.int i))) y6 y7 y8 y9, by simp, ?_⟩
      simp only [w_for]
      simp
      refine ⟨⟨by omega, by omega⟩, for_rng (m := n - i) (lo := (i : Int)) (I := fun jj r => Fm4 n i way dn (8 + 18 * i + 3 * jj) r) ?_ ?_ ⟨C, w', y6, y7, y8, y9, hC, hw, rfl⟩⟩
      · rintro r ⟨C, w', y6, y7, y8, y9, hC, hw, rfl⟩
        exact ⟨C, w', _, y6, y7, y8, y9, hC.mono (by omega), hw, rfl⟩
      · rintro jj r hjj ⟨C, w', y6, y7, y8, y9, hC, hw, rfl⟩
        have hj : i + jj < n := by omega
        generalize hjd : i + jj = j at hj
        refine ⟨St n way dn C w' (some (.d (.int i))) y6 y7 (some (.d (.int j))) y9, by simp; omega, ?_⟩
        rw [w_cons]
        refine via (fun fl r => fl = Fl.nx ∧ r = St n way dn C w' (some (.d (.int i))) y6 y7 (some (.d (.int j))) (some (.d (.int 0)))) (by simp) ?_
        rintro fl r ⟨rfl, rfl⟩
        rw [nxt_nx, w_cons]
        refine via (fun fl r => fl = Fl.nx ∧ FmJ n i j way dn C r) ?_ ?_
        · have fin : ∀ (mr : Int) (w2 : Wv), mr.natAbs ≤ 3 → Dk w2 → FmJ n i j way dn C (St n way dn C w2 (some (.d (.int i))) y6 y7 (some (.d (.int j))) (some (.d (.int mr)))) := fun mr w2 h1 h2 => ⟨mr, w2, y6, y7, h1, h2, rfl⟩
          have cs : way = 0 ∨ way = 1 ∨ way = 2 ∨ way = 3 ∨ way = 4 ∨ way = 5 := by omega
          rcases cs with rfl | rfl | rfl | rfl | rfl | rfl
          · simp
            refine (roll_spec hw (wd := 6) (by decide) (by decide)).mono ?_
            rintro v r ⟨t, w3, rfl, ht, rfl, hw3⟩
            simp
            exact fin _ _ (by omega) hw3
          · simp
            exact fin 0 w' (by decide) hw
          · simp
            refine (roll_spec hw (wd := 3) (by decide) (by decide)).mono ?_
            rintro v r ⟨t, w3, rfl, ht, rfl, hw3⟩
            simp
            exact fin _ _ (by omega) hw3
          · simp
            refine (roll_spec hw (wd := 3) (by decide) (by decide)).mono ?_
            rintro v r ⟨t, w3, rfl, ht, rfl, hw3⟩
            simp
            exact fin _ _ (by omega) hw3
          · have rl : ∀ {Q : Wv → Rho → Prop}, (∀ t w3, (0 ≤ t ∧ t < 3) → Dk w3 → Q (.d (.int t)) [some w3, none]) → Gs (d__law_roll [w', .d (.int 3)]) Q := fun h => (roll_spec hw (wd := 3) (by decide) (by decide)).mono (by
              rintro v r ⟨t, w3, rfl, ht, rfl, hw3⟩
              exact h t w3 ht hw3)
            by_cases eij : i = j
            · simp [eij]
              subst eij
              exact fin 1 w' (by decide) hw
            · have eij2 : ¬ (i : Int) = j := by omega
              simp [eij, eij2]
              refine rl fun t w3 ht hw3 => ?_
              simp
              exact fin _ _ (by omega) hw3
          · simp
            refine (roll_spec hw (wd := 4) (by decide) (by decide)).mono ?_
            rintro v r ⟨t, w3, rfl, ht, rfl, hw3⟩
            have b3 : big 3 < 9000 := by decide
            have tt : t = 0 ∨ t = 1 ∨ t = 2 ∨ t = 3 := by omega
            simp [b3]
            refine fin _ _ ?_ hw3
            rcases tt with rfl | rfl | rfl | rfl <;> decide
        rintro fl r ⟨rfl, mr, w2, z6, z7, hmr, hw2, rfl⟩
        rw [nxt_nx]
        have hij : (C i j + mr).natAbs ≤ 8 + 18 * i + 3 * jj + 3 := by have := hC.2 i j; omega
        have e0 : upd2 C i j (C i j + mr) i j = C i j + mr := by unfold upd2; rw [if_pos ⟨rfl, rfl⟩]
        simp [cells_at hi hj, cells_set hi hj, cells_set hj hi, e0]
        exact ⟨_, w2, _, _, _, _, tb_upd hC hij (by omega), hw2, rfl⟩
  rintro fl r ⟨rfl, C2, w2, x4, x6, x7, x8, x9, hC2, hw2, rfl⟩
  rw [nxt_nx]
  have c := m_table (n := n) (C := C2) (dn := dn) hn (by omega) (by omega) (fun i _ j _ => by have := hC2.2 i j; have e : (2 : Nat) ^ 31 = 2147483648 := (by decide); omega)
  simp [cells_nos, cells_dat, c]
  refine ⟨fun i j => Rat.divInt (C2 i j) dn, rfl, fun i _ j _ => congrArg (fun z => Rat.divInt z dn) (hC2.1 i j), fun i _ j _ => sz_divInt (by omega) ?_ ?_, hw2⟩
  · have := hC2.2 i j
    have e : (2 : Nat) ^ 7 = 128 := by decide
    omega
  · have e : (2 : Nat) ^ 7 = 128 := by decide
    omega
end LW

set_option Elab.async false
set_option linter.all false
set_option maxRecDepth 100000
set_option maxHeartbeats 2000001
namespace LW
open PySem PySem.Spec L2 FW
variable {P : Wv → Rho → Prop} {a b : Int} {p q : Rat} {d : D} {m n k l : Nat} {w : Wv} {M : Nat → Nat → Rat} {f g : Nat → Rat}
theorem dot_sym (hs : Sym n M) : dotR n f (ledR n M g) = dotR n g (ledR n M f) := by
  unfold dotR ledR
  have e1 : ∀ (f g : Nat → Rat), sumR n (fun i => f i * sumR n fun j => M i j * g j) = sumR n fun i => sumR n fun j => f i * (M i j * g j) := fun f g => sumR_congr fun i _ => sumR_mul.symm
  rw [e1, e1, sumR_swap]
  refine sumR_congr fun i hi => sumR_congr fun j hj => ?_
  rw [hs j hj i hi]
  grind
theorem m_law_worth {k l : Nat} (hn : n ≤ 6) (h : ∀ i < n, ∀ j < n, Sz k (M i j)) (h' : ∀ i < n, Sz l (g i)) (hk : lb n k l + 1 + k + l ≤ 9000) (hk2 : lb n l (lb n k l) + 1 + l + lb n k l ≤ 9000) :
    d__law_worth [.d (formF n M), .d (rowF n g)] = .ok (.d (rq (dotR n g (ledR n M g)))) [none, none] := by
  apply eq_of
  unfold d__law_worth
  rw [w_def]
  have c1 := m_law_led hn h h' (by unfold lb at hk; omega)
  have c2 := m_law_dot (f := g) (g := ledR n M g) h' (sz_led h h') (by unfold lb at hk2 ⊢; omega)
  simp [c1]
  rw [show (rowF n fun i => sumR n fun j => M i j * g j) = rowF n (ledR n M g) from rfl, c2]
  simp [dotR]
theorem lot_rp {L : List Nat} (h : Lot n L) (hn : n ≤ 6) (hl : L.length ≤ n) (hM : ∀ i < n, ∀ j < n, Sz 7 (M i j)) : Rp 3 150 (partD M L) := by
  have r1 : ∀ i ∈ L, Rp 2 18 (.tuple (L.map fun j => rq (M i j))) := fun i hi => by
    refine Rp.tuple (dp := 1) (bk := 2) (n := 6) (fun x hx => ?_) (by simp; omega)
    obtain ⟨j, hj, rfl⟩ := List.mem_map.mp hx
    exact Rp.rq (hM i (h.2.2 i hi) j (h.2.2 j hj)) (by decide)
  refine (Rp.tuple (dp := 2) (bk := 18) (n := 6) (fun x hx => ?_) (by simp; omega)).mono (Nat.le_refl _) (by decide)
  obtain ⟨i, hi, rfl⟩ := List.mem_map.mp hx
  exact r1 i hi
/-- what one turn of the law has drawn -/
structure Dr5 (ns : List Int) (t n : Nat) (M : Nat → Nat → Rat) (f g : Nat → Rat) (L : List Nat) : Prop where
  n1 : 1 ≤ n
  n6 : n ≤ 6
  sy : Sym n M
  sM : ∀ i < n, ∀ j < n, Sz 7 (M i j)
  sf : ∀ i, Sz 32 (f i)
  sg : ∀ i, Sz 32 (g i)
  lt : Lot n L
  ll : L.length ≤ n
structure Ls (ns : List Int) (r : Rho) : Prop where
  ex : ∃ x1 x2 x3 x4 x5 x6 x7 x8 x9 x10 x11 x12 x13 x14, r = [some (.s ns), x1, x2, x3, x4, x5, x6, x7, x8, x9, x10, x11, x12, x13, x14]
structure L1 (ns : List Int) (t : Nat) (r : Rho) : Prop where
  ex : ∃ w x3 x4 x5 x6 x7 x8 x9 x10 x11 x12 x13 x14, Dk w ∧ r = [some (.s ns), some (.d (.int t)), some w, x3, x4, x5, x6, x7, x8, x9, x10, x11, x12, x13, x14]
structure L2' (ns : List Int) (t n : Nat) (r : Rho) : Prop where
  ex : ∃ w x4 x5 x6 x7 x8 x9 x10 x11 x12 x13 x14, (1 ≤ n ∧ n ≤ 6) ∧ Dk w ∧ r = [some (.s ns), some (.d (.int t)), some w, some (.d (.int n)), x4, x5, x6, x7, x8, x9, x10, x11, x12, x13, x14]
structure L3 (ns : List Int) (t n : Nat) (M : Nat → Nat → Rat) (r : Rho) : Prop where
  sy : Sym n M
  sM : ∀ i < n, ∀ j < n, Sz 7 (M i j)
  ex : ∃ w x5 x6 x7 x8 x9 x10 x11 x12 x13 x14, Dk w ∧ r = [some (.s ns), some (.d (.int t)), some w, some (.d (.int n)), some (.d (formF n M)), x5, x6, x7, x8, x9, x10, x11, x12, x13, x14]
structure L4 (ns : List Int) (t n : Nat) (M : Nat → Nat → Rat) (f g : Nat → Rat) (r : Rho) : Prop where
  sf : ∀ i, Sz 32 (f i)
  sg : ∀ i, Sz 32 (g i)
  ex : ∃ w x7 x8 x9 x10 x11 x12 x13 x14, Dk w ∧ r = [some (.s ns), some (.d (.int t)), some w, some (.d (.int n)), some (.d (formF n M)), some (.d (rowF n f)), some (.d (rowF n g)), x7, x8, x9, x10, x11, x12, x13, x14]
abbrev S5 (ns : List Int) (t n : Nat) (M : Nat → Nat → Rat) (f g : Nat → Rat) (L : List Nat) (w : Wv) (x8 x9 x10 x11 x12 x13 x14 : Option Wv) : Rho :=
  [some (.s ns), some (.d (.int t)), some w, some (.d (.int n)), some (.d (formF n M)), some (.d (rowF n f)), some (.d (rowF n g)), some (.d (lotD L)), x8, x9, x10, x11, x12, x13, x14]
structure L5 (ns : List Int) (t n : Nat) (M : Nat → Nat → Rat) (f g : Nat → Rat) (L : List Nat) (r : Rho) : Prop where
  lt : Lot n L
  ll : L.length ≤ n
  ex : ∃ w x8 x9 x10 x11 x12 x13 x14, r = S5 ns t n M f g L w x8 x9 x10 x11 x12 x13 x14
theorem law_true (ns : List Int) (hl : ns.length ≤ 63) : ∃ rr, d_law [.s ns] = .ok (.d (.bool true)) rr := by
  suffices h : Gs (d_law [.s ns]) (fun v _ => v = .d (.bool true)) by
    obtain ⟨v, r, e, rfl⟩ := h.ex
    exact ⟨r, e⟩
  unfold d_law
  rw [w_def]
  refine ⟨rfl, ?_⟩
  rw [w_cons]
  refine via (fun fl r => fl = Fl.nx ∧ Ls ns r) ?_ (by
    rintro fl r ⟨rfl, x1, x2, x3, x4, x5, x6, x7, x8, x9, x10, x11, x12, x13, x14, rfl⟩
    simp)
  rw [w_for]
  refine via (fun xs r => ∃ m : Nat, m ≤ 3 ∧ xs = rngD 0 m ∧ Ls ns r) ?_ ?_
  · have e : ∃ m : Nat, m ≤ 3 ∧ (if (if (3 : Int) < ns.length then (3 : Int) else ns.length) > 1 then (if (3 : Int) < ns.length then (3 : Int) else ns.length) else 1) = (m : Int) := by
      by_cases h3 : (3 : Int) < ns.length
      · exact ⟨3, by omega, by simp [h3]⟩
      · by_cases h1 : (ns.length : Int) > 1
        · exact ⟨ns.length, by omega, by simp [h3, h1]⟩
        · exact ⟨1, by omega, by simp [h3, h1]⟩
    obtain ⟨m, hm, e⟩ := e
    simp [e]
    refine ⟨by omega, m, hm, rfl, ?_⟩
    exact ⟨_, _, _, _, _, _, _, _, _, _, _, _, _, _, rfl⟩
  rintro xs r ⟨m, hm, rfl, hr⟩
  refine for_rng (m := m) (lo := 0) (I := fun _ r => Ls ns r) (fun r h => ⟨rfl, h⟩) ?_ hr
  rintro t r ht ⟨x1, x2, x3, x4, x5, x6, x7, x8, x9, x10, x11, x12, x13, x14, rfl⟩
  refine ⟨[some (.s ns), some (.d (.int t)), x2, x3, x4, x5, x6, x7, x8, x9, x10, x11, x12, x13, x14], by simp, ?_⟩
  -- the deck
  rw [w_cons]
  refine via (fun fl r => fl = Fl.nx ∧ L1 ns t r) ?_ ?_
  · simp
    refine (deck_spec (ns := ns) (t := t) (by omega)).mono ?_
    rintro v r ⟨hv, rfl⟩
    simp
    exact ⟨v, _, _, _, _, _, _, _, _, _, _, _, _, hv, rfl⟩
  rintro fl r ⟨rfl, w, x3, x4, x5, x6, x7, x8, x9, x10, x11, x12, x13, x14, hw, rfl⟩
  rw [nxt_nx, w_cons]
  -- the size
  refine via (fun fl r => fl = Fl.nx ∧ ∃ n, L2' ns t n r) ?_ ?_
  · have lst : ∀ {Q : Wv → Rho → Prop}, (∀ n w', (1 ≤ n ∧ n ≤ 6) → Dk w' → Q (.d (.int (n : Nat))) [some w', none]) → Gs (d__law_pick [w, .o [.d (.int 1), .d (.int 2), .d (.int 2), .d (.int 3), .d (.int 3), .d (.int 4), .d (.int 5), .d (.int 6)]]) Q := by
      intro Q h
      refine (pick_spec hw (xs := [1, 2, 2, 3, 3, 4, 5, 6]) (by simp) (by simp)).mono ?_
      rintro v r ⟨i, hi, w', rfl, rfl, hw⟩
      have hb : 1 ≤ i ∧ i ≤ 6 := by simp at hi; omega
      obtain ⟨j, rfl⟩ := Int.eq_ofNat_of_zero_le (show 0 ≤ i by omega)
      exact h j w' (by omega) hw
    simp
    refine lst fun n w' hn hw' => ?_
    simp
    exact ⟨n, w', _, _, _, _, _, _, _, _, _, _, _, hn, hw', rfl⟩
  rintro fl r ⟨rfl, n, w, x4, x5, x6, x7, x8, x9, x10, x11, x12, x13, x14, hn, hw, rfl⟩
  rw [nxt_nx, w_cons]
  -- the form
  refine via (fun fl r => fl = Fl.nx ∧ ∃ M, L3 ns t n M r) ?_ ?_
  · simp
    refine (form_spec hw hn.1 hn.2).mono ?_
    rintro v r ⟨M, rfl, sy, sM, w', rfl, hw'⟩
    simp
    exact ⟨M, sy, sM, w', _, _, _, _, _, _, _, _, _, _, hw', rfl⟩
  rintro fl r ⟨rfl, M, sy, sM, w, x5, x6, x7, x8, x9, x10, x11, x12, x13, x14, hw, rfl⟩
  rw [nxt_nx, w_cons]
  -- the rows
  refine via (fun fl r => fl = Fl.nx ∧ ∃ f g, L4 ns t n M f g r) ?_ ?_
  · simp
    refine (line_spec hw hn.2).mono ?_
    rintro v r ⟨f, rfl, sf, w', rfl, hw'⟩
    simp
    refine (line_spec hw' hn.2).mono ?_
    rintro v r ⟨g, rfl, sg, w2, rfl, hw2⟩
    simp
    exact ⟨f, g, sf, sg, w2, _, _, _, _, _, _, _, _, hw2, rfl⟩
  rintro fl r ⟨rfl, f, g, sf, sg, w, x7, x8, x9, x10, x11, x12, x13, x14, hw, rfl⟩
  rw [nxt_nx, w_cons]
  -- the lot
  refine via (fun fl r => fl = Fl.nx ∧ ∃ L, L5 ns t n M f g L r) ?_ ?_
  · simp
    refine (spots_spec hw hn.1 hn.2).mono ?_
    rintro v r ⟨L, rfl, lt, ll, w', rfl, hw'⟩
    simp
    exact ⟨L, lt, ll, w', _, _, _, _, _, _, _, rfl⟩
  rintro fl r ⟨rfl, L, lt, ll, w, x8, x9, x10, x11, x12, x13, x14, rfl⟩
  obtain ⟨n1, n6⟩ := hn
  have n7 : lb n 7 32 ≤ 241 := by unfold lb; omega
  have sf' : ∀ i < n, Sz 32 (f i) := fun i _ => sf i
  have sg' : ∀ i < n, Sz 32 (g i) := fun i _ => sg i
  have n8 : lb n 32 (lb n 7 32) ≤ 1645 := by
    unfold lb at n7 ⊢
    have : n * (32 + (n * (7 + 32 + 1) + 1) + 1) ≤ 6 * 274 := Nat.mul_le_mul n6 (by omega)
    omega
  have c_own : d__law_led [.d (formF n M), .d (rowF n g)] = .ok (.d (rowF n (ledR n M g))) [none, none] := m_law_led n6 sM sg' (by unfold lb at n7; omega)
  have c_led : d_led [.d (formF n M), .d (rowF n g)] = .ok (.d (rowF n (ledR n M g))) [none, none] := m_led n1 n6 sy sM sg' (by omega)
  have c_p1 : d_product [.d (formF n M), .d (rowF n f), .d (rowF n g)] = .ok (.d (rq (dotR n f (ledR n M g)))) [none, none, none] := m_prod n1 n6 sy sM sf' sg' (by omega) (by omega)
  have c_p2 : d_product [.d (formF n M), .d (rowF n g), .d (rowF n f)] = .ok (.d (rq (dotR n f (ledR n M g)))) [none, none, none] := by
    rw [dot_sym sy]
    exact m_prod n1 n6 sy sM sg' sf' (by omega) (by omega)
  have c_w1 : d_worth [.d (formF n M), .d (rowF n g)] = .ok (.d (rq (dotR n g (ledR n M g)))) [none, none] := m_worth n1 n6 sy sM sg' (by omega) (by omega)
  have c_w2 : d_worth [.d (formF n M), .d (rowF n f)] = .ok (.d (rq (dotR n f (ledR n M f)))) [none, none] := m_worth n1 n6 sy sM sf' (by omega) (by omega)
  have c_pt : d_part_of [.d (formF n M), .d (lotD L)] = .ok (.d (partD M L)) [none, none] := m_part_of n1 n6 sy lt (by omega)
  have sl := sz_led sM sg'
  have c_x : d__law_dot [.d (rowF n f), .d (rowF n (ledR n M g))] = .ok (.d (rq (dotR n f (ledR n M g)))) [none, none] := m_law_dot sf' sl (by unfold lb at n7 n8 ⊢; omega)
  have c_y : d__law_dot [.d (rowF n g), .d (rowF n (ledR n M g))] = .ok (.d (rq (dotR n g (ledR n M g)))) [none, none] := m_law_dot sg' sl (by unfold lb at n7 n8 ⊢; omega)
  have c_lw : d__law_worth [.d (formF n M), .d (rowF n f)] = .ok (.d (rq (dotR n f (ledR n M f)))) [none, none] := m_law_worth n6 sM sf' (by omega) (by omega)
  rw [nxt_nx, w_cons]
  generalize hown : rowF n (ledR n M g) = own at *
  generalize hA : rq (dotR n f (ledR n M g)) = A at *
  generalize hC : rq (dotR n g (ledR n M g)) = C at *
  generalize hE : rq (dotR n f (ledR n M f)) = E at *
  refine via (fun fl r => fl = Fl.nx ∧ r = S5 ns t n M f g L w (some (.d own)) x9 x10 x11 x12 x13 x14) (by simp [c_own]) ?_
  rintro fl r ⟨rfl, rfl⟩
  rw [nxt_nx, w_cons]
  refine via (fun fl r => fl = Fl.nx ∧ r = S5 ns t n M f g L w (some (.d own)) (some (.o [.d own, .d own, .d A])) x10 x11 x12 x13 x14) (by simp [c_led, c_p1]) ?_
  rintro fl r ⟨rfl, rfl⟩
  rw [nxt_nx, w_cons]
  refine via (fun fl r => fl = Fl.nx ∧ r = S5 ns t n M f g L w (some (.d own)) (some (.o [.d own, .d own, .d A, .d A, .d C, .d E])) x10 x11 x12 x13 x14) (by simp [c_p2, c_w1, c_w2]) ?_
  rintro fl r ⟨rfl, rfl⟩
  rw [nxt_nx, w_cons]
  refine via (fun fl r => fl = Fl.nx ∧ r = S5 ns t n M f g L w (some (.d own)) (some (.o [.d own, .d own, .d A, .d A, .d C, .d E, .d (partD M L), .d (partD M L)])) x10 x11 x12 x13 x14) (by simp [c_pt]) ?_
  rintro fl r ⟨rfl, rfl⟩
  rw [nxt_nx, w_cons]
  have ep : formF n M = .tuple ((List.range n).map fun i => rowF n (M i)) := rfl
  have er : ∀ i, rowF n (M i) = .tuple ((List.range n).map fun j => rq (M i j)) := fun _ => rfl
  have el : lotD L = .tuple (L.map fun (i : Nat) => .int (i : Int)) := rfl
  refine via (fun fl r => fl = Fl.nx ∧ ∃ x13 x14, r = S5 ns t n M f g L w (some (.d own)) (some (.o [.d own, .d own, .d A, .d A, .d C, .d E, .d (partD M L), .d (partD M L)])) (some (.d (partD M L))) x11 x12 x13 x14) ?_ ?_
  · have hlen : L.length ≤ 1000000 := by omega
    simp [el, hlen]
    refine comp_list (fun i => .tuple (L.map fun j => rq (M i j))) (fun r => ∃ y13 y14, r = S5 ns t n M f g L w (some (.d own)) (some (.o [.d own, .d own, .d A, .d A, .d C, .d E, .d (partD M L), .d (partD M L)])) x10 x11 x12 y13 y14) ⟨_, _, rfl⟩ ?_ ?_
    · rintro i hi r ⟨y13, y14, rfl⟩
      simp [el, hlen]
      refine comp_list (fun j => rq (M i j)) (fun r => ∃ y14, r = S5 ns t n M f g L w (some (.d own)) (some (.o [.d own, .d own, .d A, .d A, .d C, .d E, .d (partD M L), .d (partD M L)])) x10 x11 x12 (some (.d (.int i))) y14) ⟨_, rfl⟩ ?_ ?_
      · rintro j hj r ⟨y14, rfl⟩
        have g1 : (List.range n)[i]? = some i := List.getElem?_range (lt.2.2 i hi)
        have g2 : (List.range n)[j]? = some j := List.getElem?_range (lt.2.2 j hj)
        simp [ep, er, g1, g2]
      · rintro r ⟨y14, rfl⟩
        simp [el]
    · rintro r ⟨y13, y14, rfl⟩
      simp [partD, el]
  rintro fl r ⟨rfl, z13, z14, rfl⟩
  rw [nxt_nx, w_cons]
  refine via (fun fl r => fl = Fl.nx ∧ r = S5 ns t n M f g L w (some (.d own)) (some (.o [.d own, .d own, .d A, .d A, .d C, .d E, .d (partD M L), .d (partD M L)])) (some (.d (partD M L))) (some (.d A)) x12 z13 z14) (by simp [c_x]) ?_
  rintro fl r ⟨rfl, rfl⟩
  rw [nxt_nx, w_cons]
  refine via (fun fl r => fl = Fl.nx ∧ r = S5 ns t n M f g L w (some (.d own)) (some (.o [.d own, .d own, .d A, .d A, .d C, .d E, .d (partD M L), .d (partD M L)])) (some (.d (partD M L))) (some (.d A)) (some (.o [.d own, .d own, .d A, .d A, .d C, .d E, .d (partD M L), .d (partD M L)])) z13 z14) (by simp [c_y, c_lw]) ?_
  rintro fl r ⟨rfl, rfl⟩
  rw [nxt_nx]
  have rp : Rp 60 1500 (.list [own, own, A, A, C, E, partD M L, partD M L]) := by
    have r1 : Rp 3 150 own := by rw [← hown]; exact (Rp.rowF sl (by omega)).mono (by decide) (by omega)
    have sd : ∀ (f g : Nat → Rat), (∀ i < n, Sz 32 (f i)) → (∀ i < n, Sz 32 (g i)) → Rp 3 150 (rq (dotR n f (ledR n M g))) := fun f g hf hg => by
      have h1 : Sz (lb n 32 (lb n 7 32)) (dotR n f (ledR n M g)) := sz_sumR fun i hi => (hf i hi).mul (sz_led sM hg i hi)
      exact (Rp.rq h1 (by omega)).mono (by decide) (by decide)
    have r2 : Rp 3 150 A := by rw [← hA]; exact sd f g sf' sg'
    have r3 : Rp 3 150 C := by rw [← hC]; exact sd g g sg' sg'
    have r4 : Rp 3 150 E := by rw [← hE]; exact sd f f sf' sf'
    have r5 := lot_rp lt n6 ll sM
    refine (Rp.list (dp := 3) (bk := 150) (n := 8) (fun x hx => ?_) (by simp)).mono (by decide) (by decide)
    simp at hx
    rcases hx with rfl | rfl | rfl | rfl | rfl <;> assumption
  have rr := pRepr_ok rp
  simp [rr]
  exact ⟨_, _, _, _, _, _, _, _, _, _, _, _, _, _, rfl⟩
end LW

set_option Elab.async false
set_option linter.all false
set_option maxRecDepth 100000
open PySem PySem.W PyProof.Rows FW
set_option maxHeartbeats 0 in
theorem PySem.Challenge.cw_everyface_k02_led_products_worths_parts_holds : PySem.Challenge.rw_everyface_k02_led_products_worths_parts.Holds := by
  w_on
  o_law
  k_head
  (case hw => w_witness2)
  k_fill
  refine FW.walk_G (l := PySem.Challenge.rw_everyface_k02_led_products_worths_parts) (n := 63) (k := 10) (x := "script") (df := LW.d_law) rfl (by decide) rfl ⟨rfl, by decide, by decide⟩ (fun w h Y => PySem.W.kIn_of Y) ?F LW.law_true
  case F =>
    intro w mg fa h KX G hmg
    refine' LW.all_mk KX G hmg ?a ?l ?c ?k ?T
    (case a => k_is); (case l => k_is); (case c => k_is); (case k => k_is)
    (case T =>
      refine' ⟨?z_abs, ?z_all, ?z_bool, ?z_enumerate, ?z_int, ?z_isinstance, ?z_len, ?z_max, ?z_min, ?z_range, ?z_repr, ?z_tuple, ?z_zip, ?b_gcd, ?g_ZERO, ?g_MOST_ROWS, ?f_is_whole, ?f_are_wholes, ?f_divisor_of, ?f_is_reduced, ?f_is_ratio, ?f_are_ratios, ?f_is_formed, ?f_check_form, ?f_check_row_of, ?f_ratio_with, ?f_ratio_product, ?f_ratio_sum, ?f_total_of, ?f_dot, ?f_led_by, ?f_led, ?f_product_by, ?f_product, ?f_worth_by, ?f_worth, ?f_is_between, ?f_wrong_in_lot, ?f_check_lot, ?f_part_on, ?f_part_of, ?f__law_deck, ?f__law_roll, ?f__law_pick, ?f__law_gcd, ?f__law_frac, ?f__law_plus, ?f__law_times, ?f__law_dot, ?f__law_led, ?f__law_worth, ?f__law_wholes, ?f__law_spots, ?f__law_table, ?f__law_form, ?f__law_line, ?f_law⟩
      (case z_abs => exact PySem.W.mg_none_of KX G (by k_is))
      (case z_all => exact PySem.W.mg_none_of KX G (by k_is))
      (case z_bool => exact PySem.W.mg_none_of KX G (by k_is))
      (case z_enumerate => exact PySem.W.mg_none_of KX G (by k_is))
      (case z_int => exact PySem.W.mg_none_of KX G (by k_is))
      (case z_isinstance => exact PySem.W.mg_none_of KX G (by k_is))
      (case z_len => exact PySem.W.mg_none_of KX G (by k_is))
      (case z_max => exact PySem.W.mg_none_of KX G (by k_is))
      (case z_min => exact PySem.W.mg_none_of KX G (by k_is))
      (case z_range => exact PySem.W.mg_none_of KX G (by k_is))
      (case z_repr => exact PySem.W.mg_none_of KX G (by k_is))
      (case z_tuple => exact PySem.W.mg_none_of KX G (by k_is))
      (case z_zip => exact PySem.W.mg_none_of KX G (by k_is))
      (case b_gcd => exact PySem.W.mg_of KX G (by k_is))
      (case g_ZERO => refine' gd_two KX G ?a ?l; (case a => k_is); (case l => k_is))
      (case g_MOST_ROWS => refine' gd_int KX G ?a; (case a => k_is))
      (case f_is_whole => refine' LW.tf_is_whole KX G ?a ?l ?c ?k; (case a => k_is); (case l => k_is); (case c => k_is); (case k => k_is))
      (case f_are_wholes => refine' LW.tf_are_wholes KX G ?a ?l ?c ?k; (case a => k_is); (case l => k_is); (case c => k_is); (case k => k_is))
      (case f_divisor_of => refine' LW.tf_divisor_of KX G ?a ?l ?c ?k; (case a => k_is); (case l => k_is); (case c => k_is); (case k => k_is))
      (case f_is_reduced => refine' LW.tf_is_reduced KX G ?a ?l ?c ?k; (case a => k_is); (case l => k_is); (case c => k_is); (case k => k_is))
      (case f_is_ratio => refine' LW.tf_is_ratio KX G ?a ?l ?c ?k; (case a => k_is); (case l => k_is); (case c => k_is); (case k => k_is))
      (case f_are_ratios => refine' LW.tf_are_ratios KX G ?a ?l ?c ?k; (case a => k_is); (case l => k_is); (case c => k_is); (case k => k_is))
      (case f_is_formed => refine' LW.tf_is_formed KX G ?a ?l ?c ?k; (case a => k_is); (case l => k_is); (case c => k_is); (case k => k_is))
      (case f_check_form => refine' LW.tf_check_form KX G ?a ?l ?c ?k; (case a => k_is); (case l => k_is); (case c => k_is); (case k => k_is))
      (case f_check_row_of => refine' LW.tf_check_row_of KX G ?a ?l ?c ?k; (case a => k_is); (case l => k_is); (case c => k_is); (case k => k_is))
      (case f_ratio_with => refine' LW.tf_ratio_with KX G ?a ?l ?c ?k; (case a => k_is); (case l => k_is); (case c => k_is); (case k => k_is))
      (case f_ratio_product => refine' LW.tf_ratio_product KX G ?a ?l ?c ?k; (case a => k_is); (case l => k_is); (case c => k_is); (case k => k_is))
      (case f_ratio_sum => refine' LW.tf_ratio_sum KX G ?a ?l ?c ?k; (case a => k_is); (case l => k_is); (case c => k_is); (case k => k_is))
      (case f_total_of => refine' LW.tf_total_of KX G ?a ?l ?c ?k; (case a => k_is); (case l => k_is); (case c => k_is); (case k => k_is))
      (case f_dot => refine' LW.tf_dot KX G ?a ?l ?c ?k; (case a => k_is); (case l => k_is); (case c => k_is); (case k => k_is))
      (case f_led_by => refine' LW.tf_led_by KX G ?a ?l ?c ?k; (case a => k_is); (case l => k_is); (case c => k_is); (case k => k_is))
      (case f_led => refine' LW.tf_led KX G ?a ?l ?c ?k; (case a => k_is); (case l => k_is); (case c => k_is); (case k => k_is))
      (case f_product_by => refine' LW.tf_product_by KX G ?a ?l ?c ?k; (case a => k_is); (case l => k_is); (case c => k_is); (case k => k_is))
      (case f_product => refine' LW.tf_product KX G ?a ?l ?c ?k; (case a => k_is); (case l => k_is); (case c => k_is); (case k => k_is))
      (case f_worth_by => refine' LW.tf_worth_by KX G ?a ?l ?c ?k; (case a => k_is); (case l => k_is); (case c => k_is); (case k => k_is))
      (case f_worth => refine' LW.tf_worth KX G ?a ?l ?c ?k; (case a => k_is); (case l => k_is); (case c => k_is); (case k => k_is))
      (case f_is_between => refine' LW.tf_is_between KX G ?a ?l ?c ?k; (case a => k_is); (case l => k_is); (case c => k_is); (case k => k_is))
      (case f_wrong_in_lot => refine' LW.tf_wrong_in_lot KX G ?a ?l ?c ?k; (case a => k_is); (case l => k_is); (case c => k_is); (case k => k_is))
      (case f_check_lot => refine' LW.tf_check_lot KX G ?a ?l ?c ?k; (case a => k_is); (case l => k_is); (case c => k_is); (case k => k_is))
      (case f_part_on => refine' LW.tf_part_on KX G ?a ?l ?c ?k; (case a => k_is); (case l => k_is); (case c => k_is); (case k => k_is))
      (case f_part_of => refine' LW.tf_part_of KX G ?a ?l ?c ?k; (case a => k_is); (case l => k_is); (case c => k_is); (case k => k_is))
      (case f__law_deck => refine' LW.tf__law_deck KX G ?a ?l ?c ?k; (case a => k_is); (case l => k_is); (case c => k_is); (case k => k_is))
      (case f__law_roll => refine' LW.tf__law_roll KX G ?a ?l ?c ?k; (case a => k_is); (case l => k_is); (case c => k_is); (case k => k_is))
      (case f__law_pick => refine' LW.tf__law_pick KX G ?a ?l ?c ?k; (case a => k_is); (case l => k_is); (case c => k_is); (case k => k_is))
      (case f__law_gcd => refine' LW.tf__law_gcd KX G ?a ?l ?c ?k; (case a => k_is); (case l => k_is); (case c => k_is); (case k => k_is))
      (case f__law_frac => refine' LW.tf__law_frac KX G ?a ?l ?c ?k; (case a => k_is); (case l => k_is); (case c => k_is); (case k => k_is))
      (case f__law_plus => refine' LW.tf__law_plus KX G ?a ?l ?c ?k; (case a => k_is); (case l => k_is); (case c => k_is); (case k => k_is))
      (case f__law_times => refine' LW.tf__law_times KX G ?a ?l ?c ?k; (case a => k_is); (case l => k_is); (case c => k_is); (case k => k_is))
      (case f__law_dot => refine' LW.tf__law_dot KX G ?a ?l ?c ?k; (case a => k_is); (case l => k_is); (case c => k_is); (case k => k_is))
      (case f__law_led => refine' LW.tf__law_led KX G ?a ?l ?c ?k; (case a => k_is); (case l => k_is); (case c => k_is); (case k => k_is))
      (case f__law_worth => refine' LW.tf__law_worth KX G ?a ?l ?c ?k; (case a => k_is); (case l => k_is); (case c => k_is); (case k => k_is))
      (case f__law_wholes => refine' LW.tf__law_wholes KX G ?a ?l ?c ?k; (case a => k_is); (case l => k_is); (case c => k_is); (case k => k_is))
      (case f__law_spots => refine' LW.tf__law_spots KX G ?a ?l ?c ?k; (case a => k_is); (case l => k_is); (case c => k_is); (case k => k_is))
      (case f__law_table => refine' LW.tf__law_table KX G ?a ?l ?c ?k; (case a => k_is); (case l => k_is); (case c => k_is); (case k => k_is))
      (case f__law_form => refine' LW.tf__law_form KX G ?a ?l ?c ?k; (case a => k_is); (case l => k_is); (case c => k_is); (case k => k_is))
      (case f__law_line => refine' LW.tf__law_line KX G ?a ?l ?c ?k; (case a => k_is); (case l => k_is); (case c => k_is); (case k => k_is))
      (case f_law => refine' LW.tf_law KX G ?a ?l ?c ?k; (case a => k_is); (case l => k_is); (case c => k_is); (case k => k_is)))
