import PyProof.Rows.All
import Wide.All
import OpenK.AllK
import Wide.FinOn
import HandS.ForMost
import HandS.ForExc
import HandS.Wide
import HandS.Gcd
import HandS.IsInst
import HandS.Deep
import HandS.Zip
import HandS.TupAny
import HandS.TupMul
import HandS.CallSlots
import PyProof.ReprRoads
import HandS.Star
import HandS.Flow
import KE.GoesNew
import KE.GoesEnum
import HandS.ExcOwn
import HandS.Style
import HandS.Ends
import HandS.Dict
import HandS.DictComp
import PySem.Challenge.RW_everyface_k22_rooms_of_anything
set_option Elab.async false
set_option linter.all false
set_option maxRecDepth 100000
set_option maxHeartbeats 1000001
namespace FW
open PySem PySem.Spec L2

abbrev D := PyData
abbrev Frg := PySem.W.Frag

/-! ## data, what represents them -/
def keyD : Key → D
  | .inl i => .int i
  | .inr x => .str x
mutual
/-- v stands for the data d, in the frozen heap G -/
def Dr (K : Frg) (G : Hp) : V → D → Prop
  | v, .none => v = .non
  | v, .bool b => v = .bl b
  | v, .int i => v = .int i
  | v, .str x => v = .str x
  | v, .list ds => ∃ a xs, v = .ref a ∧ G a = some (.lst xs) ∧ Drs K G xs ds
  | v, .tuple ds => ∃ a xs, v = .ref a ∧ SqT K G a xs ∧ Drs K G xs ds
  | v, .dict kvs => ∃ a ks, v = .ref a ∧ G a = some (.dK ks) ∧ Drk K G ks kvs
def Drs (K : Frg) (G : Hp) : List V → List D → Prop
  | xs, [] => xs = []
  | xs, d :: ds => ∃ x r, xs = x :: r ∧ Dr K G x d ∧ Drs K G r ds
def Drk (K : Frg) (G : Hp) : List (Key × V) → List (D × D) → Prop
  | ks, [] => ks = []
  | ks, (k, d) :: r => ∃ k' x r', ks = (k', x) :: r' ∧ k = keyD k' ∧ Dr K G x d ∧ Drk K G r' r
end
theorem same_seqT {K : Frg} {H H' : Hp} {a : Addr} {xs : List V} (e : Same H H') (h : SqT K H a xs) : SqT K H' a xs := by
  rcases h with ((h | ⟨o, h⟩) | h)
  · exact .inl (.inl (e _ _ h))
  · exact .inl (.inr ⟨o, (e _ _ h)⟩) 
  · exact .inr h
mutual
theorem Dr.mono {K : Frg} {G G' : Hp} (h : Same G G') : ∀ (d : D) (v : V), Dr K G v d → Dr K G' v d
  | .none, _, x => by unfold Dr at *; exact x
  | .bool _, _, x => by unfold Dr at *; exact x
  | .int _, _, x => by unfold Dr at *; exact x
  | .str _, _, x => by unfold Dr at *; exact x
  | .list ds, _, x => by
    unfold Dr at *
    obtain ⟨a, xs, e, s, t⟩ := x
    exact ⟨a, xs, e, h _ _ s, Drs.mono h ds xs t⟩
  | .tuple ds, _, x => by
    unfold Dr at *
    obtain ⟨a, xs, e, s, t⟩ := x
    exact ⟨a, xs, e, same_seqT h s, Drs.mono h ds xs t⟩
  | .dict ks, _, x => by
    unfold Dr at *
    obtain ⟨a, xs, e, s, t⟩ := x
    exact ⟨a, xs, e, h _ _ s, Drk.mono h ks xs t⟩
theorem Drs.mono {K : Frg} {G G' : Hp} (h : Same G G') : ∀ (ds : List D) (vs : List V), Drs K G vs ds → Drs K G' vs ds
  | [], _, x => by unfold Drs at *; exact x
  | d :: ds, _, x => by
    unfold Drs at *
    obtain ⟨v, r, e, p, q⟩ := x
    exact ⟨v, r, e, Dr.mono h d v p, Drs.mono h ds r q⟩
theorem Drk.mono {K : Frg} {G G' : Hp} (h : Same G G') : ∀ (ds : List (D × D)) (vs : List (Key × V)), Drk K G vs ds → Drk K G' vs ds
  | [], _, x => by unfold Drk at *; exact x
  | (k, d) :: ds, _, x => by
    unfold Drk at *
    obtain ⟨k', v, r, e, ek, p, q⟩ := x
    exact ⟨k', v, r, e, ek, Dr.mono h d v p, Drk.mono h ds r q⟩
end
mutual
/-- to the layer's own word for data without dicts -/
theorem Dr.dp {K : Frg} {G : Hp} : ∀ (d : D) (v : V), d.canLay0 = true → Dr K G v d → Dp K G v d
  | .none, _, _, x => by unfold Dr at x; subst x; exact .non
  | .bool _, _, _, x => by unfold Dr at x; subst x; exact .bl _
  | .int _, _, _, x => by unfold Dr at x; subst x; exact .int _
  | .str _, _, _, x => by unfold Dr at x; subst x; exact .str _
  | .list ds, _, c, x => by
    unfold Dr at x
    obtain ⟨a, xs, e, s, t⟩ := x
    subst e
    exact .lst (SqL.of s) (Drs.dp ds xs (by simpa [PyData.canLay0] using c) t)
  | .tuple ds, _, c, x => by
    unfold Dr at x
    obtain ⟨a, xs, e, s, t⟩ := x
    subst e
    exact .tup s (Drs.dp ds xs (by simpa [PyData.canLay0] using c) t)
  | .dict ks, _, c, _ => by simp [PyData.canLay0] at c
theorem Drs.dp {K : Frg} {G : Hp} : ∀ (ds : List D) (vs : List V), PyData.canLayAll0 ds = true → Drs K G vs ds → DpAll K G vs ds
  | [], _, _, x => by unfold Drs at x; subst x; exact .nil
  | d :: ds, _, c, x => by
    unfold Drs at x
    obtain ⟨v, r, e, p, q⟩ := x
    subst e
    have c' : d.canLay0 = true ∧ PyData.canLayAll0 ds = true := by simpa [PyData.canLayAll0] using c
    exact .cons (Dr.dp d v c'.1 p) (Drs.dp ds r c'.2 q)
end
theorem Drs.length {K : Frg} {G : Hp} : ∀ {ds : List D} {vs : List V}, Drs K G vs ds → vs.length = ds.length
  | [], _, x => by unfold Drs at x; subst x; rfl
  | d :: ds, _, x => by
    unfold Drs at x
    obtain ⟨v, r, e, p, q⟩ := x
    subst e
    simp [Drs.length q]
theorem Drs.get {K : Frg} {G : Hp} : ∀ {ds : List D} {vs : List V} {i : Nat} {d : D}, Drs K G vs ds → ds[i]? = some d → ∃ v, vs[i]? = some v ∧ Dr K G v d
  | [], _, _, _, _, e => by simp at e
  | d :: ds, _, 0, _, x, e => by
    unfold Drs at x
    obtain ⟨v, r, e', p, q⟩ := x
    subst e'
    simp at e
    subst e
    exact ⟨v, rfl, p⟩
  | d :: ds, _, i + 1, _, x, e => by
    unfold Drs at x
    obtain ⟨v, r, e', p, q⟩ := x
    subst e'
    simpa using Drs.get (i := i) q (by simpa using e)
theorem Drs.append {K : Frg} {G : Hp} : ∀ {ds es : List D} {vs us : List V}, Drs K G vs ds → Drs K G us es → Drs K G (vs ++ us) (ds ++ es)
  | [], _, _, _, x, y => by unfold Drs at x; subst x; exact y
  | d :: ds, es, _, us, x, y => by
    unfold Drs at x
    obtain ⟨v, r, e', p, q⟩ := x
    subst e'
    show Drs K G (v :: (r ++ us)) (d :: (ds ++ es))
    unfold Drs
    exact ⟨v, r ++ us, rfl, p, Drs.append q y⟩
theorem Drs.nil {K : Frg} {G : Hp} : Drs K G [] [] := by unfold Drs; rfl
theorem Drs.cons {K : Frg} {G : Hp} {v : V} {vs : List V} {d : D} {ds : List D} (p : Dr K G v d) (q : Drs K G vs ds) : Drs K G (v :: vs) (d :: ds) := by unfold Drs; exact ⟨v, vs, rfl, p, q⟩
theorem Drs.one {K : Frg} {G : Hp} {vs : List V} {d : D} (h : Drs K G vs [d]) : ∃ v, vs = [v] ∧ Dr K G v d := by
  unfold Drs at h
  obtain ⟨v, r, e, p, q⟩ := h
  unfold Drs at q
  subst q
  exact ⟨v, e, p⟩
theorem Drs.two {K : Frg} {G : Hp} {vs : List V} {d e : D} (h : Drs K G vs [d, e]) : ∃ v u, vs = [v, u] ∧ Dr K G v d ∧ Dr K G u e := by
  unfold Drs at h
  obtain ⟨v, r, e1, p, q⟩ := h
  obtain ⟨u, e2, p2⟩ := Drs.one q
  exact ⟨v, u, by rw [e1, e2], p, p2⟩
theorem Drs.drop {K : Frg} {G : Hp} : ∀ {ds : List D} {vs : List V} (n : Nat), Drs K G vs ds → Drs K G (vs.drop n) (ds.drop n)
  | _, _, 0, h => by simpa using h
  | [], _, n + 1, h => by unfold Drs at h; subst h; exact Drs.nil
  | d :: ds, _, n + 1, h => by
    unfold Drs at h
    obtain ⟨v, r, e1, p, q⟩ := h
    subst e1
    simpa using Drs.drop n q
theorem Drs.take {K : Frg} {G : Hp} : ∀ {ds : List D} {vs : List V} (n : Nat), Drs K G vs ds → Drs K G (vs.take n) (ds.take n)
  | _, _, 0, h => by simpa using Drs.nil
  | [], _, n + 1, h => by unfold Drs at h; subst h; exact Drs.nil
  | d :: ds, _, n + 1, h => by
    unfold Drs at h
    obtain ⟨v, r, e1, p, q⟩ := h
    subst e1
    simpa using Drs.cons p (Drs.take n q)
theorem Drs.reverse {K : Frg} {G : Hp} : ∀ {ds : List D} {vs : List V}, Drs K G vs ds → Drs K G vs.reverse ds.reverse
  | [], _, h => by unfold Drs at h; subst h; exact Drs.nil
  | d :: ds, _, h => by
    unfold Drs at h
    obtain ⟨v, r, e1, p, q⟩ := h
    subst e1
    simpa using Drs.append (Drs.reverse q) (Drs.cons p Drs.nil)

/-! ## slots: frozen data, or a list of one's own (a tree of lists, nobody else's) -/
inductive Wv where
  | d (x : D)
  | o (xs : List Wv)
  | s (ns : List Int)
mutual
def Wv.dat : Wv → D
  | .d x => x
  | .o xs => .list (Wv.dats xs)
  | .s ns => .list (ns.map .int)
def Wv.dats : List Wv → List D
  | [] => []
  | x :: xs => x.dat :: Wv.dats xs
end
mutual
def Rw (K : Frg) (H G : Hp) : V → Wv → List Addr → Prop
  | v, .d x, fp => fp = [] ∧ Dr K G v x
  | v, .o ws, fp => ∃ a vs f, v = .ref a ∧ H a = some (.lst vs) ∧ G a = none ∧ fp = a :: f ∧ Rws K H G vs ws f
  | v, .s ns, fp => fp = [] ∧ ∃ a, v = .ref a ∧ SqL K G a (ns.map V.int)
def Rws (K : Frg) (H G : Hp) : List V → List Wv → List Addr → Prop
  | vs, [], fp => vs = [] ∧ fp = []
  | vs, w :: ws, fp => ∃ v r f g, vs = v :: r ∧ fp = f ++ g ∧ Rw K H G v w f ∧ Rws K H G r ws g
end
section
variable {K : Frg} {H G H' G' : Hp}
mutual
theorem Rw.there : ∀ (w : Wv) (v : V) (fp : List Addr), Rw K H G v w fp → ∀ a ∈ fp, ∃ vs, H a = some (.lst vs) ∧ G a = none
  | .d x, _, _, h => by unfold Rw at h; obtain ⟨e, _⟩ := h; subst e; simp
  | .o ws, _, _, h => by
    unfold Rw at h
    obtain ⟨a, vs, f, e, h1, h2, e2, h3⟩ := h
    subst e2
    intro b hb
    rcases List.mem_cons.mp hb with (z | z)
    · subst z; exact ⟨vs, h1, h2⟩
    · exact Rws.there ws vs f h3 b z
  | .s ns, _, _, h => by unfold Rw at h; obtain ⟨e, _⟩ := h; subst e; simp
theorem Rws.there : ∀ (ws : List Wv) (vs : List V) (fp : List Addr), Rws K H G vs ws fp → ∀ a ∈ fp, ∃ vs, H a = some (.lst vs) ∧ G a = none
  | [], _, _, h => by unfold Rws at h; obtain ⟨_, e⟩ := h; subst e; simp
  | w :: ws, _, _, h => by
    unfold Rws at h
    obtain ⟨v, r, f, g, e, e2, h1, h2⟩ := h
    subst e2
    intro b hb
    rcases List.mem_append.mp hb with z | z
    · exact Rw.there w v f h1 b z
    · exact Rws.there ws r g h2 b z
end
mutual
theorem Rw.move (hs : Same G G') : ∀ (w : Wv) (v : V) (fp : List Addr), Rw K H G v w fp → (∀ a ∈ fp, H' a = H a ∧ G' a = none) → Rw K H' G' v w fp
  | .d x, v, _, h, _ => by unfold Rw at *; exact ⟨h.1, Dr.mono hs x v h.2⟩
  | .o ws, _, _, h, k => by
    unfold Rw at *
    obtain ⟨a, vs, f, e, h1, h2, e2, h3⟩ := h
    subst e2
    obtain ⟨k1, k2⟩ := k a List.mem_cons_self
    exact ⟨a, vs, f, e, k1.trans h1, k2, rfl, Rws.move hs ws vs f h3 fun b hb => k b (List.mem_cons_of_mem _ hb)⟩
  | .s ns, v, _, h, _ => by
    unfold Rw at *
    obtain ⟨e, a, e2, q⟩ := h
    exact ⟨e, a, e2, hs.seq q⟩
theorem Rws.move (hs : Same G G') : ∀ (ws : List Wv) (vs : List V) (fp : List Addr), Rws K H G vs ws fp → (∀ a ∈ fp, H' a = H a ∧ G' a = none) → Rws K H' G' vs ws fp
  | [], _, _, h, _ => by unfold Rws at *; exact h
  | w :: ws, _, _, h, k => by
    unfold Rws at *
    obtain ⟨v, r, f, g, e, e2, h1, h2⟩ := h
    subst e2
    exact ⟨v, r, f, g, e, rfl, Rw.move hs w v f h1 fun b hb => k b (List.mem_append_left _ hb), Rws.move hs ws r g h2 fun b hb => k b (List.mem_append_right _ hb)⟩
end
mutual
/-- may be frozen: the script is not within -/
def Wv.nos : Wv → Bool
  | .d _ => true
  | .o ws => Wv.noss ws
  | .s _ => false
def Wv.noss : List Wv → Bool
  | [] => true
  | w :: ws => w.nos && Wv.noss ws
end
mutual
theorem Rw.frz (hs : Same G G') : ∀ (w : Wv) (v : V) (fp : List Addr), w.nos = true → Rw K H G v w fp → (∀ a ∈ fp, G' a = H a) → Dr K G' v w.dat
  | .d x, v, _, _, h, _ => by unfold Rw at h; exact Dr.mono hs x v h.2
  | .s _, _, _, n, _, _ => by unfold Wv.nos at n; cases n
  | .o ws, _, _, n, h, k => by
    unfold Wv.nos at n
    unfold Rw at h
    obtain ⟨a, vs, f, e, h1, h2, e2, h3⟩ := h
    subst e2
    show Dr K G' _ (.list (Wv.dats ws))
    unfold Dr
    exact ⟨a, vs, e, (k a List.mem_cons_self).trans h1, Rws.frz hs ws vs f n h3 fun b hb => k b (List.mem_cons_of_mem _ hb)⟩
theorem Rws.frz (hs : Same G G') : ∀ (ws : List Wv) (vs : List V) (fp : List Addr), Wv.noss ws = true → Rws K H G vs ws fp → (∀ a ∈ fp, G' a = H a) → Drs K G' vs (Wv.dats ws)
  | [], _, _, _, h, _ => by unfold Rws at h; unfold Wv.dats Drs; exact h.1
  | w :: ws, _, _, n, h, k => by
    unfold Rws at h
    unfold Wv.noss at n
    rw [Bool.and_eq_true] at n
    obtain ⟨v, r, f, g, e, e2, h1, h2⟩ := h
    subst e2
    unfold Wv.dats Drs
    exact ⟨v, r, e, Rw.frz hs w v f n.1 h1 fun b hb => k b (List.mem_append_left _ hb), Rws.frz hs ws r g n.2 h2 fun b hb => k b (List.mem_append_right _ hb)⟩
end
/-- data in a list -/
theorem Rws.of_drs : ∀ {ds : List D} {vs : List V}, Drs K G vs ds → Rws K H G vs (ds.map .d) []
  | [], _, h => by unfold Drs at h; subst h; unfold List.map Rws; exact ⟨rfl, rfl⟩
  | d :: ds, _, h => by
    unfold Drs at h
    obtain ⟨v, r, e, p, q⟩ := h
    unfold List.map Rws
    exact ⟨v, r, [], [], e, rfl, by unfold Rw; exact ⟨rfl, p⟩, Rws.of_drs q⟩
theorem Rws.append : ∀ {ws us : List Wv} {vs xs : List V} {f g : List Addr}, Rws K H G vs ws f → Rws K H G xs us g → Rws K H G (vs ++ xs) (ws ++ us) (f ++ g)
  | [], _, _, _, _, _, h, q => by unfold Rws at h; obtain ⟨e, e2⟩ := h; subst e e2; exact q
  | w :: ws, us, _, xs, _, g', h, q => by
    unfold Rws at h
    obtain ⟨v, r, f, g, e, e2, h1, h2⟩ := h
    subst e e2
    show Rws K H G (v :: (r ++ xs)) (w :: (ws ++ us)) (f ++ g ++ g')
    unfold Rws
    exact ⟨v, r ++ xs, f, g ++ g', rfl, by rw [List.append_assoc], h1, Rws.append h2 q⟩
theorem Rws.length : ∀ {ws : List Wv} {vs : List V} {f : List Addr}, Rws K H G vs ws f → vs.length = ws.length
  | [], _, _, h => by unfold Rws at h; rw [h.1]; rfl
  | w :: ws, _, _, h => by
    unfold Rws at h
    obtain ⟨v, r, f, g, e, e2, h1, h2⟩ := h
    subst e
    simp [Rws.length h2]
end
theorem Wv.dats_map : ∀ ws : List Wv, Wv.dats ws = ws.map Wv.dat
  | [] => rfl
  | w :: ws => by unfold Wv.dats; rw [Wv.dats_map ws]; rfl
theorem Wv.dats_d : ∀ ds : List D, Wv.dats (ds.map .d) = ds
  | [] => rfl
  | x :: xs => by unfold List.map Wv.dats; rw [Wv.dats_d xs]; rfl
theorem Wv.dat_d (d : D) : (Wv.d d).dat = d := by unfold Wv.dat; rfl
theorem Wv.dat_o (ws : List Wv) : (Wv.o ws).dat = .list (ws.map Wv.dat) := by unfold Wv.dat; rw [Wv.dats_map]

/-! ## steps from heap to heap -/
abbrev Fp := Nat → List Addr
def Own (fp : Fp) (a : Addr) : Prop := ∃ i, a ∈ fp i
structure Ext (P : Addr → Prop) (H G H' G' : Hp) : Prop where
  sg : Same G G'
  oth : ∀ a o, H a = some o → G a = none → ¬ P a → H' a = some o ∧ G' a = none
  dom : ∀ a, H' a = none → H a = none
theorem Ext.refl {P : Addr → Prop} {H G : Hp} : Ext P H G H G := ⟨Same.refl _, fun _ _ h g _ => ⟨h, g⟩, fun _ h => h⟩
theorem Ext.trans {P P1 : Addr → Prop} {H G H1 G1 H2 G2 : Hp} (x : Ext P H G H1 G1) (y : Ext P1 H1 G1 H2 G2) (s1 : Same G1 H1) (n : ∀ a, P1 a → P a ∨ H a = none) : Ext P H G H2 G2 := by
  refine ⟨x.sg.trans y.sg, fun a o h g np => ?_, fun a h => x.dom a (y.dom a h)⟩
  obtain ⟨h1, g1⟩ := x.oth a o h g np
  refine y.oth a o h1 g1 fun p1 => ?_
  rcases n a p1 with z | z
  · exact np z
  · rw [h] at z; cases z
structure Step (fp : Fp) (H G : Hp) (fp' : Fp) (H' G' : Hp) : Prop where
  x : Ext (Own fp) H G H' G'
  nw : ∀ a, Own fp' a → Own fp a ∨ H a = none
theorem Step.refl {fp : Fp} {H G : Hp} : Step fp H G fp H G := ⟨.refl, fun _ h => .inl h⟩
theorem Step.trans {fp fp1 fp2 : Fp} {H G H1 G1 H2 G2 : Hp} (a : Step fp H G fp1 H1 G1) (b : Step fp1 H1 G1 fp2 H2 G2) (s1 : Same G1 H1) : Step fp H G fp2 H2 G2 := by
  refine ⟨a.x.trans b.x s1 a.nw, fun c h => ?_⟩
  rcases b.nw c h with z | z
  · exact a.nw c z
  · exact .inr (a.x.dom c z)

abbrev Rho := List (Option Wv)
structure Cfg (K : Frg) (H G : Hp) (σ : St) (ρ : Rho) (fp : Fp) : Prop where
  sg : Same G H
  len : σ.length = ρ.length
  get : ∀ i w, ρ[i]? = some (some w) → ∃ v, σ[i]? = some (some v) ∧ Rw K H G v w (fp i)
  nil : ∀ i, (∀ w, ρ[i]? ≠ some (some w)) → fp i = []
  nd : ∀ i, (fp i).Nodup
  dis : ∀ i j a, a ∈ fp i → a ∈ fp j → i = j
section
variable {K : Frg} {H G H' G' : Hp} {σ : St} {ρ : Rho} {fp : Fp}
theorem Cfg.own (c : Cfg K H G σ ρ fp) {a : Addr} (h : Own fp a) : ∃ vs, H a = some (.lst vs) ∧ G a = none := by
  obtain ⟨i, hi⟩ := h
  by_cases e : ∃ w, ρ[i]? = some (some w)
  · obtain ⟨w, e⟩ := e
    obtain ⟨v, _, r⟩ := c.get i w e
    exact Rw.there w v _ r a hi
  · rw [c.nil i fun w q => e ⟨w, q⟩] at hi
    cases hi
/-- the heaps changed elsewhere -/
theorem Cfg.grow (c : Cfg K H G σ ρ fp) (sg' : Same G' H') (hs : Same G G') (k : ∀ a, Own fp a → H' a = H a ∧ G' a = none) : Cfg K H' G' σ ρ fp :=
  ⟨sg', c.len, fun i w e => let ⟨v, e1, r⟩ := c.get i w e; ⟨v, e1, Rw.move hs w v _ r fun a ha => k a ⟨i, ha⟩⟩, c.nil, c.nd, c.dis⟩
theorem Cfg.ext {P : Addr → Prop} (c : Cfg K H G σ ρ fp) (x : Ext P H G H' G') (sg' : Same G' H') (n : ∀ a, Own fp a → ¬ P a) : Cfg K H' G' σ ρ fp :=
  c.grow sg' x.sg fun a h => by
    obtain ⟨vs, h1, h2⟩ := c.own h
    obtain ⟨h3, h4⟩ := x.oth a _ h1 h2 (n a h)
    exact ⟨h3.trans h1.symm, h4⟩
/-- a new object -/
theorem Cfg.new (c : Cfg K H G σ ρ fp) {p : Addr} {o : HO} (hp : H p = none) : Cfg K (upd H p o) G σ ρ fp := by
  have ne : ∀ a u, H a = some u → a ≠ p := fun a u h e => by rw [e, hp] at h; cases h
  refine c.grow (fun a u h => ?_) (Same.refl _) fun a h => ?_
  · have q := c.sg a u h
    rw [upd_ne (ne a u q)]; exact q
  · obtain ⟨vs, h1, h2⟩ := c.own h
    exact ⟨upd_ne (ne a _ h1), h2⟩
theorem Ext.new {P : Addr → Prop} {p : Addr} {o : HO} (hp : H p = none) : Ext P H G (upd H p o) G := by
  have ne : ∀ a u, H a = some u → a ≠ p := fun a u h e => by rw [e, hp] at h; cases h
  refine ⟨Same.refl _, fun a u h g _ => ⟨by rw [upd_ne (ne a u h)]; exact h, g⟩, fun a h => ?_⟩
  by_cases e : a = p
  · rw [e]; exact hp
  · rw [upd_ne e] at h; exact h
theorem Step.new {p : Addr} {o : HO} (hp : H p = none) : Step fp H G fp (upd H p o) G := ⟨.new hp, fun _ h => .inl h⟩
/-- freezing what stands at f -/
def frzG (H G : Hp) (f : List Addr) : Hp := fun a => if a ∈ f then H a else G a
theorem frzG_in {f : List Addr} {a : Addr} (h : a ∈ f) : frzG H G f a = H a := by unfold frzG; rw [if_pos h]
theorem frzG_out {f : List Addr} {a : Addr} (h : a ∉ f) : frzG H G f a = G a := by unfold frzG; rw [if_neg h]
theorem frzG_le {f : List Addr} (sg : Same G H) : Same (frzG H G f) H := fun a o h => by
  by_cases e : a ∈ f
  · rw [frzG_in e] at h; exact h
  · rw [frzG_out e] at h; exact sg a o h
theorem frzG_ge {f : List Addr} (sg : Same G H) : Same G (frzG H G f) := fun a o h => by
  by_cases e : a ∈ f
  · rw [frzG_in e]; exact sg a o h
  · rw [frzG_out e]; exact h
theorem Cfg.frz (c : Cfg K H G σ ρ fp) {f : List Addr} (n : ∀ a ∈ f, ¬ Own fp a) : Cfg K H (frzG H G f) σ ρ fp :=
  c.grow (frzG_le c.sg) (frzG_ge c.sg) fun a h => ⟨rfl, by rw [frzG_out fun q => n a q h]; obtain ⟨_, _, q⟩ := c.own h; exact q⟩
theorem Ext.frz {P : Addr → Prop} {f : List Addr} (sg : Same G H) (n : ∀ a ∈ f, P a) : Ext P H G H (frzG H G f) :=
  ⟨frzG_ge sg, fun a o h g np => ⟨h, by rw [frzG_out fun q => np (n a q)]; exact g⟩, fun _ h => h⟩
end
end FW

set_option Elab.async false
set_option linter.all false
set_option maxRecDepth 100000
set_option maxHeartbeats 1000001
namespace FW
open PySem PySem.Spec L2

/-! ## outcomes -/
structure Xn where
  cls : Str
  pay : Option (Str × D)
inductive Out (α : Type) where
  | ok (a : α) (r : Rho)
  | exc (x : Xn) (r : Rho)
  | bad
def Out.bind {α β : Type} (o : Out α) (k : α → Rho → Out β) : Out β := match o with
  | .ok a r => k a r
  | .exc x r => .exc x r
  | .bad => .bad
@[simp] theorem Out.bind_ok {α β : Type} (a : α) (r : Rho) (k : α → Rho → Out β) : (Out.ok a r).bind k = k a r := rfl
@[simp] theorem Out.bind_exc {α β : Type} (x : Xn) (r : Rho) (k : α → Rho → Out β) : (Out.exc x r).bind k = .exc x r := rfl
@[simp] theorem Out.bind_bad {α β : Type} (k : α → Rho → Out β) : (Out.bad : Out α).bind k = .bad := rfl
def ResO {α : Type} (pok : α → Rho → Prop) (pex : Xn → Rho → Prop) : Out α → Prop
  | .ok a r => pok a r
  | .exc x r => pex x r
  | .bad => False
theorem ResO.bind {α β : Type} {pok : β → Rho → Prop} {pex : Xn → Rho → Prop} {k : α → Rho → Out β} : ∀ {o : Out α}, ResO pok pex (o.bind k) → ResO (fun a r => ResO pok pex (k a r)) pex o
  | .ok _ _, h => h
  | .exc _ _, h => h
  | .bad, h => h
theorem ResO.imp {α : Type} {pok pok' : α → Rho → Prop} {pex pex' : Xn → Rho → Prop} (f : ∀ a r, pok a r → pok' a r) (g : ∀ x r, pex x r → pex' x r) : ∀ {o : Out α}, ResO pok pex o → ResO pok' pex' o
  | .ok _ _, h => f _ _ h
  | .exc _ _, h => g _ _ h
  | .bad, h => h
/-- frozen -/
def fz (o : Out Wv) : Out D := o.bind fun w r => if w.nos = true then .ok w.dat r else .bad
/-- a primitive's answer -/
def ofO {α : Type} (o : Option α) (r : Rho) : Out α := match o with
  | some a => .ok a r
  | none => .bad
@[simp] theorem ofO_some {α : Type} (a : α) (r : Rho) : ofO (some a) r = .ok a r := rfl
@[simp] theorem ofO_none {α : Type} (r : Rho) : ofO (none : Option α) r = .bad := rfl

abbrev ES := Rho → Out Wv
abbrev Mg := Str → Option Value
/-- the exception x, as it flies -/
def XRep (K : Frg) (mg : Mg) (G H : Hp) (x : Xn) (cls : Value) (dd : Option Addr) : Prop :=
  ∃ C, mg x.cls = some (.ref C) ∧ cls = .ref C ∧ ∀ f d, x.pay = some (f, d) → ∃ a v, dd = some a ∧ H a = some (.xd [(f, v)]) ∧ Dr K G v d
structure PV (K : Frg) (H G : Hp) (fp : Fp) (σ : St) (ρ' : Rho) (v : V) (w : Wv) (H' G' : Hp) (fp' : Fp) (fv : List Addr) : Prop where
  c : Cfg K H' G' σ ρ' fp'
  st : Step fp H G fp' H' G'
  r : Rw K H' G' v w fv
  nd : fv.Nodup
  sep : ∀ a ∈ fv, ¬ Own fp' a
  nwv : ∀ a ∈ fv, Own fp a ∨ H a = none
def ResX (K : Frg) (mg : Mg) (E : WX) (H G : Hp) (fp : Fp) (σ : St) (x : Xn) (ρ' : Rho) : Prop :=
  ∀ cls dd H' G' fp', Cfg K H' G' σ ρ' fp' → Step fp H G fp' H' G' → XRep K mg G' H' x cls dd → E cls dd σ H'
abbrev ResE (K : Frg) (mg : Mg) (E : WX) (H G : Hp) (fp : Fp) (σ : St) (Q : VK) (o : Out Wv) : Prop :=
  ResO (fun w ρ' => ∀ v H' G' fp' fv, PV K H G fp σ ρ' v w H' G' fp' fv → Q v H') (ResX K mg E H G fp σ) o
abbrev ResD (K : Frg) (mg : Mg) (E : WX) (H G : Hp) (fp : Fp) (σ : St) (Q : VK) (o : Out D) : Prop :=
  ResO (fun d ρ' => ∀ v H' G' fp', Cfg K H' G' σ ρ' fp' → Step fp H G fp' H' G' → Dr K G' v d → Q v H') (ResX K mg E H G fp σ) o
abbrev ResT (K : Frg) (mg : Mg) (E : WX) (H G : Hp) (fp : Fp) (σ : St) (Q : Bool → Hp → Prop) (o : Out Bool) : Prop :=
  ResO (fun b ρ' => ∀ H' G' fp', Cfg K H' G' σ ρ' fp' → Step fp H G fp' H' G' → Q b H') (ResX K mg E H G fp σ) o
abbrev ResA (K : Frg) (mg : Mg) (E : WX) (H G : Hp) (fp : Fp) (σ : St) (Q : List V → Hp → Prop) (o : Out (List D)) : Prop :=
  ResO (fun ds ρ' => ∀ vs H' G' fp', Cfg K H' G' σ ρ' fp' → Step fp H G fp' H' G' → Drs K G' vs ds → Q vs H') (ResX K mg E H G fp σ) o
section
variable {K : Frg} {mg : Mg} {E : WX} {H G H1 G1 : Hp} {fp fp1 : Fp} {σ : St} {ρ : Rho}
theorem PV.rebase {ρ' : Rho} {v : V} {w : Wv} {H' G' : Hp} {fp' : Fp} {fv : List Addr} (s : Step fp H G fp1 H1 G1) (sg : Same G1 H1) (p : PV K H1 G1 fp1 σ ρ' v w H' G' fp' fv) : PV K H G fp σ ρ' v w H' G' fp' fv :=
  ⟨p.c, s.trans p.st sg, p.r, p.nd, p.sep, fun a h => (p.nwv a h).elim (s.nw a) fun z => .inr (s.x.dom a z)⟩
theorem ResX.rebase (s : Step fp H G fp1 H1 G1) (sg : Same G1 H1) {x : Xn} {r : Rho} (h : ResX K mg E H G fp σ x r) : ResX K mg E H1 G1 fp1 σ x r :=
  fun cls dd H' G' fp' c s' xr => h cls dd H' G' fp' c (s.trans s' sg) xr
theorem ResE.rebase (s : Step fp H G fp1 H1 G1) (sg : Same G1 H1) {Q : VK} {o : Out Wv} (h : ResE K mg E H G fp σ Q o) : ResE K mg E H1 G1 fp1 σ Q o :=
  ResO.imp (fun _ _ q v H' G' fp' fv p => q v H' G' fp' fv (p.rebase s sg)) (fun _ _ q => ResX.rebase s sg q) h
theorem ResT.rebase (s : Step fp H G fp1 H1 G1) (sg : Same G1 H1) {Q : Bool → Hp → Prop} {o : Out Bool} (h : ResT K mg E H G fp σ Q o) : ResT K mg E H1 G1 fp1 σ Q o :=
  ResO.imp (fun _ _ q H' G' fp' c s' => q H' G' fp' c (s.trans s' sg)) (fun _ _ q => ResX.rebase s sg q) h
theorem ResA.rebase (s : Step fp H G fp1 H1 G1) (sg : Same G1 H1) {Q : List V → Hp → Prop} {o : Out (List D)} (h : ResA K mg E H G fp σ Q o) : ResA K mg E H1 G1 fp1 σ Q o :=
  ResO.imp (fun _ _ q vs H' G' fp' c s' => q vs H' G' fp' c (s.trans s' sg)) (fun _ _ q => ResX.rebase s sg q) h
theorem ResD.rebase (s : Step fp H G fp1 H1 G1) (sg : Same G1 H1) {Q : VK} {o : Out D} (h : ResD K mg E H G fp σ Q o) : ResD K mg E H1 G1 fp1 σ Q o :=
  ResO.imp (fun _ _ q vs H' G' fp' c s' => q vs H' G' fp' c (s.trans s' sg)) (fun _ _ q => ResX.rebase s sg q) h
/-- a value is frozen -/
theorem PV.frz {ρ' : Rho} {v : V} {w : Wv} {H' G' : Hp} {fp' : Fp} {fv : List Addr} (n : w.nos = true) (p : PV K H G fp σ ρ' v w H' G' fp' fv) :
    ∃ G2, Cfg K H' G2 σ ρ' fp' ∧ Step fp H G fp' H' G2 ∧ Dr K G2 v w.dat := by
  refine ⟨frzG H' G' fv, p.c.frz p.sep, ⟨⟨p.st.x.sg.trans (frzG_ge p.c.sg), fun a o h g np => ?_, p.st.x.dom⟩, p.st.nw⟩, Rw.frz (frzG_ge p.c.sg) w v fv n p.r fun a h => frzG_in h⟩
  obtain ⟨h1, g1⟩ := p.st.x.oth a o h g np
  refine ⟨h1, ?_⟩
  rw [frzG_out fun q => ?_]
  · exact g1
  · rcases p.nwv a q with z | z
    · exact np z
    · rw [h] at z; cases z
theorem ResE.frz {Q : VK} {o : Out Wv} (h : ResD K mg E H G fp σ Q (fz o)) : ResE K mg E H G fp σ Q o := by
  cases o with
  | bad => exact h
  | exc x r => exact h
  | ok w r =>
    intro v H' G' fp' fv p
    by_cases n : w.nos = true
    · have h' : ResD K mg E H G fp σ Q (.ok w.dat r) := by
        have e : fz (.ok w r) = .ok w.dat r := if_pos n
        rw [← e]; exact h
      obtain ⟨G2, c, s, d⟩ := p.frz n
      exact h' v H' G2 fp' c s d
    · have e : fz (.ok w r) = .bad := if_neg n
      rw [e] at h
      exact h.elim
/-- one part, then the rest -/
theorem seqD {α : Type} {pok : α → Rho → Prop} {o : Out D} {k : D → Rho → Out α} {R : VK} (h : ResO pok (ResX K mg E H G fp σ) (o.bind k))
    (f : ∀ d ρ' v H' G' fp', Cfg K H' G' σ ρ' fp' → Step fp H G fp' H' G' → Dr K G' v d → ResO pok (ResX K mg E H G fp σ) (k d ρ') → R v H') : ResD K mg E H G fp σ R o :=
  ResO.imp (fun d ρ' q v H' G' fp' c s dr => f d ρ' v H' G' fp' c s dr q) (fun _ _ q => q) (ResO.bind h)
theorem seqA {α : Type} {pok : α → Rho → Prop} {o : Out (List D)} {k : List D → Rho → Out α} {R : List V → Hp → Prop} (h : ResO pok (ResX K mg E H G fp σ) (o.bind k))
    (f : ∀ ds ρ' vs H' G' fp', Cfg K H' G' σ ρ' fp' → Step fp H G fp' H' G' → Drs K G' vs ds → ResO pok (ResX K mg E H G fp σ) (k ds ρ') → R vs H') : ResA K mg E H G fp σ R o :=
  ResO.imp (fun d ρ' q v H' G' fp' c s dr => f d ρ' v H' G' fp' c s dr q) (fun _ _ q => q) (ResO.bind h)
theorem seqT {α : Type} {pok : α → Rho → Prop} {o : Out Bool} {k : Bool → Rho → Out α} {R : Bool → Hp → Prop} (h : ResO pok (ResX K mg E H G fp σ) (o.bind k))
    (f : ∀ b ρ' H' G' fp', Cfg K H' G' σ ρ' fp' → Step fp H G fp' H' G' → ResO pok (ResX K mg E H G fp σ) (k b ρ') → R b H') : ResT K mg E H G fp σ R o :=
  ResO.imp (fun d ρ' q H' G' fp' c s => f d ρ' H' G' fp' c s q) (fun _ _ q => q) (ResO.bind h)
/-- the ends -/
theorem ResE.val {Q : VK} {v : V} {d : D} (c : Cfg K H G σ ρ fp) (dr : Dr K G v d) (h : ResE K mg E H G fp σ Q (.ok (.d d) ρ)) : Q v H :=
  h v H G fp [] ⟨c, .refl, by unfold Rw; exact ⟨rfl, dr⟩, List.nodup_nil, (fun _ z => nomatch z), (fun _ z => nomatch z)⟩
theorem ResE.tup {Q : VK} {vs : List V} {ds : List D} (c : Cfg K H G σ ρ fp) (dr : Drs K G vs ds) (h : ResE K mg E H G fp σ Q (.ok (.d (.tuple ds)) ρ)) (p : Addr) (hp : H p = none) : Q (.ref p) (upd H p (.tup vs)) := by
  have gp : G p = none := by
    cases e : G p with
    | none => rfl
    | some o => rw [c.sg p o e] at hp; cases hp
  have ne : ∀ a u, H a = some u → a ≠ p := fun a u h e => by rw [e, hp] at h; cases h
  have sg1 : Same G (upd G p (.tup vs)) := fun a u q => by rw [upd_ne (ne a u (c.sg a u q))]; exact q
  refine h (.ref p) (upd H p (.tup vs)) (upd G p (.tup vs)) fp [] ⟨c.grow (fun a u q => ?_) sg1 fun a q => ?_, ⟨⟨sg1, fun a u q g _ => ?_, fun a q => ?_⟩, fun _ z => .inl z⟩, ?_, List.nodup_nil, (fun _ z => nomatch z), (fun _ z => nomatch z)⟩
  · by_cases e : a = p
    · subst e; rw [upd_same] at q ⊢; exact q
    · rw [upd_ne e] at q ⊢; exact c.sg a u q
  · obtain ⟨ws, h1, h2⟩ := c.own q
    have e := ne a _ h1
    rw [upd_ne e, upd_ne e]
    exact ⟨rfl, h2⟩
  · have e := ne a u q
    rw [upd_ne e, upd_ne e]
    exact ⟨q, g⟩
  · by_cases e : a = p
    · rw [e]; exact hp
    · rw [upd_ne e] at q; exact q
  · unfold Rw
    refine ⟨rfl, ?_⟩
    unfold Dr
    exact ⟨p, vs, rfl, .inl (.inl upd_same), Drs.mono sg1 ds vs dr⟩
theorem ResE.lstW {Q : VK} {vs : List V} {ws : List Wv} {f : List Addr} (c : Cfg K H G σ ρ fp) (dr : Rws K H G vs ws f) (nd : f.Nodup) (sep : ∀ a ∈ f, ¬ Own fp a) (h : ∀ v H' G' fp' fv, Cfg K H' G' σ ρ fp' → Step fp H G fp' H' G' → Rw K H' G' v (.o ws) fv → fv.Nodup → (∀ a ∈ fv, ¬ Own fp' a) → (∀ a ∈ fv, a ∈ f ∨ H a = none) → Q v H') (p : Addr) (hp : H p = none) : Q (.ref p) (upd H p (.lst vs)) := by
  have gp : G p = none := by
    cases e : G p with
    | none => rfl
    | some o => rw [c.sg p o e] at hp; cases hp
  have pf : p ∉ f := fun q => by
    obtain ⟨_, z, _⟩ := Rws.there ws vs f dr p q
    rw [hp] at z; cases z
  refine h (.ref p) _ G fp (p :: f) (c.new hp) (.new hp) ?_ (List.nodup_cons.mpr ⟨pf, nd⟩) (fun a ha => ?_) fun a ha => ?_
  · unfold Rw
    refine ⟨p, vs, f, rfl, upd_same, gp, rfl, Rws.move (Same.refl _) ws vs f dr fun a ha => ?_⟩
    obtain ⟨_, _, g⟩ := Rws.there ws vs f dr a ha
    exact ⟨upd_ne fun e => pf (e ▸ ha), g⟩
  · rcases List.mem_cons.mp ha with e | e
    · subst e
      intro q
      obtain ⟨_, z, _⟩ := c.own q
      rw [hp] at z; cases z
    · exact sep a e
  · rcases List.mem_cons.mp ha with e | e
    · subst e; exact .inr hp
    · exact .inl e
theorem ResE.lst {Q : VK} {vs : List V} {ds : List D} (c : Cfg K H G σ ρ fp) (dr : Drs K G vs ds) (h : ResE K mg E H G fp σ Q (.ok (.o (ds.map .d)) ρ)) (p : Addr) (hp : H p = none) : Q (.ref p) (upd H p (.lst vs)) :=
  ResE.lstW c (Rws.of_drs dr) List.nodup_nil (fun _ z => nomatch z) (fun v H' G' fp' fv c' s' r' nd' sep' nw' => h v H' G' fp' fv ⟨c', s', r', nd', sep', fun a ha => (nw' a ha).elim (fun z => nomatch z) .inr⟩) p hp
end

/-! ## readings -/
def tS (K : Frg) (mg : Mg) (E : WX) (f : ES) : TE := fun σ H Q => ∃ G ρ fp, Cfg K H G σ ρ fp ∧ ResE K mg E H G fp σ Q (f ρ)
def tD (K : Frg) (mg : Mg) (E : WX) (f : ES) : TE := fun σ H Q => ∃ G ρ fp, Cfg K H G σ ρ fp ∧ ResD K mg E H G fp σ Q (fz (f ρ))
def tT (K : Frg) (mg : Mg) (E : WX) (f : Rho → Out Bool) : TT := fun σ H Q => ∃ G ρ fp, Cfg K H G σ ρ fp ∧ ResT K mg E H G fp σ Q (f ρ)
def tA (K : Frg) (mg : Mg) (E : WX) (f : Rho → Out (List D)) : TA := fun σ H Q => ∃ G ρ fp, Cfg K H G σ ρ fp ∧ ResA K mg E H G fp σ Q (f ρ)
theorem pe_sub {X : Cx} {e : Expr} {t t' : TE} (h : PE X e t) (w : ∀ σ H Q, t' σ H Q → t σ H Q) : PE X e t' := ⟨fun pins s σ H Q I q => h.run pins s σ H Q I (w σ H Q q)⟩
theorem pt_sub {X : Cx} {e : Expr} {t t' : TT} (h : PT X e t) (w : ∀ σ H Q, t' σ H Q → t σ H Q) : PT X e t' := ⟨fun pins s σ H Q I q => h.run pins s σ H Q I (w σ H Q q)⟩
theorem pw_sub {X : Cx} {e : Expr} {t t' : TT} (h : PW X e t) (w : ∀ σ H Q, t' σ H Q → t σ H Q) : PW X e t' := ⟨fun wh pins s σ H Q I q => h.run wh pins s σ H Q I (w σ H Q q)⟩
theorem pa_sub {X : Cx} {es : List Expr} {t t' : TA} (h : PA X es t) (w : ∀ σ H Q, t' σ H Q → t σ H Q) : PA X es t' := ⟨fun pos pins s σ H Q I q => h.run pos pins s σ H Q I (w σ H Q q)⟩
theorem ps_sub {X : Cx} {st : Stmt} {t t' : TS} (h : PS X st t) (w : ∀ D σ H, t' D σ H → t D σ H) : PS X st t' := ⟨fun pins s σ H D I q => h.run pins s σ H D I (w D σ H q)⟩
theorem pss_sub {X : Cx} {st : List Stmt} {t t' : TS} (h : PSs X st t) (w : ∀ D σ H, t' D σ H → t D σ H) : PSs X st t' := ⟨fun pins s σ H D I q => h.run pins s σ H D I (w D σ H q)⟩
def SE (X : Cx) (E : WX) (e : Expr) (f : ES) : Prop := PE X e (tS X.K X.mg E f)
def SD (X : Cx) (E : WX) (e : Expr) (f : ES) : Prop := PE X e (tD X.K X.mg E f)
def ST (X : Cx) (E : WX) (e : Expr) (f : Rho → Out Bool) : Prop := PT X e (tT X.K X.mg E f)
def SW (X : Cx) (E : WX) (e : Expr) (f : Rho → Out Bool) : Prop := PW X e (tT X.K X.mg E f)
def SA (X : Cx) (E : WX) (es : List Expr) (f : Rho → Out (List D)) : Prop := PA X es (tA X.K X.mg E f)
section
variable {X : Cx} {E : WX} {e a b c : Expr} {es : List Expr} {f fa fb fc : ES} {fs : Rho → Out (List D)} {pos : Pos}
theorem SE.D (h : SE X E e f) : SD X E e f := pe_sub h fun σ H Q ⟨G, ρ, fp, c, q⟩ => ⟨G, ρ, fp, c, ResE.frz q⟩

/-! ### arguments -/
def aNil : Rho → Out (List D) := fun ρ => .ok [] ρ
def aCons (f : ES) (fs : Rho → Out (List D)) : Rho → Out (List D) := fun ρ => (fz (f ρ)).bind fun d r => (fs r).bind fun ds r => .ok (d :: ds) r
theorem sa_nil : SA X E [] aNil := pa_sub pa_nil fun σ H Q ⟨G, ρ, fp, c, q⟩ => q [] H G fp c .refl Drs.nil
theorem sa_cons (ha : SE X E e f) (hr : SA X E es fs) (hs : starEach (e :: es) X.env = (false, eval e X.env) :: starEach es X.env := by rfl) : SA X E (e :: es) (aCons f fs) :=
  pa_sub (pa_cons ha.D hr hs) fun σ H Q ⟨G, ρ, fp, c, q⟩ => ⟨G, ρ, fp, c, seqD q fun d r v H1 G1 fp1 c1 s1 d1 q1 =>
    ⟨G1, r, fp1, c1, seqA (ResA.rebase s1 c1.sg q1) fun ds r2 vs H2 G2 fp2 c2 s2 d2 q2 => q2 _ _ _ _ c2 s2 (Drs.cons (Dr.mono s2.x.sg d v d1) d2)⟩⟩
end
end FW

set_option Elab.async false
set_option linter.all false
set_option maxRecDepth 100000
set_option maxHeartbeats 1000001
namespace FW
open PySem PySem.Spec L2
section
variable {X : Cx} {E : WX} {e a b c : Expr} {es : List Expr} {f fa fb fc : ES} {fs : Rho → Out (List D)} {pos : Pos}
theorem Dr.int_inv {K : Frg} {G : Hp} {v : V} {i : Int} (h : Dr K G v (.int i)) : v = .int i := by unfold Dr at h; exact h
theorem Dr.bool_inv {K : Frg} {G : Hp} {v : V} {i : Bool} (h : Dr K G v (.bool i)) : v = .bl i := by unfold Dr at h; exact h
theorem Dr.str_inv {K : Frg} {G : Hp} {v : V} {i : Str} (h : Dr K G v (.str i)) : v = .str i := by unfold Dr at h; exact h
theorem Dr.none_inv {K : Frg} {G : Hp} {v : V} (h : Dr K G v .none) : v = .non := by unfold Dr at h; exact h
theorem Dr.tup_inv {K : Frg} {G : Hp} {v : V} {ds : List D} (h : Dr K G v (.tuple ds)) : ∃ a xs, v = .ref a ∧ SqT K G a xs ∧ Drs K G xs ds := by unfold Dr at h; exact h
theorem Dr.lst_inv {K : Frg} {G : Hp} {v : V} {ds : List D} (h : Dr K G v (.list ds)) : ∃ a xs, v = .ref a ∧ G a = some (.lst xs) ∧ Drs K G xs ds := by unfold Dr at h; exact h
theorem Dr.dct_inv {K : Frg} {G : Hp} {v : V} {ds : List (D × D)} (h : Dr K G v (.dict ds)) : ∃ a xs, v = .ref a ∧ G a = some (.dK xs) ∧ Drk K G xs ds := by unfold Dr at h; exact h
theorem Dr.int {K : Frg} {G : Hp} {i : Int} : Dr K G (.int i) (.int i) := by unfold Dr; rfl
theorem Dr.bool {K : Frg} {G : Hp} {i : Bool} : Dr K G (.bl i) (.bool i) := by unfold Dr; rfl
theorem Dr.str {K : Frg} {G : Hp} {i : Str} : Dr K G (.str i) (.str i) := by unfold Dr; rfl
theorem Dr.none {K : Frg} {G : Hp} : Dr K G .non .none := by unfold Dr; rfl
theorem Dr.tup {K : Frg} {G : Hp} {a : Addr} {xs : List V} {ds : List D} (h : SqT K G a xs) (q : Drs K G xs ds) : Dr K G (.ref a) (.tuple ds) := by unfold Dr; exact ⟨a, xs, rfl, h, q⟩
theorem Dr.lst {K : Frg} {G : Hp} {a : Addr} {xs : List V} {ds : List D} (h : G a = some (.lst xs)) (q : Drs K G xs ds) : Dr K G (.ref a) (.list ds) := by unfold Dr; exact ⟨a, xs, rfl, h, q⟩

/-! ## names, constants -/
def sVar (i : Nat) : ES := fun ρ => match ρ[i]? with
  | some (some w) => if w.nos = true then .ok (.d w.dat) (ρ.set i (some (.d w.dat))) else .bad
  | _ => .bad
def upF (fp : Fp) (i : Nat) (f : List Addr) : Fp := fun j => if j = i then f else fp j
theorem upF_same {fp : Fp} {i : Nat} {f : List Addr} : upF fp i f i = f := by unfold upF; rw [if_pos rfl]
theorem upF_ne {fp : Fp} {i j : Nat} {f : List Addr} (h : j ≠ i) : upF fp i f j = fp j := by unfold upF; rw [if_neg h]
theorem Own.up {fp : Fp} {i : Nat} {f : List Addr} {a : Addr} (h : Own (upF fp i f) a) : a ∈ f ∨ ∃ j, j ≠ i ∧ a ∈ fp j := by
  obtain ⟨j, hj⟩ := h
  by_cases e : j = i
  · rw [e, upF_same] at hj; exact .inl hj
  · rw [upF_ne e] at hj; exact .inr ⟨j, e, hj⟩
/-- a slot's new content (or none: forgotten) -/
theorem Cfg.put {K : Frg} {H G : Hp} {σ : St} {ρ : Rho} {fp : Fp} (c : Cfg K H G σ ρ fp) {i : Nat} {x : Option V} {y : Option Wv} {f : List Addr} (r : ∀ w, y = some w → ∃ v, x = some v ∧ Rw K H G v w f) (ny : y = Option.none → f = [])
    (nd : f.Nodup) (sep : ∀ a ∈ f, ∀ j, j ≠ i → a ∉ fp j) (hi : i < ρ.length) :
    Cfg K H G (σ.set i x) (ρ.set i y) (upF fp i f) := by
  have his : i < σ.length := by rw [c.len]; exact hi
  refine ⟨c.sg, by simp [c.len], fun j u e => ?_, fun j n => ?_, fun j => ?_, fun j k a h1 h2 => ?_⟩
  · by_cases e2 : j = i
    · subst e2
      rw [List.getElem?_set_self hi] at e
      obtain ⟨v, e3, q⟩ := r u (Option.some.inj e)
      exact ⟨v, by rw [List.getElem?_set_self his, e3], by rw [upF_same]; exact q⟩
    · rw [List.getElem?_set_ne (Ne.symm e2)] at e
      obtain ⟨v, h1, h2⟩ := c.get j u e
      exact ⟨v, by rw [List.getElem?_set_ne (Ne.symm e2)]; exact h1, by rw [upF_ne e2]; exact h2⟩
  · by_cases e2 : j = i
    · subst e2
      rw [upF_same]
      refine ny ?_
      cases y with
      | none => rfl
      | some w => exact absurd (List.getElem?_set_self hi) (n w)
    · rw [upF_ne e2]
      exact c.nil j fun u z => n u (by rw [List.getElem?_set_ne (Ne.symm e2)]; exact z)
  · by_cases e2 : j = i
    · rw [e2, upF_same]; exact nd
    · rw [upF_ne e2]; exact c.nd j
  · by_cases e2 : j = i <;> by_cases e3 : k = i
    · rw [e2, e3]
    · rw [e2, upF_same] at h1; rw [upF_ne e3] at h2
      exact absurd h2 (sep a h1 k e3)
    · rw [upF_ne e2] at h1; rw [e3, upF_same] at h2
      exact absurd h1 (sep a h2 j e2)
    · rw [upF_ne e2] at h1; rw [upF_ne e3] at h2
      exact c.dis j k a h1 h2
theorem set_same {α : Type} {σ : List α} {i : Nat} {v : α} (h : σ[i]? = some v) : σ.set i v = σ := by
  apply List.ext_getElem?
  intro j
  by_cases e : i = j
  · subst e
    rw [List.getElem?_set_self (List.getElem?_eq_some_iff.mp h).1, h]
  · rw [List.getElem?_set_ne e]
theorem set_set {α : Type} {σ : List α} {i : Nat} {v w : α} : (σ.set i v).set i w = σ.set i w := by
  apply List.ext_getElem?
  intro j
  by_cases e : i = j
  · subst e
    by_cases h : i < σ.length
    · rw [List.getElem?_set_self (by simpa using h), List.getElem?_set_self h]
    · rw [List.getElem?_eq_none (by simpa using h), List.getElem?_eq_none (by simpa using h)]
  · rw [List.getElem?_set_ne e, List.getElem?_set_ne e, List.getElem?_set_ne e]
/-- a slot with frozen data -/
theorem Cfg.putD {K : Frg} {H G : Hp} {σ : St} {ρ : Rho} {fp : Fp} (c : Cfg K H G σ ρ fp) {i : Nat} {v : V} {d : D} (r : Dr K G v d) (hi : i < ρ.length) : Cfg K H G (σ.set i (some v)) (ρ.set i (some (.d d))) (upF fp i []) :=
  c.put (fun w e => ⟨v, rfl, by cases e; unfold Rw; exact ⟨rfl, r⟩⟩) (fun e => nomatch e) List.nodup_nil (fun _ z => nomatch z) hi
theorem Step.less {fp : Fp} {H G : Hp} {i : Nat} : Step fp H G (upF fp i []) H G := ⟨.refl, fun a h => by
  rcases h.up with z | ⟨j, _, z⟩
  · cases z
  · exact .inl ⟨j, z⟩⟩
/-- freeze a slot -/
theorem Cfg.frzAt {K : Frg} {H G : Hp} {σ : St} {ρ : Rho} {fp : Fp} (c : Cfg K H G σ ρ fp) {i : Nat} {w : Wv} (e : ρ[i]? = some (some w)) (n : w.nos = true) :
    ∃ v G' fp', σ[i]? = some (some v) ∧ Cfg K H G' σ (ρ.set i (some (.d w.dat))) fp' ∧ Step fp H G fp' H G' ∧ Dr K G' v w.dat := by
  obtain ⟨v, e1, r⟩ := c.get i w e
  have hi : i < ρ.length := (List.getElem?_eq_some_iff.mp e).1
  have c1 : Cfg K H G (σ.set i (some v)) (ρ.set i Option.none) (upF fp i []) := c.put (fun w e => nomatch e) (fun _ => rfl) List.nodup_nil (fun _ z => nomatch z) hi
  rw [set_same e1] at c1
  have nown : ∀ a ∈ fp i, ¬ Own (upF fp i []) a := fun a ha h => by
    rcases h.up with z | ⟨j, hj, z⟩
    · cases z
    · exact hj (c.dis j i a z ha)
  have c2 := c1.frz nown
  have dr : Dr K (frzG H G (fp i)) v w.dat := Rw.frz (frzG_ge c.sg) w v _ n r fun a h => frzG_in h
  have c3 := c2.putD (i := i) dr (by simpa using hi)
  rw [set_set, set_same e1] at c3
  refine ⟨v, _, _, e1, c3, ⟨.frz c.sg fun a h => ⟨i, h⟩, fun a h => ?_⟩, dr⟩
  rcases h.up with z | ⟨j, hj, z⟩
  · cases z
  · rw [upF_ne hj] at z; exact .inl ⟨j, z⟩
theorem se_var (i : Nat) {x : Str} {pos : Pos} (hN : X.N[i]? = some x := by rfl) (hv : Vis X.env.scope x := by first | exact Or.inl rfl | exact Or.inr (Or.inl rfl) | exact Or.inr (Or.inr rfl)) (hd : (x == ("__debug__" : Str)) = false := by decide)
    (hcd : (x == ("__classdict__" : Str)) = false := by decide) : SE X E (.Name x pos) (sVar i) :=
  pe_sub (pe_var hN hv hd hcd) fun σ H Q ⟨G, ρ, fp, c, q⟩ => by
    unfold sVar at q
    split at q
    · rename_i w e
      by_cases n : w.nos = true
      · rw [if_pos n] at q
        obtain ⟨v, G', fp', e1, c', s', dr⟩ := c.frzAt e n
        exact ⟨v, e1, ResE.val c' dr (ResE.rebase s' c'.sg q)⟩
      · rw [if_neg n] at q; exact q.elim
    · exact q.elim
def sK (d : D) : ES := fun ρ => .ok (.d d) ρ
theorem se_k {v : V} {d : D} (h : PE X e (tC v)) (dr : ∀ G, Dr X.K G v d) : SE X E e (sK d) := pe_sub h fun σ H Q ⟨G, ρ, fp, c, q⟩ => ResE.val c (dr G) q
theorem se_int {i : Int} {j : Nat} : SE X E (.Constant (.int i) j pos) (sK (.int i)) := se_k pe_int fun _ => Dr.int
theorem se_bl {b : Bool} {j : Nat} : SE X E (.Constant (.bool b) j pos) (sK (.bool b)) := se_k pe_bl fun _ => Dr.bool
theorem se_str {b : Str} {j : Nat} : SE X E (.Constant (.str b) j pos) (sK (.str b)) := se_k pe_str fun _ => Dr.str
theorem se_non {j : Nat} : SE X E (.Constant .none j pos) (sK .none) := se_k pe_non fun _ => Dr.none
/-- a module's constant -/
theorem se_glob {x : Str} {v : V} {u : Value} {d : D} (hm : X.mg x = some u) (r : RelV v u) (dr : ∀ G, Dr X.K G v d) (hg : Gl X x := by rfl) (hd : (x == ("__debug__" : Str)) = false := by decide) : SE X E (.Name x pos) (sK d) := se_k (pe_glob hg hm r hd) dr

/-! ## two operands -/
def sBin (p : D → D → Option Wv) (fa fb : ES) : ES := fun ρ => (fz (fa ρ)).bind fun x r => (fz (fb r)).bind fun y r => ofO (p x y) r
def rP (K : Frg) (mg : Mg) (E : WX) (p : D → D → Option Wv) : R2 := fun x y H Q => ∃ G ρ fp σ d1 d2, Cfg K H G σ ρ fp ∧ Dr K G x d1 ∧ Dr K G y d2 ∧ ResE K mg E H G fp σ Q (ofO (p d1 d2) ρ)
theorem seqDD {K : Frg} {mg : Mg} {k : D → D → Rho → Out Wv} {σ : St} {H : Hp} {Q : VK} {R : V → V → Hp → Prop} (h : tS K mg E (fun ρ => (fz (fa ρ)).bind fun x r => (fz (fb r)).bind fun y r => k x y r) σ H Q)
    (w : ∀ x y H2 G2 fp2 ρ2 d1 d2, Cfg K H2 G2 σ ρ2 fp2 → Dr K G2 x d1 → Dr K G2 y d2 → ResE K mg E H2 G2 fp2 σ Q (k d1 d2 ρ2) → R x y H2) :
    tD K mg E fa σ H fun x H1 => tD K mg E fb σ H1 fun y H2 => R x y H2 := by
  obtain ⟨G, ρ, fp, c, q⟩ := h
  exact ⟨G, ρ, fp, c, seqD q fun d r v H1 G1 fp1 c1 s1 d1 q1 => ⟨G1, r, fp1, c1, seqD (ResE.rebase s1 c1.sg q1) fun d' r2 v2 H2 G2 fp2 c2 s2 d2 q2 =>
    w v v2 H2 G2 fp2 r2 d d' c2 (Dr.mono s2.x.sg d v d1) d2 (ResE.rebase s2 c2.sg q2)⟩⟩
theorem se_op {op : Operator} {p : D → D → Option Wv} (ho : OpR X (binaryOp op) (rP X.K X.mg E p)) (ha : SE X E a fa) (hb : SE X E b fb) : SE X E (.BinOp a op b pos) (sBin p fa fb) :=
  pe_sub (pe_op ho ha.D hb.D) fun σ H Q h => seqDD h fun x y H2 G2 fp2 ρ2 d1 d2 c2 e1 e2 q => ⟨G2, ρ2, fp2, σ, d1, d2, c2, e1, e2, q⟩
theorem se_cmp {op : CmpOp} {p : D → D → Option Wv} (ho : OpR X (compareOp op) (rP X.K X.mg E p)) (ha : SE X E a fa) (hb : SE X E b fb) (hm : behindInMarks op b = false := by first | exact nomark _ | rfl) : SE X E (.Compare a [op] [b] pos) (sBin p fa fb) :=
  pe_sub (pe_cmpR ho ha.D hb.D hm) fun σ H Q h => seqDD h fun x y H2 G2 fp2 ρ2 d1 d2 c2 e1 e2 q => ⟨G2, ρ2, fp2, σ, d1, d2, c2, e1, e2, q⟩
end
end FW

set_option Elab.async false
set_option linter.all false
set_option maxRecDepth 100000
set_option maxHeartbeats 1000001
namespace FW
open PySem PySem.Spec L2
section
variable {X : Cx} {E : WX} {e a b c : Expr} {es : List Expr} {f fa fb fc : ES} {fs : Rho → Out (List D)} {pos : Pos}
theorem Cfg.tr {K : Frg} {H G : Hp} {σ : St} {ρ : Rho} {fp : Fp} (c : Cfg K H G σ ρ fp) {v : V} {d : D} (h : Dr K G v d) : Dr K H v d := Dr.mono c.sg d v h
theorem line6 : (1000000 : Nat) ≤ sizeLine := by rw [sizeLine_eq]; decide
def intD : D → Option Int
  | .int i => some i
  | _ => none
def pAdd : D → D → Option Wv
  | .int i, .int j => some (.d (.int (i + j)))
  | .str i, .str j => if i.length + j.length ≤ 1000000 then some (.d (.str (i ++ j))) else none
  | .tuple i, .tuple j => if i.length + j.length ≤ 1000000 then some (.d (.tuple (i ++ j))) else none
  | .list i, .list j => if i.length + j.length ≤ 1000000 then some (.o ((i ++ j).map .d)) else none
  | _, _ => none
theorem or_add : OpR X (binaryOp .Add) (rP X.K X.mg E pAdd) := by
  intro pins s σ H x y v u Q I rx ry ⟨G, ρ, fp, σ', d1, d2, c, e1, e2, q⟩
  unfold pAdd at q
  split at q
  · rename_i i j
    exact op_add pins s σ H x y v u Q I rx ry ⟨i, j, e1.int_inv, e2.int_inv, ResE.val c Dr.int q⟩
  · rename_i i j
    split at q
    · rename_i h
      exact op_add_str pins s σ H x y v u Q I rx ry ⟨i, j, e1.str_inv, e2.str_inv, Nat.le_trans h line6, ResE.val c Dr.str q⟩
    · exact q.elim
  · rename_i i j
    split at q
    · rename_i h
      obtain ⟨a1, xs, ea, ha, da⟩ := e1.tup_inv
      obtain ⟨b1, ys, eb, hb, db⟩ := e2.tup_inv
      refine op_catA pins s σ H x y v u Q I rx ry ⟨a1, b1, xs, ys, ea, eb, same_seqT c.sg ha, same_seqT c.sg hb, by rw [da.length, db.length]; exact Nat.le_trans h line6, fun z => ?_, fun _ z => ?_, fun _ _ => ResE.tup c (da.append db) q⟩
      · subst z
        cases i with
        | nil => rw [List.nil_append] at q; exact ResE.val c (Dr.tup hb db) q
        | cons _ _ => exact absurd da.length (by simp)
      · subst z
        cases j with
        | nil => rw [List.append_nil] at q; exact ResE.val c (Dr.tup ha da) q
        | cons _ _ => exact absurd db.length (by simp)
    · exact q.elim
  · rename_i i j
    split at q
    · rename_i h
      obtain ⟨a1, xs, ea, ha, da⟩ := e1.lst_inv
      obtain ⟨b1, ys, eb, hb, db⟩ := e2.lst_inv
      exact op_cat pins s σ H x y v u Q I rx ry ⟨a1, b1, xs, ys, ea, eb, c.sg _ _ ha, c.sg _ _ hb, by rw [da.length, db.length]; exact Nat.le_trans h line6, ResE.lst c (da.append db) q⟩
    · exact q.elim
  · exact q.elim
def pSub : D → D → Option Wv
  | .int i, .int j => some (.d (.int (i - j)))
  | _, _ => none
theorem or_sub : OpR X (binaryOp .Sub) (rP X.K X.mg E pSub) := by
  intro pins s σ H x y v u Q I rx ry ⟨G, ρ, fp, σ', d1, d2, c, e1, e2, q⟩
  unfold pSub at q
  split at q
  · rename_i i j
    exact op_sub pins s σ H x y v u Q I rx ry ⟨i, j, e1.int_inv, e2.int_inv, ResE.val c Dr.int q⟩
  · exact q.elim
/-- the size that products, divisions look at -/
def big (i : Int) : Nat := i.natAbs.log2
def pMul : D → D → Option Wv
  | .int i, .int j => if big i + big j < 100000000 then some (.d (.int (i * j))) else none
  | .list i, .int j => if 0 ≤ j ∧ j ≤ 1000 ∧ i.length ≤ 1000 then some (.o ((List.replicate j.toNat i).flatten.map .d)) else none
  | .tuple i, .int j => if 1 ≤ j ∧ j ≤ 1000 ∧ i.length ≤ 1000 ∧ i ≠ [] then some (.d (.tuple (List.replicate j.toNat i).flatten)) else none
  | _, _ => none
theorem Drs.rep {K : Frg} {G : Hp} {xs : List V} {ds : List D} (h : Drs K G xs ds) : ∀ n : Nat, Drs K G (List.replicate n xs).flatten (List.replicate n ds).flatten
  | 0 => Drs.nil
  | n + 1 => by
    rw [List.replicate_succ, List.replicate_succ, List.flatten_cons, List.flatten_cons]; exact h.append (Drs.rep h n)
def pDiv : D → D → Option Wv
  | .int i, .int j => if j ≠ 0 ∧ (big j < 9000 ∨ big i < 13500) then some (.d (.int (i.fdiv j))) else none
  | _, _ => none
theorem noPy {x y : Int} (h : big y < 9000 ∨ big x < 13500) : Builtin.divisionGoesByPylong x y = false := by
  rcases h with h | h
  · exact PyProof.noPylong_of_log2 h
  · have key : ¬ ((if y == 0 then 0 else y.natAbs.log2 / 30 + 1) > 300 ∧ (if x == 0 then 0 else x.natAbs.log2 / 30 + 1) > (if y == 0 then 0 else y.natAbs.log2 / 30 + 1) + 150) := by
      rintro ⟨h1, h2⟩
      have h3 : (if x == 0 then 0 else x.natAbs.log2 / 30 + 1) ≤ 450 := by
        unfold big at h
        split
        · exact Nat.zero_le _
        · omega
      omega
    show (decide ((if y == 0 then 0 else y.natAbs.log2 / 30 + 1) > 300) && decide ((if x == 0 then 0 else x.natAbs.log2 / 30 + 1) > (if y == 0 then 0 else y.natAbs.log2 / 30 + 1) + 150)) = false
    rw [← Bool.decide_and, decide_eq_false key]
theorem or_div : OpR X (binaryOp .FloorDiv) (rP X.K X.mg E pDiv) := by
  intro pins s σ H x y v u Q I rx ry ⟨G, ρ, fp, σ', d1, d2, c, e1, e2, q⟩
  unfold pDiv at q
  split at q
  · rename_i i j
    split at q
    · rename_i h
      exact (opI (C := fun i j => j ≠ 0 ∧ (big j < 9000 ∨ big i < 13500)) (g := fun i j => i.fdiv j) fun _ _ _ _ _ _ _ hc q => PyProof.Rows.floordiv_int hc.1 q (.inl (noPy hc.2))) pins s σ H x y v u Q I rx ry
        ⟨i, j, e1.int_inv, e2.int_inv, h, ResE.val c Dr.int q⟩
    · exact q.elim
  · exact q.elim
def pMod : D → D → Option Wv
  | .int i, .int j => if j ≠ 0 then some (.d (.int (i.fmod j))) else none
  | _, _ => none
theorem or_mod : OpR X (binaryOp .Mod) (rP X.K X.mg E pMod) := by
  intro pins s σ H x y v u Q I rx ry ⟨G, ρ, fp, σ', d1, d2, c, e1, e2, q⟩
  unfold pMod at q
  split at q
  · rename_i i j
    split at q
    · rename_i h
      exact op_modN pins s σ H x y v u Q I rx ry ⟨i, j, e1.int_inv, e2.int_inv, h, ResE.val c Dr.int q⟩
    · exact q.elim
  · exact q.elim
def pPow : D → D → Option Wv
  | .int i, .int j => if 0 ≤ j ∧ j ≤ 1000 ∧ i.natAbs < 1000000 then some (.d (.int (i ^ j.toNat))) else none
  | _, _ => none
theorem or_pow : OpR X (binaryOp .Pow) (rP X.K X.mg E pPow) := by
  intro pins s σ H x y v u Q I rx ry ⟨G, ρ, fp, σ', d1, d2, c, e1, e2, q⟩
  unfold pPow at q
  split at q
  · rename_i i j
    split at q
    · rename_i h
      exact op_pow pins s σ H x y v u Q I rx ry ⟨i, j, e1.int_inv, e2.int_inv, ⟨h.1, by omega, Nat.lt_of_lt_of_le h.2.2 (by decide)⟩, ResE.val c Dr.int q⟩
    · exact q.elim
  · exact q.elim
theorem tuple_one (l : Addr) (items : Array Value) (n : Nat) (dd : Option Addr) (sl : Array (Option Value)) (u : Tok) :
    Meets (Builtin.«tuple.__mul__» ⟨[.ref l, .int 1 u], []⟩) (fun _ R s => s.heap.get? l = some { cls := .type "tuple", dict := dd, data := .seq items n, slots := sl } ∧ R (.ok (.ret (Value.ref l))) s) :=
  .of_wp fun prog w A R st h => by 
    obtain ⟨hp, g, d, tk, os⟩ := st; obtain ⟨hl, h⟩ := h; have f1 := AutoSeq1.idx_int
    wp_walk using wpAny_loadPart' hl; exact ⟨_, rfl, h⟩
/-- t * 1 is t -/
theorem op_rep1 : OpR X (binaryOp .Mult) (fun x y H Q => ∃ l xs, x = .ref l ∧ y = .int 1 ∧ SqT X.K H l xs ∧ Q (.ref l) H) := by
  intro pins s σ H x y v u Q I rx ry h; obtain ⟨l, xs, rfl, rfl, hT, q⟩ := h
  cases rx
  obtain ⟨t, rfl⟩ := ry
  obtain ⟨its, r, ⟨⟨cls, dd, data, sl⟩, ho, hc, n, hd⟩, hs⟩ := I.tuple hT; simp only at hc hd
  subst hc hd
  refine wpAny_binaryOp_repeat_ref (T := "tuple") (U := "int") (by decide) ⟨_, ho, rfl⟩ (fun s' => typeIs_int s' 1 t) noFill_tuple_mul PySem.F.fills_int_mul PySem.F.slot_int_rmul repeat_tuple PySem.F.slot_int_index.lookup
    (call_meets PySem.F.slot_int_rmul (typeIs_int s 1 t) PySem.F.entry_int_rmul (PySem.F.args_int_rmul_2 _ _) (int_rmul_tuple 1 t l its.toArray n dd sl)
      ⟨ho, rfl, ⟨_, ho, rfl⟩, call_meets PySem.F.slot_tuple_mul ⟨_, ho, rfl⟩ PySem.F.entry_tuple_mul (PySem.F.args_tuple_mul_2 _ _) (tuple_one l its.toArray n dd sl t) ⟨ho, ?_⟩⟩)
  exact ⟨.ref l, H, I, rfl, q⟩
theorem mulOk {i j : Int} (h : big i + big j < 100000000) : IntMulOk i j := by
  have b (x : Int) : Builtin.Int.intBits x ≤ x.natAbs.log2 + 1 := by
    unfold Builtin.Int.intBits
    split <;> omega
  have h1 := b i
  have h2 := b j
  unfold big at h
  have eLine : bitsLine = 134217728 := by decide
  have e := eLine
  unfold IntMulOk
  intro z
  rw [Bool.and_eq_true] at z
  have z2 := z.2
  unfold PySem.Builtin.Int.intTooBig at z2
  have z3 := (of_decide_eq_true (z2))
  rw [e] at z3
  omega
theorem or_mul : OpR X (binaryOp .Mult) (rP X.K X.mg E pMul) := by
  intro pins s σ H x y v u Q I rx ry ⟨G, ρ, fp, σ', d1, d2, c, e1, e2, q⟩
  unfold pMul at q
  split at q
  · rename_i i j
    split at q
    · rename_i h
      exact (opI (C := fun i j => big i + big j < 100000000) (g := fun i j => i * j) fun _ _ _ _ _ _ _ hc q => PyProof.Rows.mul_int q (mulOk hc)) pins s σ H x y v u Q I rx ry ⟨i, j, e1.int_inv, e2.int_inv, h, ResE.val c Dr.int q⟩
    · exact q.elim
  · rename_i i j
    split at q
    · rename_i h
      obtain ⟨a1, xs, ea, ha, da⟩ := e1.lst_inv
      refine op_rep pins s σ H x y v u Q I rx ry ⟨a1, j, xs, ea, e2.int_inv, c.sg _ _ ha, by omega, by omega, ?_, ResE.lst c (da.rep _) q⟩
      rw [da.length]
      exact Nat.le_trans (Nat.mul_le_mul h.2.2 (show j.toNat ≤ 1000 by omega)) line6
    · exact q.elim
  · rename_i i j
    split at q
    · rename_i h
      obtain ⟨a1, xs, ea, ha, da⟩ := e1.tup_inv
      by_cases h1 : j = 1
      · subst h1
        refine op_rep1 pins s σ H x y v u Q I rx ry ⟨a1, xs, ea, e2.int_inv, same_seqT c.sg ha, ?_⟩
        have z : (List.replicate (1 : Int).toNat i).flatten = i := by simp
        rw [z] at q
        rw [← ea]
        exact ResE.val c e1 q
      · refine op_repT pins s σ H x y v u Q I rx ry ⟨a1, j, xs, ea, e2.int_inv, same_seqT c.sg ha, fun z => h.2.2.2 ?_, by omega, by omega, by rw [da.length]; exact h.2.2.1, ResE.tup c (da.rep _) q⟩
        rw [z] at da
        exact List.eq_nil_of_length_eq_zero (da.length.symm)
    · exact q.elim
  · exact q.elim

/-! ## comparisons -/
def strP : D → D → Option (Str × Str)
  | .str a, .str b => some (a, b)
  | _, _ => none
def pEq : D → D → Option Wv := fun x y => match strP x y with
  | some z => some (.d (.bool (decide (z.1 = z.2))))
  | none => if SeqAt.shaped x = true ∧ SeqAt.shaped y = true then some (.d (.bool (PyData.eqv x y))) else none
def pNe : D → D → Option Wv := fun x y => match strP x y with
  | some z => some (.d (.bool (!decide (z.1 = z.2))))
  | none => if SeqAt.shaped x = true ∧ SeqAt.shaped y = true then some (.d (.bool (!PyData.eqv x y))) else none
theorem strP_some {x y : D} {z : Str × Str} (h : strP x y = some z) : x = .str z.1 ∧ y = .str z.2 := by
  unfold strP at h
  split at h
  · cases h; exact ⟨rfl, rfl⟩
  · cases h
theorem str_dec {a b : Str} : decide (V.str a = V.str b) = decide (a = b) := by by_cases h : a = b <;> simp [h]
theorem canLay_of {d : D} (h : SeqAt.shaped d = true) : d.canLay0 = true := SeqAt.canLay_of_shaped h
theorem or_eq (hu : X.A.units + 64 < cLine) : OpR X (compareOp .Eq) (rP X.K X.mg E pEq) := by
  intro pins s σ H x y v u Q I rx ry ⟨G, ρ, fp, σ', d1, d2, c, e1, e2, q⟩
  unfold pEq at q
  split at q
  · rename_i z e
    obtain ⟨h1, h2⟩ := strP_some e
    rw [h1] at e1
    rw [h2] at e2
    have z1 := e1.str_inv
    have z2 := e2.str_inv
    subst z1 z2
    refine op_eq pins s σ H _ _ v u Q I rx ry ⟨rfl, ?_⟩
    rw [str_dec]
    exact ResE.val c Dr.bool q
  · split at q
    · rename_i h
      exact op_eqD hu pins s σ H x y v u Q I rx ry ⟨d1, d2, Dr.dp d1 x (canLay_of h.1) (c.tr e1), Dr.dp d2 y (canLay_of h.2) (c.tr e2), h.1, h.2, ResE.val c Dr.bool q⟩
    · exact q.elim
theorem or_ne (hu : X.A.units + 64 < cLine) : OpR X (compareOp .NotEq) (rP X.K X.mg E pNe) := by
  intro pins s σ H x y v u Q I rx ry ⟨G, ρ, fp, σ', d1, d2, c, e1, e2, q⟩
  unfold pNe at q
  split at q
  · rename_i z e
    obtain ⟨h1, h2⟩ := strP_some e
    rw [h1] at e1
    rw [h2] at e2
    have z1 := e1.str_inv
    have z2 := e2.str_inv
    subst z1 z2
    refine op_ne pins s σ H _ _ v u Q I rx ry ⟨rfl, ?_⟩
    rw [str_dec]
    exact ResE.val c Dr.bool q
  · split at q
    · rename_i h
      exact op_neD hu pins s σ H x y v u Q I rx ry ⟨d1, d2, Dr.dp d1 x (canLay_of h.1) (c.tr e1), Dr.dp d2 y (canLay_of h.2) (c.tr e2), h.1, h.2, ResE.val c Dr.bool q⟩
    · exact q.elim
def pLt : D → D → Option Wv
  | .int i, .int j => some (.d (.bool (decide (i < j))))
  | _, _ => none
def pLe : D → D → Option Wv
  | .int i, .int j => some (.d (.bool (decide (i ≤ j))))
  | _, _ => none
def pGt : D → D → Option Wv
  | .int i, .int j => some (.d (.bool (decide (j < i))))
  | _, _ => none
def pGe : D → D → Option Wv
  | .int i, .int j => some (.d (.bool (decide (j ≤ i))))
  | _, _ => none
theorem or_lt : OpR X (compareOp .Lt) (rP X.K X.mg E pLt) := by
  intro pins s σ H x y v u Q I rx ry ⟨G, ρ, fp, σ', d1, d2, c, e1, e2, q⟩
  unfold pLt at q
  split at q
  · exact op_lt pins s σ H x y v u Q I rx ry ⟨_, _, e1.int_inv, e2.int_inv, ResE.val c Dr.bool q⟩
  · exact q.elim
theorem or_le : OpR X (compareOp .LtE) (rP X.K X.mg E pLe) := by
  intro pins s σ H x y v u Q I rx ry ⟨G, ρ, fp, σ', d1, d2, c, e1, e2, q⟩
  unfold pLe at q
  split at q
  · exact op_le pins s σ H x y v u Q I rx ry ⟨_, _, e1.int_inv, e2.int_inv, ResE.val c Dr.bool q⟩
  · exact q.elim
theorem or_gt : OpR X (compareOp .Gt) (rP X.K X.mg E pGt) := by
  intro pins s σ H x y v u Q I rx ry ⟨G, ρ, fp, σ', d1, d2, c, e1, e2, q⟩
  unfold pGt at q
  split at q
  · exact op_gt pins s σ H x y v u Q I rx ry ⟨_, _, e1.int_inv, e2.int_inv, ResE.val c Dr.bool q⟩
  · exact q.elim
theorem or_ge : OpR X (compareOp .GtE) (rP X.K X.mg E pGe) := by
  intro pins s σ H x y v u Q I rx ry ⟨G, ρ, fp, σ', d1, d2, c, e1, e2, q⟩
  unfold pGe at q
  split at q
  · exact op_ge pins s σ H x y v u Q I rx ry ⟨_, _, e1.int_inv, e2.int_inv, ResE.val c Dr.bool q⟩
  · exact q.elim
def isN : D → Bool
  | .none => true
  | _ => false
def pIs : D → D → Option Wv := fun x y => match y with
  | .none => some (.d (.bool (isN x)))
  | _ => none
def pIsNot : D → D → Option Wv := fun x y => match y with
  | .none => some (.d (.bool (!isN x)))
  | _ => none
theorem Dr.isN {K : Frg} {G : Hp} {v : V} {d : D} (h : Dr K G v d) : decide (v = .non) = isN d := by
  cases d with
  | none => rw [h.none_inv]; rfl
  | bool b => rw [h.bool_inv]; rfl
  | int b => rw [h.int_inv]; rfl
  | str b => rw [h.str_inv]; rfl
  | list b => obtain ⟨_, _, e, _⟩ := h.lst_inv; rw [e]; rfl
  | tuple b => obtain ⟨_, _, e, _⟩ := h.tup_inv; rw [e]; rfl
  | dict b => obtain ⟨_, _, e, _⟩ := h.dct_inv; rw [e]; rfl
theorem or_is : OpR X (compareOp .Is) (rP X.K X.mg E pIs) := by
  intro pins s σ H x y v u Q I rx ry ⟨G, ρ, fp, σ', d1, d2, c, e1, e2, q⟩
  unfold pIs at q
  split at q
  · exact op_isN pins s σ H x y v u Q I rx ry ⟨e2.none_inv, by rw [e1.isN]; exact ResE.val c Dr.bool q⟩
  · exact q.elim
theorem or_isnot : OpR X (compareOp .IsNot) (rP X.K X.mg E pIsNot) := by
  intro pins s σ H x y v u Q I rx ry ⟨G, ρ, fp, σ', d1, d2, c, e1, e2, q⟩
  unfold pIsNot at q
  split at q
  · exact op_notN pins s σ H x y v u Q I rx ry ⟨e2.none_inv, by rw [e1.isN]; exact ResE.val c Dr.bool q⟩
  · exact q.elim
/-- x in a list or tuple of data -/
def memD (x : D) (ds : List D) : Bool := ds.any fun z => PyData.eqv z x
def pIn (neg : Bool) : D → D → Option Wv := fun x y => match y with
  | .list ds => if SeqAt.shaped x = true ∧ SeqAt.shaped (.list ds) = true then some (.d (.bool (if neg then !memD x ds else memD x ds))) else none
  | .tuple ds => if SeqAt.shaped x = true ∧ SeqAt.shaped (.tuple ds) = true then some (.d (.bool (if neg then !memD x ds else memD x ds))) else none
  | _ => none
theorem or_in (hu : X.A.units + 65 < cLine) : OpR X (compareOp .In) (rP X.K X.mg E (pIn false)) := by
  intro pins s σ H x y v u Q I rx ry ⟨G, ρ, fp, σ', d1, d2, c, e1, e2, q⟩
  unfold pIn at q
  split at q
  · rename_i ds
    split at q
    · rename_i h
      exact op_inD hu pins s σ H x y v u Q I rx ry ⟨d1, ds, Dr.dp d1 x (canLay_of h.1) (c.tr e1), Dr.dp _ y (canLay_of h.2) (c.tr e2), h.1, h.2, ResE.val c Dr.bool q⟩
    · exact q.elim
  · rename_i ds
    split at q
    · rename_i h
      obtain ⟨as, r1⟩ := Dp.reads I d1 x v (Dr.dp d1 x (canLay_of h.1) (c.tr e1)) rx
      obtain ⟨bs, r2⟩ := Dp.reads I (.tuple ds) y u (Dr.dp _ y (canLay_of h.2) (c.tr e2)) ry
      have z : Q (.bl (memD d1 ds)) H := ResE.val c Dr.bool q
      exact SeqAt.in_tuple_reads r2 r1 (by simpa [PyData.canLay0] using canLay_of h.2) (canLay_of h.1) (PyProof.Rows.room_in_shaped h.1 hu) ⟨.bl _, H, I, rfl, z⟩
    · exact q.elim
  · exact q.elim
theorem or_notin (hu : X.A.units + 65 < cLine) : OpR X (compareOp .NotIn) (rP X.K X.mg E (pIn true)) := by
  intro pins s σ H x y v u Q I rx ry ⟨G, ρ, fp, σ', d1, d2, c, e1, e2, q⟩
  unfold pIn at q
  split at q
  · rename_i ds
    split at q
    · rename_i h
      exact op_notInD hu pins s σ H x y v u Q I rx ry ⟨d1, ds, Dr.dp d1 x (canLay_of h.1) (c.tr e1), Dr.dp _ y (canLay_of h.2) (c.tr e2), h.1, h.2, ResE.val c Dr.bool q⟩
    · exact q.elim
  · rename_i ds
    split at q
    · rename_i h
      obtain ⟨as, r1⟩ := Dp.reads I d1 x v (Dr.dp d1 x (canLay_of h.1) (c.tr e1)) rx
      obtain ⟨bs, r2⟩ := Dp.reads I (.tuple ds) y u (Dr.dp _ y (canLay_of h.2) (c.tr e2)) ry
      have z : Q (.bl (!memD d1 ds)) H := ResE.val c Dr.bool q
      exact SeqAt.notIn_tuple_reads r2 r1 (by simpa [PyData.canLay0] using canLay_of h.2) (canLay_of h.1) (PyProof.Rows.room_in_shaped h.1 hu) ⟨.bl _, H, I, rfl, z⟩
    · exact q.elim
  · exact q.elim
end
end FW

set_option Elab.async false
set_option linter.all false
set_option maxRecDepth 100000
set_option maxHeartbeats 1000001
namespace FW
open PySem PySem.Spec L2
section
variable {X : Cx} {E : WX} {e a b c : Expr} {es rest : List Expr} {f fa fb fc : ES} {g ga gb : Rho → Out Bool} {fs : Rho → Out (List D)} {pos : Pos}
/-! ## tests -/
def boolD : D → Option Bool
  | .bool b => some b
  | _ => none
def sT (f : ES) : Rho → Out Bool := fun ρ => (fz (f ρ)).bind fun d r => ofO (boolD d) r
theorem st_val (h : SE X E e f) (he : ∀ whole, isTrue e X.env whole = (do let v ← whole; standAt e.pos; holding [v] (truthy v)) := by intro _; rfl) : ST X E e (sT f) :=
  pt_sub (pt_val h.D he) fun σ H Q ⟨G, ρ, fp, c, q⟩ => ⟨G, ρ, fp, c, seqD q fun d r v H1 G1 fp1 c1 s1 d1 q1 => by
    cases d with
    | bool b => exact ⟨b, d1.bool_inv, q1 _ _ _ c1 s1⟩
    | _ => exact q1.elim⟩
theorem st_cmp {op : CmpOp} {p : D → D → Option Wv} (ho : OpR X (compareOp op) (rP X.K X.mg E p)) (ha : SE X E a fa) (hb : SE X E b fb) (hm : behindInMarks op b = false := by first | exact nomark _ | rfl) : ST X E (.Compare a [op] [b] pos) (sT (sBin p fa fb)) := by
  refine pt_sub (pt_cmpR ho ha.D hb.D hm) fun σ H Q ⟨G, ρ, fp, c, q⟩ => ?_
  have h : tD X.K X.mg E (sBin p fa fb) σ H fun x H1 => ∃ k, x = .bl k ∧ Q k H1 := ⟨G, ρ, fp, c, seqD q fun d r v H1 G1 fp1 c1 s1 d1 q1 => by
    cases d with
    | bool b => exact ⟨b, d1.bool_inv, q1 _ _ _ c1 s1⟩
    | _ => exact q1.elim⟩
  obtain ⟨G2, ρ2, fp2, c2, q2⟩ := h
  exact seqDD ⟨G2, ρ2, fp2, c2, ResE.frz q2⟩ fun x y H2 G2 fp2 ρ2 d1 d2 c2 e1 e2 q => ⟨G2, ρ2, fp2, σ, d1, d2, c2, e1, e2, q⟩
def tAndB (g h : Rho → Out Bool) : Rho → Out Bool := fun ρ => (g ρ).bind fun b r => if b = true then h r else .ok false r
def tOrB (g h : Rho → Out Bool) : Rho → Out Bool := fun ρ => (g ρ).bind fun b r => if b = true then .ok true r else h r
def tNotB (g : Rho → Out Bool) : Rho → Out Bool := fun ρ => (g ρ).bind fun b r => .ok (!b) r
theorem sw_and1 (ha : ST X E a g) : SW X E (.BoolOp .And [a] pos) g := pw_and1 ha
theorem sw_or1 (ha : ST X E a g) : SW X E (.BoolOp .Or [a] pos) g := pw_or1 ha
theorem sw_and (ha : ST X E a ga) (hb : SW X E (.BoolOp .And (b :: rest) pos) gb) : SW X E (.BoolOp .And (a :: b :: rest) pos) (tAndB ga gb) :=
  pw_sub (pw_and ha hb) fun σ H Q ⟨G, ρ, fp, c, q⟩ => ⟨G, ρ, fp, c, seqT q fun k r H1 G1 fp1 c1 s1 q1 => by
    cases k with
    | true => rw [if_pos rfl] at q1 ⊢; exact ⟨G1, r, fp1, c1, ResT.rebase s1 c1.sg q1⟩
    | false => rw [if_neg (Bool.false_ne_true)] at q1 ⊢; exact q1 _ _ _ c1 s1⟩
theorem sw_or (ha : ST X E a ga) (hb : SW X E (.BoolOp .Or (b :: rest) pos) gb) : SW X E (.BoolOp .Or (a :: b :: rest) pos) (tOrB ga gb) :=
  pw_sub (pw_or ha hb) fun σ H Q ⟨G, ρ, fp, c, q⟩ => ⟨G, ρ, fp, c, seqT q fun k r H1 G1 fp1 c1 s1 q1 => by
    cases k with
    | true => rw [if_pos rfl] at q1 ⊢; exact q1 _ _ _ c1 s1
    | false => rw [if_neg (Bool.false_ne_true)] at q1 ⊢; exact ⟨G1, r, fp1, c1, ResT.rebase s1 c1.sg q1⟩⟩
theorem SW.T (h : SW X E e g) : ST X E e g := PW.pt h
theorem st_not (ha : ST X E a g) : ST X E (.UnaryOp .Not a pos) (tNotB g) :=
  pt_sub (pt_not ha) fun σ H Q ⟨G, ρ, fp, c, q⟩ => ⟨G, ρ, fp, c, seqT q fun k r H1 G1 fp1 c1 s1 q1 => q1 _ _ _ c1 s1⟩
/-! ## and, or, not as values; a if t else b -/
def sAndV (f g : ES) : ES := fun ρ => (fz (f ρ)).bind fun d r => match d with
  | .bool true => g r
  | .bool false => .ok (.d (.bool false)) r
  | _ => .bad
def sOrV (f g : ES) : ES := fun ρ => (fz (f ρ)).bind fun d r => match d with
  | .bool true => .ok (.d (.bool true)) r
  | .bool false => g r
  | _ => .bad
def sNotV (f : ES) : ES := fun ρ => (fz (f ρ)).bind fun d r => match d with
  | .bool b => .ok (.d (.bool (!b))) r
  | _ => .bad
theorem se_one {op : BoolOp} (h : SE X E a f) : SE X E (.BoolOp op [a] pos) f := pe_one h
theorem se_and (ha : SE X E a fa) (hb : SE X E (.BoolOp .And (b :: rest) pos) fb) : SE X E (.BoolOp .And (a :: b :: rest) pos) (sAndV fa fb) :=
  pe_sub (pe_and ha.D hb) fun σ H Q ⟨G, ρ, fp, c, q⟩ => ⟨G, ρ, fp, c, seqD q fun d r v H1 G1 fp1 c1 s1 d1 q1 => by
    cases d with
    | bool k =>
      cases k with
      | true => exact ⟨true, d1.bool_inv, by rw [if_pos rfl]; exact ⟨G1, r, fp1, c1, ResE.rebase s1 c1.sg q1⟩⟩
      | false => exact ⟨false, d1.bool_inv, by rw [if_neg (Bool.false_ne_true)]; exact ResE.val c1 Dr.bool (ResE.rebase s1 c1.sg q1)⟩
    | _ => exact q1.elim⟩
theorem se_or (ha : SE X E a fa) (hb : SE X E (.BoolOp .Or (b :: rest) pos) fb) : SE X E (.BoolOp .Or (a :: b :: rest) pos) (sOrV fa fb) :=
  pe_sub (pe_or ha.D hb) fun σ H Q ⟨G, ρ, fp, c, q⟩ => ⟨G, ρ, fp, c, seqD q fun d r v H1 G1 fp1 c1 s1 d1 q1 => by
    cases d with
    | bool k =>
      cases k with
      | true => exact ⟨true, d1.bool_inv, by rw [if_pos rfl]; exact ResE.val c1 Dr.bool (ResE.rebase s1 c1.sg q1)⟩
      | false => exact ⟨false, d1.bool_inv, by rw [if_neg (Bool.false_ne_true)]; exact ⟨G1, r, fp1, c1, ResE.rebase s1 c1.sg q1⟩⟩
    | _ => exact q1.elim⟩
theorem se_not (ha : SE X E a fa) : SE X E (.UnaryOp .Not a pos) (sNotV fa) :=
  pe_sub (pe_not ha.D) fun σ H Q ⟨G, ρ, fp, c, q⟩ => ⟨G, ρ, fp, c, seqD q fun d r v H1 G1 fp1 c1 s1 d1 q1 => by
    cases d with
    | bool k => exact ⟨k, d1.bool_inv, ResE.val c1 Dr.bool (ResE.rebase s1 c1.sg q1)⟩
    | _ => exact q1.elim⟩
def sIf (g : Rho → Out Bool) (fa fb : ES) : ES := fun ρ => (g ρ).bind fun b r => if b = true then fa r else fb r
theorem se_if (hc : ST X E c g) (ha : SE X E a fa) (hb : SE X E b fb) : SE X E (.IfExp c a b pos) (sIf g fa fb) :=
  pe_sub (pe_ifExp hc ha hb) fun σ H Q ⟨G, ρ, fp, c, q⟩ => ⟨G, ρ, fp, c, seqT q fun k r H1 G1 fp1 c1 s1 q1 => by
    cases k with
    | true => rw [if_pos rfl] at q1 ⊢; exact ⟨G1, r, fp1, c1, ResE.rebase s1 c1.sg q1⟩
    | false => rw [if_neg (Bool.false_ne_true)] at q1 ⊢; exact ⟨G1, r, fp1, c1, ResE.rebase s1 c1.sg q1⟩⟩
def sNeg (f : ES) : ES := fun ρ => (fz (f ρ)).bind fun d r => match d with
  | .int i => .ok (.d (.int (-i))) r
  | _ => .bad
theorem se_neg (ha : SE X E a fa) : SE X E (.UnaryOp .USub a pos) (sNeg fa) :=
  pe_sub (pe_un un_neg ha.D) fun σ H Q ⟨G, ρ, fp, c, q⟩ => ⟨G, ρ, fp, c, seqD q fun d r v H1 G1 fp1 c1 s1 d1 q1 => by
    cases d with
    | int k => exact ⟨k, d1.int_inv, ResE.val c1 Dr.int (ResE.rebase s1 c1.sg q1)⟩
    | _ => exact q1.elim⟩
/-- a < b < c (ints) -/
def intB (p : Int → Int → Bool) : D → D → Option Bool
  | .int i, .int j => some (p i j)
  | _, _ => none
def sChain (p p' : Int → Int → Bool) (fa fb fc : ES) : ES := fun ρ => (fz (fa ρ)).bind fun x r => (fz (fb r)).bind fun y r => (ofO (intB p x y) r).bind fun k r => if k = true then (fz (fc r)).bind fun z r => (ofO (intB p' y z) r).bind fun k r => .ok (.d (.bool k)) r else .ok (.d (.bool false)) r
theorem chain_rd {K : Frg} {mg : Mg} {p p' : Int → Int → Bool} {σ : St} {H : Hp} {Q : VK} (h : tS K mg E (sChain p p' fa fb fc) σ H Q) :
    tChain (rI0 fun i j => .bl (p i j)) (rI0 fun i j => .bl (p' i j)) (tD K mg E fa) (tD K mg E fb) (tD K mg E fc) σ H Q := by
  obtain ⟨G, ρ, fp, c, q⟩ := h
  refine ⟨G, ρ, fp, c, seqD q fun d r v H1 G1 fp1 c1 s1 d1 q1 => ⟨G1, r, fp1, c1, seqD (ResE.rebase s1 c1.sg q1) fun d' r2 v2 H2 G2 fp2 c2 s2 d2 q2 => ?_⟩⟩
  have q3 := ResE.rebase s2 c2.sg q2
  cases d with
  | int i =>
    cases d' with
    | int j =>
      refine ⟨i, j, d1.int_inv, d2.int_inv, p i j, rfl, ?_⟩
      have q4 : ResE K mg E H2 G2 fp2 σ Q (if p i j = true then (fz (fc r2)).bind fun z r => (ofO (intB p' (.int j) z) r).bind fun k r => .ok (.d (.bool k)) r else .ok (.d (.bool false)) r2) := q3
      by_cases e : p i j = true
      · rw [if_pos e] at q4 ⊢
        refine ⟨G2, r2, fp2, c2, seqD q4 fun d3 r3 v3 H3 G3 fp3 c3 s3 dd3 q5 => ?_⟩
        cases d3 with
        | int l => exact ⟨j, l, d2.int_inv, dd3.int_inv, ResE.val c3 Dr.bool (ResE.rebase s3 c3.sg q5)⟩
        | _ => exact q5.elim
      · rw [if_neg e] at q4 ⊢
        exact ResE.val c2 Dr.bool q4
    | _ => exact q3.elim
  | _ => exact q3.elim
abbrev ltB : Int → Int → Bool := fun i j => decide (i < j)
abbrev leB : Int → Int → Bool := fun i j => decide (i ≤ j)
theorem se_chain {op op' : CmpOp} {p p' : Int → Int → Bool} (ho : OpR X (compareOp op) (rI0 fun i j => .bl (p i j))) (ho' : OpR X (compareOp op') (rI0 fun i j => .bl (p' i j))) (ha : SE X E a fa) (hb : SE X E b fb) (hc : SE X E c fc)
    (hm : lastMarks [op, op'] [b, c] = false := by with_unfolding_all rfl) : SE X E (.Compare a [op, op'] [b, c] pos) (sChain p p' fa fb fc) := pe_sub (pe_chain ho ho' ha.D hb.D hc.D hm) fun σ H Q h => chain_rd h
theorem st_chain {op op' : CmpOp} {p p' : Int → Int → Bool} (ho : OpR X (compareOp op) (rI0 fun i j => .bl (p i j))) (ho' : OpR X (compareOp op') (rI0 fun i j => .bl (p' i j))) (ha : SE X E a fa) (hb : SE X E b fb) (hc : SE X E c fc)
    (hm : lastMarks [op, op'] [b, c] = false := by with_unfolding_all rfl) : ST X E (.Compare a [op, op'] [b, c] pos) (sT (sChain p p' fa fb fc)) :=
  pt_sub (pt_chain ho ho' ha.D hb.D hc.D hm) fun σ H Q ⟨G, ρ, fp, c, q⟩ => by
    have h : tD X.K X.mg E (sChain p p' fa fb fc) σ H fun x H1 => ∃ k, x = .bl k ∧ Q k H1 := ⟨G, ρ, fp, c, seqD q fun d r v H1 G1 fp1 c1 s1 d1 q1 => by
      cases d with
      | bool b => exact ⟨b, d1.bool_inv, q1 _ _ _ c1 s1⟩
      | _ => exact q1.elim⟩
    obtain ⟨G2, ρ2, fp2, c2, q2⟩ := h
    exact chain_rd ⟨G2, ρ2, fp2, c2, ResE.frz q2⟩

/-! ## displays -/
def sTup (fs : Rho → Out (List D)) : ES := fun ρ => (fs ρ).bind fun ds r => if ds.length ≤ 1000000 then .ok (.d (.tuple ds)) r else .bad
def sLst (fs : Rho → Out (List D)) : ES := fun ρ => (fs ρ).bind fun ds r => if ds.length ≤ 1000000 then .ok (.o (ds.map .d)) r else .bad
theorem se_tup {k : Nat} (h : SA X E es fs) : SE X E (.Tuple es k pos) (sTup fs) :=
  pe_sub (pe_tup h) fun σ H Q ⟨G, ρ, fp, c, q⟩ => ⟨G, ρ, fp, c, seqA q fun ds r vs H1 G1 fp1 c1 s1 d1 q1 => by
    split at q1
    · rename_i z
      exact ⟨by rw [d1.length]; exact Nat.le_trans z line6, ResE.tup c1 d1 (ResE.rebase s1 c1.sg q1)⟩
    · exact q1.elim⟩
theorem se_lst (h : SA X E es fs) : SE X E (.List es pos) (sLst fs) :=
  pe_sub (pe_lst h) fun σ H Q ⟨G, ρ, fp, c, q⟩ => ⟨G, ρ, fp, c, seqA q fun ds r vs H1 G1 fp1 c1 s1 d1 q1 => by
    split at q1
    · rename_i z
      exact ⟨by rw [d1.length]; exact Nat.le_trans z line6, ResE.lst c1 d1 (ResE.rebase s1 c1.sg q1)⟩
    · exact q1.elim⟩
def itemsD : D → Option (List D)
  | .tuple ds => some ds
  | .list ds => some ds
  | _ => none
theorem Dr.items {K : Frg} {G H : Hp} {v : V} {d : D} {ds : List D} (sg : Same G H) (h : Dr K G v d) (e : itemsD d = some ds) : ∃ a xs, v = .ref a ∧ (SqT K H a xs ∨ SqL K H a xs) ∧ Drs K G xs ds := by
  cases d with
  | tuple es =>
    cases e
    obtain ⟨a, xs, e1, h1, h2⟩ := h.tup_inv
    exact ⟨a, xs, e1, .inl (same_seqT sg h1), h2⟩
  | list es =>
    cases e
    obtain ⟨a, xs, e1, h1, h2⟩ := h.lst_inv
    exact ⟨a, xs, e1, .inr (SqL.of (sg _ _ h1)), h2⟩
  | _ => cases e
def aStar (f : ES) (fs : Rho → Out (List D)) : Rho → Out (List D) := fun ρ => (fz (f ρ)).bind fun d r => (ofO (itemsD d) r).bind fun xs r => (fs r).bind fun ds r => .ok (xs ++ ds) r
theorem sa_star {p : Pos} (ha : SE X E e f) (hr : SA X E es fs) (hs : starEach (.Starred e p :: es) X.env = (true, eval e X.env) :: starEach es X.env := by rfl) : SA X E (.Starred e p :: es) (aStar f fs) :=
  pa_sub (StX.pa_star ha.D hr hs) fun σ H Q ⟨G, ρ, fp, c, q⟩ => ⟨G, ρ, fp, c, seqD q fun d r v H1 G1 fp1 c1 s1 d1 q1 => by
    cases e1 : itemsD d with
    | none => rw [e1] at q1; exact q1.elim
    | some xs =>
      rw [e1] at q1
      obtain ⟨a, vs, e2, h2, h3⟩ := d1.items c1.sg e1
      exact ⟨a, vs, e2, h2, G1, r, fp1, c1, seqA (ResA.rebase s1 c1.sg q1) fun ds r2 us H2 G2 fp2 c2 s2 d2 q2 => q2 _ _ _ _ c2 s2 (Drs.append (Drs.mono s2.x.sg xs vs h3) d2)⟩⟩

/-! ## subscripts, slices -/
def pIx : D → D → Option Wv
  | .tuple ds, .int i => (atI ds i).map .d
  | .list ds, .int i => (atI ds i).map .d
  | _, _ => none
theorem Drs.atI {K : Frg} {G : Hp} {ds : List D} {vs : List V} {i : Int} {d : D} (h : Drs K G vs ds) (e : L2.atI ds i = some d) : ∃ v, L2.atI vs i = some v ∧ Dr K G v d := by
  unfold L2.atI at e ⊢
  rw [h.length]
  cases z : ixN ds.length i with
  | none => rw [z] at e; cases e
  | some j =>
    rw [z] at e
    obtain ⟨v, e1, e2⟩ := h.get (i := j) e
    exact ⟨v, e1, e2⟩
theorem ixr : IxR X (rP X.K X.mg E pIx) := by
  intro value slice pins s σ H x y v u Q I rx ry ⟨G, ρ, fp, σ', d1, d2, c, e1, e2, q⟩ hs
  unfold pIx at q
  split at q
  · rename_i ds i
    cases z : L2.atI ds i with
    | none => rw [z] at q; exact q.elim
    | some d =>
      rw [z] at q
      obtain ⟨a1, xs, ea, ha, da⟩ := e1.tup_inv
      obtain ⟨w, e3, e4⟩ := da.atI z
      exact ix_tup value slice pins s σ H x y v u Q I rx ry ⟨a1, xs, i, w, ea, e2.int_inv, same_seqT c.sg ha, e3, ResE.val c e4 q⟩ hs
  · rename_i ds i
    cases z : L2.atI ds i with
    | none => rw [z] at q; exact q.elim
    | some d =>
      rw [z] at q
      obtain ⟨a1, xs, ea, ha, da⟩ := e1.lst_inv
      obtain ⟨w, e3, e4⟩ := da.atI z
      exact ix_list value slice pins s σ H x y v u Q I rx ry ⟨a1, xs, i, w, ea, e2.int_inv, SqL.of (c.sg _ _ ha), e3, ResE.val c e4 q⟩ hs
  · exact q.elim
theorem se_ix (ha : SE X E a fa) (hb : SE X E b fb) (hs : PlainIx b := by exact fun _ _ => rfl) : SE X E (.Subscript a b pos) (sBin pIx fa fb) :=
  pe_sub (pe_ix ixr ha.D hb.D hs) fun σ H Q h => seqDD h fun x y H2 G2 fp2 ρ2 d1 d2 c2 e1 e2 q => ⟨G2, ρ2, fp2, σ, d1, d2, c2, e1, e2, q⟩
/-- a[lo:hi] -/
def cutD {α : Type} (xs : List α) (lo hi : Option Int) : List α := (xs.drop (HT.sIx xs.length 0 lo)).take (HT.sIx xs.length xs.length hi - HT.sIx xs.length 0 lo)
theorem Drs.cut {K : Frg} {G : Hp} {ds : List D} {vs : List V} (h : Drs K G vs ds) (lo hi : Option Int) : Drs K G (cutV vs lo hi) (cutD ds lo hi) := by
  unfold cutV cutD
  rw [h.length]
  exact (h.drop _).take _
def pCut : D → Option Int → Option Int → Option Wv
  | .tuple ds, lo, hi => some (.d (.tuple (cutD ds lo hi)))
  | .list ds, lo, hi => some (.o ((cutD ds lo hi).map .d))
  | _, _, _ => none
def sPartN : Rho → Out (Option Int) := fun ρ => .ok none ρ
def sPart (f : ES) : Rho → Out (Option Int) := fun ρ => (fz (f ρ)).bind fun d r => match d with
  | .int i => .ok (some i) r
  | _ => .bad
abbrev ResP (K : Frg) (mg : Mg) (E : WX) (H G : Hp) (fp : Fp) (σ : St) (Q : Option Int → Hp → Prop) (o : Out (Option Int)) : Prop :=
  ResO (fun b ρ' => ∀ H' G' fp', Cfg K H' G' σ ρ' fp' → Step fp H G fp' H' G' → Q b H') (ResX K mg E H G fp σ) o
def tP (K : Frg) (mg : Mg) (E : WX) (f : Rho → Out (Option Int)) : TO := fun σ H Q => ∃ G ρ fp, Cfg K H G σ ρ fp ∧ ResP K mg E H G fp σ Q (f ρ)
def SP' (X : Cx) (E : WX) (e : Option Expr) (f : Rho → Out (Option Int)) : Prop := PO X e (tP X.K X.mg E f)
theorem po_sub {e : Option Expr} {t t' : TO} (h : PO X e t) (w : ∀ σ H Q, t' σ H Q → t σ H Q) : PO X e t' := ⟨fun pins s σ H Q I q => h.run pins s σ H Q I (w σ H Q q)⟩
theorem sp_none : SP' X E none sPartN := po_sub po_none fun σ H Q ⟨G, ρ, fp, c, q⟩ => q H G fp c .refl
theorem sp_some (h : SE X E e f) : SP' X E (some e) (sPart f) := po_sub (po_some h.D) fun σ H Q ⟨G, ρ, fp, c, q⟩ => ⟨G, ρ, fp, c, seqD q fun d r v H1 G1 fp1 c1 s1 d1 q1 => by
  cases d with
  | int i => exact ⟨i, d1.int_inv, q1 _ _ _ c1 s1⟩
  | _ => exact q1.elim⟩
theorem seqP {α : Type} {K : Frg} {mg : Mg} {H G : Hp} {fp : Fp} {σ : St} {pok : α → Rho → Prop} {o : Out (Option Int)} {k : Option Int → Rho → Out α} {R : Option Int → Hp → Prop} (h : ResO pok (ResX K mg E H G fp σ) (o.bind k))
    (f : ∀ b ρ' H' G' fp', Cfg K H' G' σ ρ' fp' → Step fp H G fp' H' G' → ResO pok (ResX K mg E H G fp σ) (k b ρ') → R b H') : ResP K mg E H G fp σ R o :=
  ResO.imp (fun d ρ' q H' G' fp' c s => f d ρ' H' G' fp' c s q) (fun _ _ q => q) (ResO.bind h)
def sCut (f : ES) (lo hi : Rho → Out (Option Int)) : ES := fun ρ => (fz (f ρ)).bind fun d r => (lo r).bind fun l r => (hi r).bind fun h r => ofO (pCut d l h) r
def rCut (K : Frg) (mg : Mg) (E : WX) : V → Option Int → Option Int → Hp → VK → Prop := fun x lo hi H Q => ∃ G ρ fp σ d, Cfg K H G σ ρ fp ∧ Dr K G x d ∧ ResE K mg E H G fp σ Q (ofO (pCut d lo hi) ρ)
theorem sIx_le (n : Nat) (lo : Option Int) : HT.sIx n 0 lo ≤ n ∧ HT.sIx n n lo ≤ n := by
  cases lo with
  | none => exact ⟨Nat.zero_le _, Nat.le_refl _⟩
  | some i => unfold HT.sIx; constructor <;> (simp only []; (repeat' split) <;> omega)
theorem slr : SlR X (rCut X.K X.mg E) := by
  intro pins s σ H x v vl vu lo hi sl Q I rx hs pl pu ⟨G, ρ, fp, σ', d, c, e1, q⟩
  unfold pCut at q
  split at q
  · rename_i ds
    obtain ⟨a1, xs, ea, ha, da⟩ := e1.tup_inv
    refine sl_tupA pins s σ H x v vl vu lo hi sl Q I rx hs pl pu ⟨a1, xs, ea, same_seqT c.sg ha, fun z => ?_, fun z => ResE.tup c (da.cut _ _) q⟩
    have z2 : cutD ds lo hi = ds := by
      unfold cutD
      rw [← da.length, z.1, z.2, List.drop_zero, da.length, Nat.sub_zero, List.take_length]
    rw [z2] at q
    rw [← ea]
    exact ResE.val c e1 q
  · rename_i ds
    obtain ⟨a1, xs, ea, ha, da⟩ := e1.lst_inv
    exact sl_list pins s σ H x v vl vu lo hi sl Q I rx hs pl pu ⟨a1, xs, ea, SqL.of (c.sg _ _ ha), ResE.lst c (da.cut _ _) q⟩
  · exact q.elim
theorem se_cut {lo hi : Option Expr} {fl fh : Rho → Out (Option Int)} {p2 : Pos} (ha : SE X E a fa) (hl : SP' X E lo fl) (hh : SP' X E hi fh) : SE X E (.Subscript a (.Slice lo hi none p2) pos) (sCut fa fl fh) :=
  pe_sub (pe_slice slr ha.D hl hh) fun σ H Q ⟨G, ρ, fp, c, q⟩ => ⟨G, ρ, fp, c, seqD q fun d r v H1 G1 fp1 c1 s1 d1 q1 => ⟨G1, r, fp1, c1, seqP (ResE.rebase s1 c1.sg q1) fun l r2 H2 G2 fp2 c2 s2 q2 =>
    ⟨G2, r2, fp2, c2, seqP (ResE.rebase s2 c2.sg q2) fun h r3 H3 G3 fp3 c3 s3 q3 => ⟨G3, r3, fp3, σ, d, c3, Dr.mono (s2.x.sg.trans s3.x.sg) d v d1, ResE.rebase s3 c3.sg q3⟩⟩⟩⟩
end
end FW

set_option Elab.async false
set_option linter.all false
set_option maxRecDepth 100000
set_option maxHeartbeats 1000001
namespace FW
open PySem PySem.Spec L2
section
variable {X : Cx} {E : WX} {e a b c : Expr} {es rest : List Expr} {f fa fb fc : ES} {g ga gb : Rho → Out Bool} {fs : Rho → Out (List D)} {pos p : Pos} {x : Str} {id T : String} {pr : List D → Option Wv}
/-! ## built-ins by their names -/
def sCall (pr : List D → Option Wv) (fs : Rho → Out (List D)) : ES := fun ρ => (fs ρ).bind fun ds r => ofO (pr ds) r
def rC (K : Frg) (mg : Mg) (E : WX) (pr : List D → Option Wv) : List V → Hp → VK → Prop := fun vs H Q => ∃ G ρ fp σ ds, Cfg K H G σ ρ fp ∧ Drs K G vs ds ∧ ResE K mg E H G fp σ Q (ofO (pr ds) ρ)
theorem call_rd {K : Frg} {mg : Mg} {σ : St} {H : Hp} {Q : VK} (h : tS K mg E (sCall pr fs) σ H Q) : tCB (rC K mg E pr) (tA K mg E fs) σ H Q := by
  obtain ⟨G, ρ, fp, c, q⟩ := h
  exact ⟨G, ρ, fp, c, seqA q fun ds r vs H1 G1 fp1 c1 s1 d1 q1 => ⟨G1, r, fp1, σ, ds, c1, d1, ResE.rebase s1 c1.sg q1⟩⟩
theorem se_callB (hc : CallR X (.builtin id) (rC X.K X.mg E pr)) (hm : X.mg x = none) (hv : bootBuiltins x = some (.builtin id)) (ha : SA X E (e :: es) fs) (hg : Gl X x := by rfl) (hn : x ≠ "__name__" := by decide) (hdb : (x == ("__debug__" : Str)) = false := by decide)
    (he : starEach (e :: es) X.env = (false, eval e X.env) :: starEach es X.env := by rfl) (hpl : (backTo pos (starEach es X.env)).any (·.1) = false := by rfl) : SE X E (.Call (.Name x p) (e :: es) [] pos) (sCall pr fs) :=
  pe_sub (pe_callB hc hg hm hv ha hn hdb he hpl) fun σ H Q h => call_rd h
theorem se_callTy (hc : CallR X (.type T) (rC X.K X.mg E pr)) (hm : X.mg x = none) (hv : bootBuiltins x = some (.type T)) (ha : SA X E (e :: es) fs) (hg : Gl X x := by rfl) (hn : x ≠ "__name__" := by decide) (hdb : (x == ("__debug__" : Str)) = false := by decide)
    (he : starEach (e :: es) X.env = (false, eval e X.env) :: starEach es X.env := by rfl) (hpl : (backTo pos (starEach es X.env)).any (·.1) = false := by rfl) : SE X E (.Call (.Name x p) (e :: es) [] pos) (sCall pr fs) :=
  pe_sub (pe_callTy hc hg hm hv ha hn hdb he hpl) fun σ H Q h => call_rd h
theorem se_callBfun (hc : CallR X (.builtin id) (rC X.K X.mg E pr)) (hm : X.mg x = some (.builtin id)) (ha : SA X E (e :: es) fs) (hg : Gl X x := by rfl) (hdb : (x == ("__debug__" : Str)) = false := by decide)
    (he : starEach (e :: es) X.env = (false, eval e X.env) :: starEach es X.env := by rfl) (hpl : (backTo pos (starEach es X.env)).any (·.1) = false := by rfl) : SE X E (.Call (.Name x p) (e :: es) [] pos) (sCall pr fs) :=
  pe_sub (pe_callBfun hc hg hm ha hdb he hpl) fun σ H Q h => call_rd h
def pLen : List D → Option Wv
  | [.tuple ds] => some (.d (.int ds.length))
  | [.list ds] => some (.d (.int ds.length))
  | [.str z] => if z.length ≤ 1000000 then some (.d (.int z.length)) else none
  | _ => none
theorem cr_len : CallR X (.builtin "len") (rC X.K X.mg E pLen) := by
  intro pins s σ H vs us Q I r ⟨G, ρ, fp, σ', ds, c, dr, q⟩
  unfold pLen at q
  split at q
  · obtain ⟨v, e1, h1⟩ := dr.one
    obtain ⟨a, xs, e2, h2, h3⟩ := h1.tup_inv
    exact call_len_seq pins s σ H vs us Q I r ⟨a, xs, by rw [e1, e2], .inr (same_seqT c.sg h2), by rw [h3.length]; exact ResE.val c Dr.int q⟩
  · obtain ⟨v, e1, h1⟩ := dr.one
    obtain ⟨a, xs, e2, h2, h3⟩ := h1.lst_inv
    exact call_len_seq pins s σ H vs us Q I r ⟨a, xs, by rw [e1, e2], .inl (SqL.of (c.sg _ _ h2)), by rw [h3.length]; exact ResE.val c Dr.int q⟩
  · obtain ⟨v, e1, h1⟩ := dr.one
    split at q
    · rename_i h
      exact call_len_str pins s σ H vs us Q I r ⟨_, by rw [e1, h1.str_inv], Nat.le_trans h line6, ResE.val c Dr.int q⟩
    · exact q.elim
  · exact q.elim
def pTuple : List D → Option Wv
  | [.tuple ds] => some (.d (.tuple ds))
  | [.list ds] => some (.d (.tuple ds))
  | _ => none
theorem cr_tuple : CallR X (.type "tuple") (rC X.K X.mg E pTuple) := by
  intro pins s σ H vs us Q I r ⟨G, ρ, fp, σ', ds, c, dr, q⟩
  unfold pTuple at q
  split at q
  · obtain ⟨v, e1, h1⟩ := dr.one
    obtain ⟨a, xs, e2, h2, h3⟩ := h1.tup_inv
    exact call_tuple_of pins s σ H vs us Q I r ⟨a, xs, by rw [e1, e2], .inr ⟨same_seqT c.sg h2, by rw [← e2]; exact ResE.val c h1 q⟩⟩
  · obtain ⟨v, e1, h1⟩ := dr.one
    obtain ⟨a, xs, e2, h2, h3⟩ := h1.lst_inv
    exact call_tuple_of pins s σ H vs us Q I r ⟨a, xs, by rw [e1, e2], .inl ⟨SqL.of (c.sg _ _ h2), ResE.tup c h3 q⟩⟩
  · exact q.elim
def pList : List D → Option Wv
  | [.tuple ds] => some (.o (ds.map .d))
  | [.list ds] => some (.o (ds.map .d))
  | _ => none
theorem cr_list : CallR X (.type "list") (rC X.K X.mg E pList) := by
  intro pins s σ H vs us Q I r ⟨G, ρ, fp, σ', ds, c, dr, q⟩
  unfold pList at q
  split at q
  · obtain ⟨v, e1, h1⟩ := dr.one
    obtain ⟨a, xs, e2, h2, h3⟩ := h1.tup_inv
    exact call_list_of pins s σ H vs us Q I r ⟨a, xs, by rw [e1, e2], .inr (same_seqT c.sg h2), ResE.lst c h3 q⟩
  · obtain ⟨v, e1, h1⟩ := dr.one
    obtain ⟨a, xs, e2, h2, h3⟩ := h1.lst_inv
    exact call_list_of pins s σ H vs us Q I r ⟨a, xs, by rw [e1, e2], .inl (SqL.of (c.sg _ _ h2)), ResE.lst c h3 q⟩
  · exact q.elim
def boolsD : List D → Option (List Bool)
  | [] => some []
  | .bool b :: r => (boolsD r).map (b :: ·)
  | _ => none
def intsD : List D → Option (List Int)
  | [] => some []
  | .int b :: r => (intsD r).map (b :: ·)
  | _ => none
theorem Drs.bools {K : Frg} {G : Hp} : ∀ {ds : List D} {vs : List V} {bs : List Bool}, Drs K G vs ds → boolsD ds = some bs → vs = bs.map V.bl
  | [], _, _, h, e => by cases e; unfold Drs at h; exact h
  | d :: ds, _, _, h, e => by
    unfold Drs at h
    obtain ⟨v, r, e1, p, q⟩ := h
    cases d with
    | bool k =>
      unfold boolsD at e
      cases z : boolsD ds with
      | none => rw [z] at e; cases e
      | some bs =>
        rw [z] at e; cases e
        rw [e1, p.bool_inv, Drs.bools q z]; rfl
    | _ => cases e
theorem Drs.ints {K : Frg} {G : Hp} : ∀ {ds : List D} {vs : List V} {bs : List Int}, Drs K G vs ds → intsD ds = some bs → vs = bs.map V.int
  | [], _, _, h, e => by cases e; unfold Drs at h; exact h
  | d :: ds, _, _, h, e => by
    unfold Drs at h
    obtain ⟨v, r, e1, p, q⟩ := h
    cases d with
    | int k =>
      unfold intsD at e
      cases z : intsD ds with
      | none => rw [z] at e; cases e
      | some bs =>
        rw [z] at e; cases e
        rw [e1, p.int_inv, Drs.ints q z]; rfl
    | _ => cases e
def pAll : List D → Option Wv
  | [.list ds] => (boolsD ds).map fun bs => .d (.bool (bs.all fun b => b))
  | _ => none
def pAny : List D → Option Wv
  | [.list ds] => (boolsD ds).map fun bs => .d (.bool (bs.any fun b => b))
  | _ => none
def pSum : List D → Option Wv
  | [.list ds] => (intsD ds).map fun bs => .d (.int bs.sum)
  | _ => none
theorem cr_all' (hc : X.calm = true) : CallR X (.builtin "all") (rC X.K X.mg E pAll) := by
  intro pins s σ H vs us Q I r ⟨G, ρ, fp, σ', ds, c, dr, q⟩
  unfold pAll at q
  split at q
  · rename_i ds
    cases z : boolsD ds with
    | none => rw [z] at q; exact q.elim
    | some bs =>
      rw [z] at q
      obtain ⟨v, e1, h1⟩ := dr.one
      obtain ⟨a, xs, e2, h2, h3⟩ := h1.lst_inv
      have e3 := h3.bools z
      subst e3
      exact cr_all hc pins s σ H vs us Q I r ⟨a, bs, by rw [e1, e2], SqL.of (c.sg _ _ h2), ResE.val c Dr.bool q⟩
  · exact q.elim
theorem cr_any' (hc : X.calm = true) : CallR X (.builtin "any") (rC X.K X.mg E pAny) := by
  intro pins s σ H vs us Q I r ⟨G, ρ, fp, σ', ds, c, dr, q⟩
  unfold pAny at q
  split at q
  · rename_i ds
    cases z : boolsD ds with
    | none => rw [z] at q; exact q.elim
    | some bs =>
      rw [z] at q
      obtain ⟨v, e1, h1⟩ := dr.one
      obtain ⟨a, xs, e2, h2, h3⟩ := h1.lst_inv
      have e3 := h3.bools z
      subst e3
      exact cr_any hc pins s σ H vs us Q I r ⟨a, bs, by rw [e1, e2], SqL.of (c.sg _ _ h2), ResE.val c Dr.bool q⟩
  · exact q.elim
theorem cr_sum' (hc : X.calm = true) : CallR X (.builtin "sum") (rC X.K X.mg E pSum) := by
  intro pins s σ H vs us Q I r ⟨G, ρ, fp, σ', ds, c, dr, q⟩
  unfold pSum at q
  split at q
  · rename_i ds
    cases z : intsD ds with
    | none => rw [z] at q; exact q.elim
    | some bs =>
      rw [z] at q
      obtain ⟨v, e1, h1⟩ := dr.one
      obtain ⟨a, xs, e2, h2, h3⟩ := h1.lst_inv
      have e3 := h3.ints z
      subst e3
      exact cr_sum hc pins s σ H vs us Q I r ⟨a, bs, by rw [e1, e2], SqL.of (c.sg _ _ h2), ResE.val c Dr.int q⟩
  · exact q.elim
def pAbs : List D → Option Wv
  | [.int i] => some (.d (.int (if i < 0 then -i else i)))
  | _ => none
theorem cr_abs : CallR X (.builtin "abs") (rC X.K X.mg E pAbs) := by
  intro pins s σ H vs us Q I r ⟨G, ρ, fp, σ', ds, c, dr, q⟩
  unfold pAbs at q
  split at q
  · obtain ⟨v, e1, h1⟩ := dr.one
    exact call_abs pins s σ H vs us Q I r ⟨_, by rw [e1, h1.int_inv], ResE.val c Dr.int q⟩
  · exact q.elim
def pInt : List D → Option Wv
  | [.int i] => some (.d (.int i))
  | [.bool b] => some (.d (.int (if b then 1 else 0)))
  | _ => none
theorem cr_int : CallR X (.type "int") (rC X.K X.mg E pInt) := by
  intro pins s σ H vs us Q I r ⟨G, ρ, fp, σ', ds, c, dr, q⟩
  unfold pInt at q
  split at q
  · obtain ⟨v, e1, h1⟩ := dr.one
    exact call_int1 pins s σ H vs us Q I r (.inl ⟨_, by rw [e1, h1.int_inv], ResE.val c Dr.int q⟩)
  · obtain ⟨v, e1, h1⟩ := dr.one
    exact call_int1 pins s σ H vs us Q I r (.inr ⟨_, by rw [e1, h1.bool_inv], ResE.val c Dr.int q⟩)
  · exact q.elim
def pMax2 : List D → Option Wv
  | [.int i, .int j] => some (.d (.int (if j > i then j else i)))
  | _ => none
def pMin2 : List D → Option Wv
  | [.int i, .int j] => some (.d (.int (if j < i then j else i)))
  | _ => none
theorem cr_max2 (hc : X.calm = true) : CallR X (.builtin "max") (rC X.K X.mg E pMax2) := by
  intro pins s σ H vs us Q I r ⟨G, ρ, fp, σ', ds, c, dr, q⟩
  unfold pMax2 at q
  split at q
  · obtain ⟨v, u, e1, h1, h2⟩ := dr.two
    exact call_max2 hc pins s σ H vs us Q I r ⟨_, _, by rw [e1, h1.int_inv, h2.int_inv], ResE.val c Dr.int q⟩
  · exact q.elim
theorem cr_min2 (hc : X.calm = true) : CallR X (.builtin "min") (rC X.K X.mg E pMin2) := by
  intro pins s σ H vs us Q I r ⟨G, ρ, fp, σ', ds, c, dr, q⟩
  unfold pMin2 at q
  split at q
  · obtain ⟨v, u, e1, h1, h2⟩ := dr.two
    exact call_min2 hc pins s σ H vs us Q I r ⟨_, _, by rw [e1, h1.int_inv, h2.int_inv], ResE.val c Dr.int q⟩
  · exact q.elim
def pGcd : List D → Option Wv
  | [.int i, .int j] => some (.d (.int ((Nat.gcd i.natAbs j.natAbs : Nat) : Int)))
  | _ => none
theorem cr_gcd' : CallR X (.builtin "math.gcd") (rC X.K X.mg E pGcd) := by
  intro pins s σ H vs us Q I r ⟨G, ρ, fp, σ', ds, c, dr, q⟩
  unfold pGcd at q
  split at q
  · obtain ⟨v, u, e1, h1, h2⟩ := dr.two
    exact cr_gcd pins s σ H vs us Q I r ⟨_, _, by rw [e1, h1.int_inv, h2.int_inv], ResE.val c Dr.int q⟩
  · exact q.elim
/-! ## isinstance -/
def tyD : D → String
  | .none => "NoneType"
  | .bool _ => "bool"
  | .int _ => "int"
  | .str _ => "str"
  | .list _ => "list"
  | .tuple _ => "tuple"
  | .dict _ => "dict"
theorem Dr.ty {K : Frg} {G H : Hp} {v : V} {d : D} (sg : Same G H) (h : Dr K G v d) : TyX K H v (.type (tyD d)) := by
  cases d with
  | none => rw [h.none_inv]; exact .base .non
  | bool b => rw [h.bool_inv]; exact .base (.bl _)
  | int b => rw [h.int_inv]; exact .base (.int _)
  | str b => rw [h.str_inv]; exact .base (.str _)
  | list b =>
    obtain ⟨_, _, e, h2, _⟩ := h.lst_inv
    rw [e]
    exact .base (.lst (sg _ _ h2))
  | tuple b =>
    obtain ⟨a, xs, e, h2, _⟩ := h.tup_inv
    rw [e]
    rcases same_seqT sg h2 with (h3 | ⟨o, h3⟩) | ⟨o, its, n, h3, h4, _⟩
    · exact .base (.tup h3)
    · exact .fTuple h3
    · exact .kTuple h3 h4
  | dict b =>
    obtain ⟨_, _, e, h2, _⟩ := h.dct_inv
    rw [e]
    exact .base (.dK (sg _ _ h2))
def isiD (T : String) (d : D) : Bool := tyD d == T || (T == "int" && tyD d == "bool")
theorem isi_ok (T : String) (hT : T = "int" ∨ T = "bool" ∨ T = "str" ∨ T = "tuple" ∨ T = "list" ∨ T = "dict") (d : D) : kitB (tyD d) T = some (isiD T d) := by
  rcases hT with rfl | rfl | rfl | rfl | rfl | rfl <;> cases d <;> first | rfl | decide +kernel
def sIsi (T : String) (f : ES) : ES := fun ρ => (fz (f ρ)).bind fun d r => .ok (.d (.bool (isiD T d))) r
theorem se_isi {x2 : Str} {p2 : Pos} (hm : X.mg "isinstance" = none) (hm2 : X.mg x2 = none) (hv2 : bootBuiltins x2 = some (.type T)) (hT : T = "int" ∨ T = "bool" ∨ T = "str" ∨ T = "tuple" ∨ T = "list" ∨ T = "dict") (ha : SE X E a fa)
    (hv : bootBuiltins "isinstance" = some (.builtin "isinstance") := by decide +kernel)
    (hg : Gl X "isinstance" := by rfl) (hg2 : Gl X x2 := by rfl) (hn : x2 ≠ "__name__" := by decide) (hd : (x2 == ("__debug__" : Str)) = false := by decide)
    (he : starEach [a, .Name x2 p2] X.env = (false, eval a X.env) :: starEach [.Name x2 p2] X.env := by rfl) (he2 : starEach [.Name x2 p2] X.env = (false, eval (.Name x2 p2) X.env) :: starEach [] X.env := by rfl)
    (hpl : (backTo pos (starEach [.Name x2 p2] X.env)).any (·.1) = false := by rfl) : SE X E (.Call (.Name "isinstance" p) [a, .Name x2 p2] [] pos) (sIsi T fa) :=
  pe_sub (pe_callB call_isi hg hm hv (pa_cons ha.D (pa_cons (pe_bltn (v := .ty T) hg2 hm2 hv2 rfl hn hd) pa_nil he2) he) (by decide) (by decide) he hpl) fun σ H Q ⟨G, ρ, fp, c, q⟩ => ⟨G, ρ, fp, c, seqD q fun d r v H1 G1 fp1 c1 s1 d1 q1 =>
    ⟨v, .ty T, .type (tyD d), .type T, isiD T d, rfl, .ty T, d1.ty c1.sg, kit_ty (isi_ok T hT d), ResE.val c1 Dr.bool (ResE.rebase s1 c1.sg q1)⟩⟩
/-! ## looking at a slot without freezing it -/
def lenW : Wv → Option Int
  | .d (.tuple ds) => some ds.length
  | .d (.list ds) => some ds.length
  | .d (.str z) => if z.length ≤ 1000000 then some z.length else none
  | .d _ => none
  | .o ws => some ws.length
  | .s ns => some ns.length
def sLenAt (i : Nat) : ES := fun ρ => match ρ[i]? with
  | some (some w) => (ofO (lenW w) ρ).bind fun n r => .ok (.d (.int n)) r
  | _ => .bad
theorem se_lenAt (i : Nat) {p2 : Pos} {x : Str} (hm : X.mg "len" = none) (hN : X.N[i]? = some x := by rfl) (hvis : Vis X.env.scope x := by first | exact Or.inl rfl | exact Or.inr (Or.inl rfl) | exact Or.inr (Or.inr rfl)) (hg : Gl X "len" := by rfl) (hd : (x == ("__debug__" : Str)) = false := by decide)
    (hcd : (x == ("__classdict__" : Str)) = false := by decide) (he : starEach [.Name x p2] X.env = (false, eval (.Name x p2) X.env) :: starEach [] X.env := by rfl)
    (hpl : (backTo pos (starEach [] X.env)).any (·.1) = false := by rfl) : SE X E (.Call (.Name "len" p) [.Name x p2] [] pos) (sLenAt i) :=
  pe_sub (pe_callB (call_len_seq.or call_len_str) hg hm PySem.boot_len (pa_cons (pe_var (i := i) hN hvis hd hcd) pa_nil he) (by decide) (by decide) he hpl) fun σ H Q ⟨G, ρ, fp, c, q⟩ => by
    unfold sLenAt at q
    split at q
    · rename_i w e
      obtain ⟨v, e1, r⟩ := c.get i w e
      refine ⟨v, e1, ?_⟩
      cases w with
      | o ws =>
        unfold Rw at r
        obtain ⟨a, vs, f, e2, h1, h2, e3, h3⟩ := r
        exact .inl ⟨a, vs, by rw [e2], .inl (SqL.of h1), by rw [h3.length]; exact ResE.val c Dr.int q⟩
      | s ns =>
        unfold Rw at r
        obtain ⟨e2, a, e3, h1⟩ := r
        exact .inl ⟨a, _, by rw [e3], .inl (c.sg.seq h1), by rw [List.length_map]; exact ResE.val c Dr.int q⟩
      | d y =>
        unfold Rw at r
        obtain ⟨e2, r⟩ := r
        cases y with
        | tuple ds =>
          obtain ⟨a, xs, e3, h2, h3⟩ := r.tup_inv
          exact .inl ⟨a, xs, by rw [e3], .inr (same_seqT c.sg h2), by rw [h3.length]; exact ResE.val c Dr.int q⟩
        | list ds =>
          obtain ⟨a, xs, e3, h2, h3⟩ := r.lst_inv
          exact .inl ⟨a, xs, by rw [e3], .inl (SqL.of (c.sg _ _ h2)), by rw [h3.length]; exact ResE.val c Dr.int q⟩
        | str z =>
          by_cases h : z.length ≤ 1000000
          · have z1 : lenW (.d (.str z)) = some (z.length : Int) := if_pos h
            rw [z1] at q
            exact .inr ⟨z, by rw [r.str_inv], Nat.le_trans h line6, ResE.val c Dr.int q⟩
          · have z1 : lenW (.d (.str z)) = none := if_neg h
            rw [z1] at q
            exact q.elim
        | _ => exact q.elim
    · exact q.elim
end
end FW

set_option Elab.async false
set_option linter.all false
set_option maxRecDepth 100000
set_option maxHeartbeats 1000001
namespace FW
open PySem PySem.Spec L2
/-! ## what is walked: a list or a tuple, by a flag -/
def SqB (b : Bool) (K : Frg) (H : Hp) (a : Addr) (xs : List V) : Prop := match b with
  | true => SqT K H a xs
  | false => SqL K H a xs
def ItB (b : Bool) (h : Heap) (it a : Addr) (i : Nat) : Prop := match b with
  | true => h.IsTupleIter it a i
  | false => h.IsListIter it a i
def HpB (b : Bool) (h : Heap) (a : Addr) (items : Array Value) : Prop := match b with
  | true => h.IsTuple a items
  | false => h.IsList a items
def itO (b : Bool) (a : Addr) : Obj := match b with
  | true => { cls := .type "tuple_iterator", data := .fields #[.ref a, .int 0 0] }
  | false => { cls := .type "list_iterator", data := .fields #[.ref a, .int 0 0] }
theorem sqB_get {X : Cx} {pins : List (Addr × Obj)} {σ : St} {H : Hp} {s : Shared} {a : Addr} {xs : List V} {b : Bool} (I : Inv X pins σ H s) (h : SqB b X.K H a xs) : ∃ its : List Value, Vals xs its ∧ HpB b s.heap a its.toArray ∧ a < s.heap.objs.size := by
  cases b with
  | true =>
    obtain ⟨its, r, p, _⟩ := I.tuple h
    obtain ⟨o, e, _⟩ := id p
    exact ⟨its, r, p, Heap.lt_size e⟩
  | false =>
    obtain ⟨its, r, p, _⟩ := I.list h
    exact ⟨its, r, p.isList, p.lt⟩
theorem drawsB {prog : Program} {w : World} {A : Around} (hh : A.handled = none) (b : Bool) (it a : Addr) (hne : a ≠ it) (items : Array Value) :
    Draws prog w A it [it, a] items.size (fun i v => items[i]? = some v) (fun i h => ItB b h it a i ∧ HpB b h a items) := by
  cases b with
  | true => exact Draws.tuple hh it a hne items
  | false => exact Draws.list hh it a hne items
theorem beginsB (b : Bool) (a : Addr) (items : Array Value) : Begins (.ref a) (itO b a) fun h => HpB b h a items := by
  cases b with
  | true => exact begins_tuple a items
  | false => exact begins_list a items
theorem ItB.at {b : Bool} {h h' : Heap} {it a : Addr} {i : Nat} (x : ItB b h it a i) (k : ∀ o, h.get? it = some o → h'.get? it = some o) : ItB b h' it a i := by
  cases b with
  | true => exact Heap.IsTupleIter.at x k
  | false => exact Heap.IsListIter.at x k
theorem ItB.obj {b : Bool} {h : Heap} {it a : Addr} {i : Nat} (x : ItB b h it a i) : ∃ o, h.get? it = some o ∧ ∀ v, o.data ≠ .cell v := by
  cases b with
  | true =>
    obtain ⟨o, e, _, d⟩ := x; exact ⟨o, e, fun v z => by rw [d] at z; cases z⟩
  | false =>
    obtain ⟨o, e, _, d⟩ := x; exact ⟨o, e, fun v z => by rw [d] at z; cases z⟩
theorem itB_new {b : Bool} {h : Heap} {it a : Addr} (e : h.get? it = some (itO b a)) : ItB b h it a 0 := by
  cases b with
  | true => exact ⟨_, e, rfl, rfl⟩
  | false => exact ⟨_, e, rfl, rfl⟩
theorem itO_free (b : Bool) (a : Addr) : (itO b a).isFreed = false := by cases b <;> rfl

theorem sub5 {z TI TO i1 i2 b : Addr} (m : b ∈ [z, TO, i1, i2]) : b ∈ [z, TI, TO, i1, i2] := by
  simp only [List.mem_cons, List.not_mem_nil, or_false] at m
  rcases m with q | q | q | q <;> simp [q]
/-! ## zip of two -/
def JZip (K : Frg) (b1 b2 : Bool) (a1 a2 : Addr) (xs ys : List V) : It :=
  ⟨fun i H => i < min xs.length ys.length ∧ SqB b1 K H a1 xs ∧ SqB b2 K H a2 ys,
   fun i H v H' => ∃ T x y, v = .ref T ∧ H T = none ∧ H' = upd H T (.tup [x, y]) ∧ xs[i]? = some x ∧ ys[i]? = some y,
   fun i H => min xs.length ys.length ≤ i ∧ SqB b1 K H a1 xs ∧ SqB b2 K H a2 ys⟩
def tnZip (b1 b2 : Bool) (a1 a2 : Addr) (N : Nat) (z TI TO i1 i2 : Addr) (i : Nat) (h : Heap) : Prop :=
  i ≤ N ∧ IsZip h z TI TO .none ∧ IsTupOf2 h TI (.ref i1) (.ref i2) ∧ (∃ x y, IsTupOf2 h TO x y) ∧ ItB b1 h i1 a1 i ∧ ItB b2 h i2 a2 i
theorem turn_zipB {P : Program} {w : World} {K : Frg} {elts : List Expr} {kk : Nat} {tpos : Pos} {b1 b2 : Bool} {a1 a2 z TI TO i1 i2 : Addr} {xs ys : List V} (n1 : a1 ≠ i1) (n2 : a2 ≠ i2) (S : ZipSep2 z TI TO i1 i2 [i1, a1] [i2, a2]) :
    Turn P w K (.Tuple elts kk tpos) (JZip K b1 b2 a1 a2 xs ys) [z, TI, TO, i1, i2] z (tnZip b1 b2 a1 a2 (min xs.length ys.length) z TI TO i1 i2) where
  mem := List.mem_cons_self
  obj := fun i h st c hc => by
    obtain ⟨_, hz, hTI, ⟨x, y, hTO⟩, h1, h2⟩ := st
    simp only [List.mem_cons, List.not_mem_nil, or_false] at hc
    rcases hc with q | q | q | q | q
    · rw [q]; exact ⟨_, hz, (fun v q => nomatch q)⟩
    · rw [q]; exact ⟨_, hTI, (fun v q => nomatch q)⟩
    · rw [q]; exact ⟨_, hTO, (fun v q => nomatch q)⟩
    · rw [q]; exact h1.obj
    · rw [q]; exact h2.obj
  keep := fun i h h' st k => by
    obtain ⟨hn, hz, hTI, ⟨x, y, hTO⟩, h1, h2⟩ := st
    exact ⟨hn, k z (by simp) _ hz, k TI (by simp) _ hTI, ⟨x, y, k TO (by simp) _ hTO⟩, h1.at fun o q => k i1 (by simp) o q, h2.at fun o q => k i2 (by simp) o q⟩
  item := by
    intro X hP hw hK hc i pins s σ H E I hf st hg; subst hP hw hK
    obtain ⟨hn, hz, hTI, hTO, h1, h2⟩ := st
    obtain ⟨hlt, q1, q2⟩ := hg
    obtain ⟨its1, r1, p1, _⟩ := sqB_get I q1
    obtain ⟨its2, r2, p2, _⟩ := sqB_get I q2
    have hA : X.A.in1.handled = none := I.ok.hd hc
    have W := GoesN.zip2 (elts := elts) (x1 := kk) (pos := tpos) S (drawsB (prog := X.prog) (w := X.w) hA b1 i1 a1 n1 its1.toArray) (drawsB (prog := X.prog) (w := X.w) hA b2 i2 a2 n2 its2.toArray)
    have l1 := r1.length
    have l2 := r2.length
    refine W.goes i s _ E (by simp only [List.size_toArray]; rw [← l1, ← l2]; exact hlt) ⟨hz, hTI, hTO, ⟨h1, p1⟩, ⟨h2, p2⟩⟩ fun v h' tk hY hS hk _ => ?_
    obtain ⟨T, u1, u2, ev, hT, hu1, hu2, hTup⟩ := hY
    obtain ⟨hz', hTI', hTO', ⟨h1', _⟩, ⟨h2', _⟩⟩ := hS
    have x1 : ∃ x, xs[i]? = some x := ⟨xs[i]'(by omega), List.getElem?_eq_getElem _⟩
    have x2 : ∃ x, ys[i]? = some x := ⟨ys[i]'(by omega), List.getElem?_eq_getElem _⟩
    obtain ⟨x, hx⟩ := x1
    obtain ⟨y, hy⟩ := x2
    obtain ⟨u, hu, ru⟩ := r1.get hx
    obtain ⟨u', hu', ru'⟩ := r2.get hy
    have eu : u1 = u := Option.some.inj (hu1.symm.trans (by simpa using hu))
    have eu' : u2 = u' := Option.some.inj (hu2.symm.trans (by simpa using hu'))
    subst eu eu' ev
    obtain ⟨oT, eT, cT, nT, dT⟩ := hTup
    have new : ObjOk X.prog X.w (upd H T (.tup [x, y])) h' T (.tup [x, y]) := ⟨by show 2 ≤ sizeLine; decide, [u1, u2], .cons ru (.cons ru' .nil), ⟨oT, eT, cT, nT, dT⟩⟩
    have I1 : Inv X pins σ (upd H T (.tup [x, y])) { s with heap := h', toks := tk } := I.turnedNew (fun b o hb q => hk b o (fun m => hb (sub5 m)) q) hf hT new
    refine ⟨.ref T, _, I1, rfl, ⟨T, x, y, rfl, I.hok.fresh hT, rfl, hx, hy⟩, ⟨by omega, hz', hTI', hTO', h1', h2'⟩, fun b hb => ?_⟩
    have hbl : b < s.heap.objs.size := by
      obtain ⟨x0, y0, hTO0⟩ := hTO
      simp only [List.mem_cons, List.not_mem_nil, or_false] at hb; rcases hb with q | q | q | q | q
      · rw [q]; exact Heap.lt_size hz
      · (rw [q]; exact Heap.lt_size hTI) 
      · rw [q]; exact Heap.lt_size hTO0
      · rw [q]; obtain ⟨o, e, _⟩ := h1.obj; exact Heap.lt_size e
      · rw [q]; obtain ⟨o, e, _⟩ := h2.obj; exact Heap.lt_size e
    rw [upd_ne (Nat.ne_of_lt (Nat.lt_of_lt_of_le hbl hT))]
    exact (hf b hb).1
  done := by
    intro X hP hw hK hc i pins s σ H E I hf st hg; subst hP hw hK
    obtain ⟨hn, hz, hTI, hTO, h1, h2⟩ := st
    obtain ⟨hge, q1, q2⟩ := hg
    obtain ⟨its1, r1, p1, _⟩ := sqB_get I q1
    obtain ⟨its2, r2, p2, _⟩ := sqB_get I q2
    have hA : X.A.in1.handled = none := I.ok.hd hc
    have W := GoesN.zip2 (elts := elts) (x1 := kk) (pos := tpos) S (drawsB (prog := X.prog) (w := X.w) hA b1 i1 a1 n1 its1.toArray) (drawsB (prog := X.prog) (w := X.w) hA b2 i2 a2 n2 its2.toArray)
    have ei : i = min its1.toArray.size its2.toArray.size := by
      simp only [List.size_toArray]
      rw [← r1.length, ← r2.length]; omega
    subst ei
    refine W.stops s _ E ⟨hz, hTI, hTO, ⟨h1, p1⟩, ⟨h2, p2⟩⟩ fun h' tk hk _ => ?_
    exact I.turnedL (ch := [z, TI, TO, i1, i2]) (fun b o hb q => hk b o (fun m => hb (sub5 m)) q) hf
  self := fun A i s Q E st h => wpAny_pyIter_zip st.2.1 h

def iZipB (K : Frg) (ta : TA) : TI := fun σ H R => ta σ H fun vs H1 => ∃ a1 a2 b1 b2 xs ys, vs = [.ref a1, .ref a2] ∧ SqB b1 K H1 a1 xs ∧ SqB b2 K H1 a2 ys ∧ R (JZip K b1 b2 a1 a2 xs ys) H1
theorem pi_zipB {X : Cx} {e e2 : Expr} {ta : TA} {p pos tpos : Pos} {elts : List Expr} {kk : Nat} (hg : Gl X "zip") (hm : X.mg "zip" = none) (ha : PA X [e, e2] ta)
    (hs : starEach [e, e2] X.env = (false, eval e X.env) :: starEach [e2] X.env := by rfl)
    (hpl : (backTo pos (starEach [e2] X.env)).any (·.1) = false := by rfl) :
    PI X (.Tuple elts kk tpos) (.Call (.Name "zip" p) [e, e2] [] pos) (iZipB X.K ta) := by
  refine ⟨fun pins s σ H R I h => PyProof.Rows.Call_ (ld_blt I hg hm PyProof.Rows.boot_zip (PyProof.Rows.callWith_type1 (thn (ha.run pos pins s σ H _ I h) fun us t ⟨vs, H1, J, r, q⟩ => ?_) hs hpl))⟩
  obtain ⟨a1, a2, b1, b2, xs, ys, rfl, q1, q2, q⟩ := q
  obtain ⟨u1, u2, rfl, ru1, ru2⟩ := vals2 r
  cases ru1
  cases ru2
  obtain ⟨its1, r1, p1, l1⟩ := sqB_get J q1
  obtain ⟨its2, r2, p2, l2⟩ := sqB_get J q2
  refine zip_begins2 (beginsB b1 a1 its1.toArray) (beginsB b2 a2 its2.toArray) p1 p2 fun h' hz hTI hTO o1 o2 hsz hk => wpAny_pyIter_zip hz ?_
  have J2 : Inv X pins σ H1 { t with heap := h' } := J.kept (t' := t.toks) hk
  have n1 : a1 ≠ t.heap.objs.size := Nat.ne_of_lt l1
  have n2 : a2 ≠ t.heap.objs.size + 1 := Nat.ne_of_lt (Nat.lt_succ_of_lt l2)
  have S := zip_sep2 (N := t.heap.objs.size) (fp1 := [a1]) (fp2 := [a2]) (fun b hb => by rw [List.mem_singleton.mp hb]; exact l1) (fun b hb => by rw [List.mem_singleton.mp hb]; exact l2)
  refine ⟨t.heap.objs.size + 4, _, _, _, H1, rfl, J2, turn_zipB (xs := xs) (ys := ys) n1 n2 S, ⟨Nat.zero_le _, hz, hTI, ⟨_, _, hTO⟩, itB_new o1, itB_new o2⟩, fun b hb => ?_, q⟩
  have hle : t.heap.objs.size ≤ b := by
    simp only [List.mem_cons, List.not_mem_nil, or_false] at hb; rcases hb with z | z | z | z | z <;> (rw [z]; first | exact Nat.le_add_right _ _ | exact Nat.le_refl _)
  exact J.fpOk hle (J.hok.fresh hle)

/-! ## enumerate of one -/
theorem meets_enum1 {v : Value} {o : Obj} {H : Heap → Prop} (B : Begins v o H) : Meets (Builtin.«enumerate.__new__» ⟨[.type "enumerate", v], []⟩) (fun _ R s => H s.heap ∧
    R (.ok (.ret (.ref (s.heap.push o).objs.size))) { s with heap := (s.heap.push o).push { cls := .type "enumerate", data := .fields #[.none, .bool false, .ref s.heap.objs.size, rawInt 0, .none, .none] } }) :=
  .of_wp fun prog w A R s hh => by
    obtain ⟨hp, g, dr, tk, os⟩ := s; obtain ⟨hv, hq⟩ := hh
    have hsub := sub_enumerate
    have step : ∀ {A' : Around} {E : Value → Shared → Prop} {Q : Value → Shared → Prop}, Q (.ref hp.objs.size) ⟨hp.push o, g, dr, tk, os⟩ → wpAny (model prog w) A' (pyIter v) Q E ⟨hp, g, dr, tk, os⟩ := fun z => B.iter prog w _ _ ⟨hp, g, dr, tk, os⟩ _ hv z
    wp_walk using step
    refine wpAny_stack_any fun st => wpAny_pure ?_; split
    · rename_i cc _ _ _ _ _
      cases (cc == Value.type "enumerate") <;> (wp_walk using step; exact ⟨_, rfl, hq⟩)
    · wp_walk using step
      exact ⟨_, rfl, hq⟩
def JEnum (K : Frg) (b : Bool) (a : Addr) (xs : List V) : It :=
  ⟨fun i H => i < xs.length ∧ SqB b K H a xs, fun i H v H' => ∃ T x, v = .ref T ∧ H T = none ∧ H' = upd H T (.tup [.int (i : Nat), x]) ∧ xs[i]? = some x, fun i H => xs.length ≤ i ∧ SqB b K H a xs⟩
theorem turn_enumB {P : Program} {w : World} {K : Frg} {elts : List Expr} {kk : Nat} {tpos : Pos} {b : Bool} {a e it : Addr} {xs : List V} (n1 : a ≠ it) (n2 : e ≠ it) (n3 : e ≠ a) :
    Turn P w K (.Tuple elts kk tpos) (JEnum K b a xs) [e, it] e (fun i h => i ≤ xs.length ∧ (∃ old, IsEnum h e it (0 + (i : Int)) old) ∧ ItB b h it a i) where
  mem := List.mem_cons_self
  obj := fun i h st c hc => by
    obtain ⟨_, ⟨old, he⟩, h1⟩ := st
    simp only [List.mem_cons, List.not_mem_nil, or_false] at hc
    rcases hc with q | q
    · rw [q]; exact ⟨_, he, (fun v q => nomatch q)⟩
    · rw [q]; exact h1.obj
  keep := fun i h h' st k => by
    obtain ⟨hn, ⟨old, he⟩, h1⟩ := st
    exact ⟨hn, ⟨old, k e (by simp) _ he⟩, h1.at fun o q => k it (by simp) o q⟩
  item := by
    intro X hP hw hK hc i pins s σ H E I hf st hg; subst hP hw hK
    obtain ⟨hn, he, h1⟩ := st
    obtain ⟨hlt, q1⟩ := hg
    obtain ⟨its1, r1, p1, _⟩ := sqB_get I q1
    have hA : X.A.in1.handled = none := I.ok.hd hc
    have W := GoesN.enumFrom (elts := elts) (x1 := kk) (pos := tpos) 0 (drawsB (prog := X.prog) (w := X.w) hA b it a n1 its1.toArray) e n2 (by simp [n2, n3]) (by simp)
    have l1 := r1.length
    refine W.goes i s _ E (by simp only [List.size_toArray]; omega) ⟨he, ⟨h1, p1⟩⟩ fun v h' tk hY hS hk _ => ?_
    obtain ⟨T, t, u1, ev, hT, hu1, hTup⟩ := hY
    obtain ⟨he', ⟨h1', _⟩⟩ := hS
    obtain ⟨x, hx⟩ : ∃ x, xs[i]? = some x := ⟨xs[i]'hlt, List.getElem?_eq_getElem _⟩
    obtain ⟨u, hu, ru⟩ := r1.get hx
    have eu : u1 = u := Option.some.inj (hu1.symm.trans (by simpa using hu))
    subst eu ev
    obtain ⟨oT, eT, cT, nT, dT⟩ := hTup
    have new : ObjOk X.prog X.w (upd H T (.tup [.int (i : Nat), x])) h' T (.tup [.int (i : Nat), x]) := ⟨by show 2 ≤ sizeLine; decide, [.int (0 + (i : Int)) t, u1], .cons ⟨t, by rw [Int.zero_add]⟩ (.cons ru .nil), ⟨oT, eT, cT, nT, dT⟩⟩
    have I1 : Inv X pins σ (upd H T (.tup [.int (i : Nat), x])) { s with heap := h', toks := tk } := I.turnedNew hk hf hT new
    refine ⟨.ref T, _, I1, rfl, ⟨T, x, rfl, I.hok.fresh hT, rfl, hx⟩, ⟨by omega, he', h1'⟩, fun c hb => ?_⟩
    have hbl : c < s.heap.objs.size := by
      obtain ⟨old, he0⟩ := he
      simp only [List.mem_cons, List.not_mem_nil, or_false] at hb; rcases hb with q | q
      · rw [q]; exact Heap.lt_size he0
      · rw [q]; obtain ⟨o, eo, _⟩ := h1.obj; exact Heap.lt_size eo
    rw [upd_ne (Nat.ne_of_lt (Nat.lt_of_lt_of_le hbl hT))]
    exact (hf c hb).1
  done := by
    intro X hP hw hK hc i pins s σ H E I hf st hg; subst hP hw hK
    obtain ⟨hn, he, h1⟩ := st
    obtain ⟨hge, q1⟩ := hg
    obtain ⟨its1, r1, p1, _⟩ := sqB_get I q1
    have hA : X.A.in1.handled = none := I.ok.hd hc
    have W := GoesN.enumFrom (elts := elts) (x1 := kk) (pos := tpos) 0 (drawsB (prog := X.prog) (w := X.w) hA b it a n1 its1.toArray) e n2 (by simp [n2, n3]) (by simp)
    have ei : i = its1.toArray.size := by
      simp only [List.size_toArray]
      rw [← r1.length]; omega
    subst ei
    exact W.stops s _ E ⟨he, ⟨h1, p1⟩⟩ fun h' tk hk _ => I.turnedL (ch := [e, it]) hk hf
  self := fun A i s Q E st h => let ⟨_, ⟨_, he⟩, _⟩ := st; wpAny_pyIter_enum he h
theorem call_enumB {prog : Program} {w : World} {A : Around} {E : Value → Shared → Prop} {s : Shared} {v : Value} {o : Obj} {H : Heap → Prop} {Q : Value → Shared → Prop} (B : Begins v o H) (h1 : H s.heap)
    (h : ∀ h', IsEnum h' (s.heap.objs.size + 1) s.heap.objs.size 0 .none → h'.get? s.heap.objs.size = some o → (∀ b o, s.heap.get? b = some o → h'.get? b = some o) → Q (.ref (s.heap.objs.size + 1)) { s with heap := h' }) :
    wpAny (model prog w) A (call (.type "enumerate") [v]) Q E s := by
  refine callType_new PySem.F.called_enumerate (by decide) (PySem.F.typeCall_enumerate_1 _) (PySem.F.newCall_enumerate_1 _) (fun obj => PySem.F.args_object_init_2 obj _) PySem.F.entry_enumerate_new (meets_enum1 B) ⟨h1, ?_⟩
  have sz : (s.heap.push o).objs.size = s.heap.objs.size + 1 := by rw [Heap.size_push]
  show _ ∧ _
  rw [sz]
  have new : IsEnum ((s.heap.push o).push { cls := .type "enumerate", data := .fields #[.none, .bool false, .ref s.heap.objs.size, rawInt 0, .none, .none] }) (s.heap.objs.size + 1) s.heap.objs.size 0 .none := by
    rw [← sz]
    exact Heap.get?_push_size (s.heap.push o) rfl
  exact ⟨⟨_, new, rfl⟩, h _ new (Heap.get?_push_of_some _ (Heap.get?_push_size _ B.free)) fun b o x => Heap.get?_push_of_some _ (Heap.get?_push_of_some _ x)⟩
def iEnumB (K : Frg) (ta : TA) : TI := fun σ H R => ta σ H fun vs H1 => ∃ a b xs, vs = [.ref a] ∧ SqB b K H1 a xs ∧ R (JEnum K b a xs) H1
theorem pi_enumB {X : Cx} {e : Expr} {ta : TA} {p pos tpos : Pos} {elts : List Expr} {kk : Nat} (hg : Gl X "enumerate") (hm : X.mg "enumerate" = none) (ha : PA X [e] ta) (hs : starEach [e] X.env = [(false, eval e X.env)] := by rfl) :
    PI X (.Tuple elts kk tpos) (.Call (.Name "enumerate" p) [e] [] pos) (iEnumB X.K ta) := by
  refine ⟨fun pins s σ H R I h => PyProof.Rows.Call_ (ld_blt I hg hm PyProof.Rows.boot_enumerate (PyProof.Rows.callWith_type1 (thn (ha.run pos pins s σ H _ I h) fun us t ⟨vs, H1, J, r, q⟩ => ?_) hs rfl))⟩
  obtain ⟨a, b, xs, rfl, q1, q⟩ := q
  obtain ⟨u1, rfl, ru1⟩ := vals1 r
  cases ru1
  obtain ⟨its1, r1, p1, l1⟩ := sqB_get J q1
  refine call_enumB (beginsB b a its1.toArray) p1 fun h' he o1 hk => wpAny_pyIter_enum he ?_
  have J2 : Inv X pins σ H1 { t with heap := h' } := J.kept (t' := t.toks) hk
  refine ⟨t.heap.objs.size + 1, _, _, _, H1, rfl, J2, turn_enumB (b := b) (a := a) (it := t.heap.objs.size) (xs := xs) (Nat.ne_of_lt l1) (Nat.succ_ne_self _) (Nat.ne_of_gt (Nat.lt_succ_of_lt l1)), ⟨Nat.zero_le _, ⟨_, he⟩, itB_new o1⟩, fun c hb => ?_, q⟩
  have hle : t.heap.objs.size ≤ c := by
    simp only [List.mem_cons, List.not_mem_nil, or_false] at hb; rcases hb with z | z <;> (rw [z]; first | exact Nat.le_add_right _ _ | exact Nat.le_refl _)
  exact J.fpOk hle (J.hok.fresh hle)
end FW

set_option Elab.async false
set_option linter.all false
set_option maxRecDepth 100000
set_option maxHeartbeats 1000001
namespace FW
open PySem PySem.Spec L2
/-! ## arguments with what they own -/
structure PA' (K : Frg) (H G : Hp) (fp : Fp) (σ : St) (ρ' : Rho) (vs : List V) (ws : List Wv) (H' G' : Hp) (fp' : Fp) (fv : List Addr) : Prop where
  c : Cfg K H' G' σ ρ' fp'
  st : Step fp H G fp' H' G'
  r : Rws K H' G' vs ws fv
  nd : fv.Nodup
  sep : ∀ a ∈ fv, ¬ Own fp' a
  nwv : ∀ a ∈ fv, Own fp a ∨ H a = none
abbrev ResW (K : Frg) (mg : Mg) (E : WX) (H G : Hp) (fp : Fp) (σ : St) (Q : List V → Hp → Prop) (o : Out (List Wv)) : Prop :=
  ResO (fun ws ρ' => ∀ vs H' G' fp' fv, PA' K H G fp σ ρ' vs ws H' G' fp' fv → Q vs H') (ResX K mg E H G fp σ) o
def tW (K : Frg) (mg : Mg) (E : WX) (f : Rho → Out (List Wv)) : TA := fun σ H Q => ∃ G ρ fp, Cfg K H G σ ρ fp ∧ ResW K mg E H G fp σ Q (f ρ)
def SAW (X : Cx) (E : WX) (es : List Expr) (f : Rho → Out (List Wv)) : Prop := PA X es (tW X.K X.mg E f)
def wNil : Rho → Out (List Wv) := fun ρ => .ok [] ρ
def wCons (f : ES) (fs : Rho → Out (List Wv)) : Rho → Out (List Wv) := fun ρ => (f ρ).bind fun w r => (fs r).bind fun ws r => .ok (w :: ws) r
section
variable {K : Frg} {mg : Mg} {E : WX} {H G H1 G1 : Hp} {fp fp1 : Fp} {σ : St} {ρ : Rho}
theorem Step.in' (s : Step fp H G fp1 H1 G1) {a : Addr} (h : Own fp a ∨ H a = none) : Own fp a ∨ H a = none := h
/-- a temporary stands while the rest runs -/
theorem Rw.keep {w : Wv} {v : V} {f : List Addr} (r : Rw K H G v w f) (s : Step fp H G fp1 H1 G1) (sep : ∀ a ∈ f, ¬ Own fp a) : Rw K H1 G1 v w f ∧ ∀ a ∈ f, ¬ Own fp1 a := by
  refine ⟨Rw.move s.x.sg w v f r fun a ha => ?_, fun a ha h => ?_⟩
  · obtain ⟨vs, h1, g1⟩ := Rw.there w v f r a ha
    obtain ⟨h2, g2⟩ := s.x.oth a _ h1 g1 (sep a ha)
    exact ⟨h2.trans h1.symm, g2⟩
  · obtain ⟨vs, h1, g1⟩ := Rw.there w v f r a ha
    rcases s.nw a h with z | z
    · exact sep a ha z
    · rw [h1] at z; cases z
theorem Rws.keep {w : List Wv} {v : List V} {f : List Addr} (r : Rws K H G v w f) (s : Step fp H G fp1 H1 G1) (sep : ∀ a ∈ f, ¬ Own fp a) : Rws K H1 G1 v w f ∧ ∀ a ∈ f, ¬ Own fp1 a := by
  refine ⟨Rws.move s.x.sg w v f r fun a ha => ?_, fun a ha h => ?_⟩
  · obtain ⟨vs, h1, g1⟩ := Rws.there w v f r a ha
    obtain ⟨h2, g2⟩ := s.x.oth a _ h1 g1 (sep a ha)
    exact ⟨h2.trans h1.symm, g2⟩
  · obtain ⟨vs, h1, g1⟩ := Rws.there w v f r a ha
    rcases s.nw a h with z | z
    · exact sep a ha z
    · rw [h1] at z; cases z
theorem ResW.rebase (s : Step fp H G fp1 H1 G1) (sg : Same G1 H1) {Q : List V → Hp → Prop} {o : Out (List Wv)} (h : ResW K mg E H G fp σ Q o) : ResW K mg E H1 G1 fp1 σ Q o :=
  ResO.imp (fun _ _ q v H' G' fp' fv p => q v H' G' fp' fv ⟨p.c, s.trans p.st sg, p.r, p.nd, p.sep, fun a h => (p.nwv a h).elim (s.nw a) fun z => .inr (s.x.dom a z)⟩) (fun _ _ q => ResX.rebase s sg q) h
theorem seqE {α : Type} {pok : α → Rho → Prop} {o : Out Wv} {k : Wv → Rho → Out α} {R : VK} (h : ResO pok (ResX K mg E H G fp σ) (o.bind k))
    (f : ∀ w ρ' v H' G' fp' fv, PV K H G fp σ ρ' v w H' G' fp' fv → ResO pok (ResX K mg E H G fp σ) (k w ρ') → R v H') : ResE K mg E H G fp σ R o :=
  ResO.imp (fun w ρ' q v H' G' fp' fv p => f w ρ' v H' G' fp' fv p q) (fun _ _ q => q) (ResO.bind h)
theorem seqW {α : Type} {pok : α → Rho → Prop} {o : Out (List Wv)} {k : List Wv → Rho → Out α} {R : List V → Hp → Prop} (h : ResO pok (ResX K mg E H G fp σ) (o.bind k))
    (f : ∀ ws ρ' vs H' G' fp' fv, PA' K H G fp σ ρ' vs ws H' G' fp' fv → ResO pok (ResX K mg E H G fp σ) (k ws ρ') → R vs H') : ResW K mg E H G fp σ R o :=
  ResO.imp (fun w ρ' q v H' G' fp' fv p => f w ρ' v H' G' fp' fv p q) (fun _ _ q => q) (ResO.bind h)
end
section
variable {X : Cx} {E : WX} {e a b c : Expr} {es rest : List Expr} {f fa fb fc : ES} {pos : Pos}
/-- a value, frozen at once -/
def sFz (f : ES) : ES := fun ρ => (fz (f ρ)).bind fun d r => .ok (.d d) r
theorem se_fz (h : SE X E e f) : SE X E e (sFz f) := pe_sub h.D fun σ H Q ⟨G, ρ, fp, c, q⟩ => ⟨G, ρ, fp, c, seqD q fun d r v H1 G1 fp1 c1 s1 d1 q1 => ResE.val c1 d1 (ResE.rebase s1 c1.sg q1)⟩
theorem sw_nil : SAW X E [] wNil := pa_sub pa_nil fun σ H Q ⟨G, ρ, fp, c, q⟩ => q [] H G fp [] ⟨c, .refl, by unfold Rws; exact ⟨rfl, rfl⟩, List.nodup_nil, (fun _ z => nomatch z), (fun _ z => nomatch z)⟩
theorem seqW1 {α : Type} {K : Frg} {mg : Mg} {H G H1 G1 : Hp} {fp fp1 : Fp} {σ : St} {pok : α → Rho → Prop} {o : Out (List Wv)} {k : List Wv → Rho → Out α} {R : List V → Hp → Prop} (s : Step fp H G fp1 H1 G1) (sg : Same G1 H1) (h : ResO pok (ResX K mg E H G fp σ) (o.bind k))
    (f : ∀ ws ρ' vs H' G' fp' fv, PA' K H1 G1 fp1 σ ρ' vs ws H' G' fp' fv → ResO pok (ResX K mg E H G fp σ) (k ws ρ') → R vs H') : ResW K mg E H1 G1 fp1 σ R o :=
  ResO.imp (fun w ρ' q v H' G' fp' fv p => f w ρ' v H' G' fp' fv p q) (fun _ _ q => ResX.rebase s sg q) (ResO.bind h)
theorem sw_cons {fs : Rho → Out (List Wv)} (ha : SE X E e f) (hr : SAW X E es fs) (hs : starEach (e :: es) X.env = (false, eval e X.env) :: starEach es X.env := by rfl) : SAW X E (e :: es) (wCons f fs) :=
  pa_sub (pa_cons ha hr hs) fun σ H Q ⟨G, ρ, fp, c, q⟩ => ⟨G, ρ, fp, c, seqE q fun w r v H1 G1 fp1 f1 p1 q1 => ⟨G1, r, fp1, p1.c, seqW1 p1.st p1.c.sg q1 fun ws r2 vs H2 G2 fp2 f2 p2 q2 => by
    obtain ⟨k1, k2⟩ := p1.r.keep p2.st p1.sep
    refine q2 (v :: vs) H2 G2 fp2 (f1 ++ f2) ⟨p2.c, p1.st.trans p2.st p1.c.sg, ?_, ?_, ?_, ?_⟩
    · unfold Rws; exact ⟨v, vs, f1, f2, rfl, rfl, k1, p2.r⟩
    · refine List.nodup_append.mpr ⟨p1.nd, p2.nd, fun x hx y hy e => ?_⟩
      subst e
      rcases p2.nwv x hy with z | z
      · exact p1.sep x hx z
      · obtain ⟨_, h1, _⟩ := Rw.there w v f1 p1.r x hx
        rw [h1] at z; cases z
    · intro x hx
      rcases List.mem_append.mp hx with z | z
      · exact k2 x z
      · exact p2.sep x z
    · intro x hx
      rcases List.mem_append.mp hx with z | z
      · exact p1.nwv x z
      · exact (p2.nwv x z).elim (p1.st.nw x) fun y => .inr (p1.st.x.dom x y)⟩⟩
end

/-! ## statements -/
inductive Fl where
  | nx
  | ret (w : Wv)
  | bk
  | ct
abbrev SSem := Rho → Out Fl
def Keep (M : Nat → Bool) (σ σ' : St) : Prop := σ'.length = σ.length ∧ ∀ i, M i = true → σ'[i]? = σ[i]?
theorem Keep.refl {M : Nat → Bool} {σ : St} : Keep M σ σ := ⟨rfl, fun _ _ => rfl⟩
theorem Keep.trans {M : Nat → Bool} {σ σ1 σ2 : St} (a : Keep M σ σ1) (b : Keep M σ1 σ2) : Keep M σ σ2 := ⟨b.1.trans a.1, fun i h => (b.2 i h).trans (a.2 i h)⟩
def PokS (K : Frg) (M : Nat → Bool) (D : Ends) (H G : Hp) (fp : Fp) (σ : St) : Fl → Rho → Prop
  | .nx, ρ' => ∀ σ' H' G' fp', Cfg K H' G' σ' ρ' fp' → Step fp H G fp' H' G' → Keep M σ σ' → D.nx σ' H'
  | .bk, ρ' => ∀ σ' H' G' fp', Cfg K H' G' σ' ρ' fp' → Step fp H G fp' H' G' → Keep M σ σ' → D.bk σ' H'
  | .ct, ρ' => ∀ σ' H' G' fp', Cfg K H' G' σ' ρ' fp' → Step fp H G fp' H' G' → Keep M σ σ' → D.ct σ' H'
  | .ret w, ρ' => ∀ v σ' H' G' fp' fv, PV K H G fp σ' ρ' v w H' G' fp' fv → Keep M σ σ' → D.rt v H'
def PexS (K : Frg) (mg : Mg) (E : WX) (M : Nat → Bool) (H G : Hp) (fp : Fp) (σ : St) (x : Xn) (ρ' : Rho) : Prop :=
  ∀ cls dd σ' H' G' fp', Cfg K H' G' σ' ρ' fp' → Step fp H G fp' H' G' → Keep M σ σ' → XRep K mg G' H' x cls dd → E cls dd σ' H'
abbrev ResS (K : Frg) (mg : Mg) (E : WX) (M : Nat → Bool) (D : Ends) (H G : Hp) (fp : Fp) (σ : St) (o : Out Fl) : Prop := ResO (PokS K M D H G fp σ) (PexS K mg E M H G fp σ) o
def tSt (K : Frg) (mg : Mg) (E : WX) (M : Nat → Bool) (f : SSem) : TS := fun D σ H => ∃ G ρ fp, Cfg K H G σ ρ fp ∧ ResS K mg E M D H G fp σ (f ρ)
def SS (X : Cx) (E : WX) (M : Nat → Bool) (st : List Stmt) (f : SSem) : Prop := PSs X st (tSt X.K X.mg E M f)
def S1 (X : Cx) (E : WX) (M : Nat → Bool) (st : Stmt) (f : SSem) : Prop := PS X st (tSt X.K X.mg E M f)
section
variable {K : Frg} {mg : Mg} {E : WX} {M : Nat → Bool} {H G H1 G1 : Hp} {fp fp1 : Fp} {σ σ1 : St} {ρ : Rho} {D : Ends}
theorem PokS.rebase (s : Step fp H G fp1 H1 G1) (k : Keep M σ σ1) (sg : Same G1 H1) : ∀ {fl : Fl} {r : Rho}, PokS K M D H G fp σ fl r → PokS K M D H1 G1 fp1 σ1 fl r
  | .nx, _, h => fun σ' H' G' fp' c s' k' => h σ' H' G' fp' c (s.trans s' sg) (k.trans k')
  | .bk, _, h => fun σ' H' G' fp' c s' k' => h σ' H' G' fp' c (s.trans s' sg) (k.trans k')
  | .ct, _, h => fun σ' H' G' fp' c s' k' => h σ' H' G' fp' c (s.trans s' sg) (k.trans k')
  | .ret w, _, h => fun v σ' H' G' fp' fv p k' => h v σ' H' G' fp' fv (p.rebase s sg) (k.trans k')
theorem PexS.rebase (s : Step fp H G fp1 H1 G1) (k : Keep M σ σ1) (sg : Same G1 H1) {x : Xn} {r : Rho} (h : PexS K mg E M H G fp σ x r) : PexS K mg E M H1 G1 fp1 σ1 x r :=
  fun cls dd σ' H' G' fp' c s' k' xr => h cls dd σ' H' G' fp' c (s.trans s' sg) (k.trans k') xr
theorem ResS.rebase (s : Step fp H G fp1 H1 G1) (k : Keep M σ σ1) (sg : Same G1 H1) {o : Out Fl} (h : ResS K mg E M D H G fp σ o) : ResS K mg E M D H1 G1 fp1 σ1 o :=
  ResO.imp (fun _ _ q => PokS.rebase s k sg q) (fun _ _ q => PexS.rebase s k sg q) h
theorem PexS.X {x : Xn} {r : Rho} (h : PexS K mg E M H G fp σ x r) : ResX K mg E H G fp σ x r := fun cls dd H' G' fp' c s xr => h cls dd σ H' G' fp' c s .refl xr
/-- an expression in a statement -/
theorem seqES {α : Type} {pok : α → Rho → Prop} {o : Out Wv} {k : Wv → Rho → Out α} {R : VK} (h : ResO pok (PexS K mg E M H G fp σ) (o.bind k))
    (f : ∀ w ρ' v H' G' fp' fv, PV K H G fp σ ρ' v w H' G' fp' fv → ResO pok (PexS K mg E M H G fp σ) (k w ρ') → R v H') : ResE K mg E H G fp σ R o :=
  ResO.imp (fun w ρ' q v H' G' fp' fv p => f w ρ' v H' G' fp' fv p q) (fun _ _ q => PexS.X q) (ResO.bind h)
theorem seqDS {α : Type} {pok : α → Rho → Prop} {o : Out FW.D} {k : FW.D → Rho → Out α} {R : VK} (h : ResO pok (PexS K mg E M H G fp σ) (o.bind k))
    (f : ∀ d ρ' v H' G' fp', Cfg K H' G' σ ρ' fp' → Step fp H G fp' H' G' → Dr K G' v d → ResO pok (PexS K mg E M H G fp σ) (k d ρ') → R v H') : ResD K mg E H G fp σ R o :=
  ResO.imp (fun d ρ' q v H' G' fp' c s dr => f d ρ' v H' G' fp' c s dr q) (fun _ _ q => PexS.X q) (ResO.bind h)
theorem seqTS {α : Type} {pok : α → Rho → Prop} {o : Out Bool} {k : Bool → Rho → Out α} {R : Bool → Hp → Prop} (h : ResO pok (PexS K mg E M H G fp σ) (o.bind k))
    (f : ∀ d ρ' H' G' fp', Cfg K H' G' σ ρ' fp' → Step fp H G fp' H' G' → ResO pok (PexS K mg E M H G fp σ) (k d ρ') → R d H') : ResT K mg E H G fp σ R o :=
  ResO.imp (fun d ρ' q H' G' fp' c s => f d ρ' H' G' fp' c s q) (fun _ _ q => PexS.X q) (ResO.bind h)
theorem seqWS {α : Type} {pok : α → Rho → Prop} {o : Out (List Wv)} {k : List Wv → Rho → Out α} {R : List V → Hp → Prop} (h : ResO pok (PexS K mg E M H G fp σ) (o.bind k))
    (f : ∀ ws ρ' vs H' G' fp' fv, PA' K H G fp σ ρ' vs ws H' G' fp' fv → ResO pok (PexS K mg E M H G fp σ) (k ws ρ') → R vs H') : ResW K mg E H G fp σ R o :=
  ResO.imp (fun w ρ' q v H' G' fp' fv p => f w ρ' v H' G' fp' fv p q) (fun _ _ q => PexS.X q) (ResO.bind h)
end
section
variable {X : Cx} {E : WX} {M : Nat → Bool} {e a b c : Expr} {es : List Expr} {f fa fb fc : ES} {g : Rho → Out Bool} {st : Stmt} {sts rest : List Stmt} {p q r : SSem} {pos : Pos}
def sNil : SSem := fun ρ => .ok .nx ρ
def sCons (p q : SSem) : SSem := fun ρ => (p ρ).bind fun fl r => match fl with
  | .nx => q r
  | fl => .ok fl r
theorem ss_nil : SS X E M [] sNil := pss_sub pss_nil fun D σ H ⟨G, ρ, fp, c, q⟩ => q σ H G fp c .refl .refl
theorem ss_cons (h1 : S1 X E M st p) (h2 : SS X E M rest q) : SS X E M (st :: rest) (sCons p q) :=
  pss_sub (pss_cons h1 h2) fun D σ H ⟨G, ρ, fp, c, h⟩ => ⟨G, ρ, fp, c, ResO.imp (fun fl r k => by
    cases fl with
    | nx => exact fun σ' H' G' fp' c' s' k' => ⟨G', r, fp', c', ResS.rebase s' k' c'.sg k⟩
    | bk => exact k
    | ct => exact k
    | ret w => exact k) (fun _ _ k => k) (ResO.bind h)⟩
theorem ss_one (h1 : S1 X E M st p) : SS X E M [st] p := pss_one h1
def sPass : SSem := fun ρ => .ok .nx ρ
def sBreak : SSem := fun ρ => .ok .bk ρ
def sCont : SSem := fun ρ => .ok .ct ρ
theorem s1_pass : S1 X E M (.Pass pos) sPass := ps_sub ps_pass fun D σ H ⟨G, ρ, fp, c, q⟩ => q σ H G fp c .refl .refl
theorem s1_break : S1 X E M (.Break pos) sBreak := ps_sub ps_break fun D σ H ⟨G, ρ, fp, c, q⟩ => q σ H G fp c .refl .refl
theorem s1_cont : S1 X E M (.Continue pos) sCont := ps_sub ps_continue fun D σ H ⟨G, ρ, fp, c, q⟩ => q σ H G fp c .refl .refl
theorem s1_doc {x : Str} {j : Nat} {pos' : Pos} : S1 X E M (.Expr (.Constant (.str x) j pos) pos') sPass := ps_sub ps_doc fun D σ H ⟨G, ρ, fp, c, q⟩ => q σ H G fp c .refl .refl
/-- an expression's value dropped -/
def sDrop (f : ES) : SSem := fun ρ => (f ρ).bind fun _ r => .ok .nx r
theorem PV.less {K : Frg} {H G : Hp} {fp : Fp} {σ : St} {ρ' : Rho} {v : V} {w : Wv} {H' G' : Hp} {fp' : Fp} {fv : List Addr} (p : PV K H G fp σ ρ' v w H' G' fp' fv) : Cfg K H' G' σ ρ' fp' ∧ Step fp H G fp' H' G' := ⟨p.c, p.st⟩
theorem s1_drop (h : SE X E e f) (hs : swapsWith e none pos.line X.env = pure false := by rfl) : S1 X E M (.Expr e pos) (sDrop f) :=
  ps_sub (ps_expr h hs) fun D σ H ⟨G, ρ, fp, c, q⟩ => ⟨G, ρ, fp, c, seqES q fun w r v H' G' fp' fv p q1 => q1 σ H' G' fp' p.c p.st .refl⟩
def sRet (f : ES) : SSem := fun ρ => (f ρ).bind fun w r => .ok (.ret w) r
def sRetN : SSem := fun ρ => .ok (.ret (.d .none)) ρ
theorem s1_ret (h : SE X E e f) : S1 X E M (.Return (some e) pos) (sRet f) :=
  ps_sub (ps_ret h) fun D σ H ⟨G, ρ, fp, c, q⟩ => ⟨G, ρ, fp, c, seqES q fun w r v H' G' fp' fv p q1 => q1 v σ H' G' fp' fv p .refl⟩
theorem s1_retN : S1 X E M (.Return none pos) sRetN :=
  ps_sub ps_retN fun D σ H ⟨G, ρ, fp, c, q⟩ => q .non σ H G fp [] ⟨c, .refl, by unfold Rw; exact ⟨rfl, Dr.none⟩, List.nodup_nil, (fun _ z => nomatch z), (fun _ z => nomatch z)⟩ .refl
def sIte (g : Rho → Out Bool) (p q : SSem) : SSem := fun ρ => (g ρ).bind fun b r => if b = true then p r else q r
theorem s1_if {aa bb : List Stmt} (hc : ST X E c g) (ha : SS X E M aa p) (hb : SS X E M bb q) : S1 X E M (.If c aa bb pos) (sIte g p q) :=
  ps_sub (ps_if hc ha hb) fun D σ H ⟨G, ρ, fp, c, h⟩ => ⟨G, ρ, fp, c, seqTS h fun b r H1 G1 fp1 c1 s1 h1 => by
    cases b with
    | true => rw [if_pos rfl] at h1 ⊢; exact ⟨G1, r, fp1, c1, ResS.rebase s1 .refl c1.sg h1⟩
    | false => rw [if_neg (Bool.false_ne_true)] at h1 ⊢; exact ⟨G1, r, fp1, c1, ResS.rebase s1 .refl c1.sg h1⟩⟩
/-! ### a name's new value -/
theorem Keep.set {σ : St} {i : Nat} {v : Option V} (h : M i = false) : Keep M σ (σ.set i v) := ⟨List.length_set, fun j hj => by
  by_cases e : i = j
  · subst e; rw [h] at hj; cases hj
  · rw [List.getElem?_set_ne e]⟩
def sSet (i : Nat) (f : ES) : SSem := fun ρ => (f ρ).bind fun w r => if i < r.length then .ok .nx (r.set i (some w)) else .bad
theorem PV.put {K : Frg} {H G : Hp} {fp : Fp} {σ : St} {ρ' : Rho} {v : V} {w : Wv} {H' G' : Hp} {fp' : Fp} {fv : List Addr} (p : PV K H G fp σ ρ' v w H' G' fp' fv) {i : Nat} (hi : i < ρ'.length) :
    Cfg K H' G' (σ.set i (some v)) (ρ'.set i (some w)) (upF fp' i fv) ∧ Step fp H G (upF fp' i fv) H' G' := by
  refine ⟨p.c.put (fun w' e => ⟨v, rfl, by cases e; exact p.r⟩) (fun e => nomatch e) p.nd (fun a ha j _ h => p.sep a ha ⟨j, h⟩) hi, p.st.x, fun a h => ?_⟩
  rcases h.up with z | ⟨j, _, z⟩
  · exact p.nwv a z
  · exact p.st.nw a ⟨j, z⟩
theorem set_rd {K : Frg} {mg : Mg} {i : Nat} {D : Ends} {σ : St} {H : Hp} (hM : M i = false) (h : tSt K mg E M (sSet i f) D σ H) : tS K mg E f σ H fun x H1 => gName i x σ H1 D.nx := by
  obtain ⟨G, ρ, fp, c, q⟩ := h
  refine ⟨G, ρ, fp, c, seqES q fun w r v H' G' fp' fv p q1 => ?_⟩
  split at q1
  · rename_i hi
    obtain ⟨c1, s1⟩ := p.put hi
    exact q1 _ _ _ _ c1 s1 (.set hM)
  · exact q1.elim
theorem s1_set {i : Nat} {x : Str} {pos' : Pos} (he : SE X E e f) (hM : M i = false := by rfl) (hN : X.N.Nodup) (hi : X.N[i]? = some x := by rfl) (hx : Loc X.env.scope x := by first | exact Or.inl rfl | exact Or.inr rfl) (hs : swapsWith e (some (.Name x pos')) pos.line X.env = pure false := by rfl)
    (hf : X.fn x = true ∨ X.env.scope.names.lookup x = some .local := by first | exact .inl rfl | exact .inr rfl) : S1 X E M (.Assign [.Name x pos'] e pos) (sSet i f) :=
  ps_sub (ps_set hN hi hx he hs hf) fun D σ H h => set_rd hM h
end
end FW

set_option Elab.async false
set_option linter.all false
set_option maxRecDepth 100000
set_option maxHeartbeats 1000001
namespace FW
open PySem PySem.Spec L2
/-! ## what is walked -/
structure Yld (K : Frg) (J : It) (xs : List D) (H G : Hp) : Prop where
  go : ∀ i H' G', Same G G' → Same G' H' → i < xs.length → J.go i H'
  stop : ∀ i H' G', Same G G' → Same G' H' → xs.length ≤ i → J.stop i H'
  yld : ∀ i H' G' x H'', Same G G' → Same G' H' → J.yld i H' x H'' → i < xs.length → ∃ G'' d, Ext (fun _ => False) H' G' H'' G'' ∧ Same G'' H'' ∧ xs[i]? = some d ∧ Dr K G'' x d
theorem Yld.mono {K : Frg} {J : It} {xs : List D} {H G H1 G1 : Hp} (y : Yld K J xs H G) (h : Same G G1) : Yld K J xs H1 G1 :=
  ⟨fun i H' G' s => y.go i H' G' (h.trans s), fun i H' G' s => y.stop i H' G' (h.trans s), fun i H' G' x H'' s => y.yld i H' G' x H'' (h.trans s)⟩
abbrev ISem := Rho → Out (List D)
abbrev ResI (K : Frg) (mg : Mg) (E : WX) (H G : Hp) (fp : Fp) (σ : St) (R : It → Hp → Prop) (o : Out (List D)) : Prop :=
  ResO (fun xs ρ' => ∀ J H' G' fp', Cfg K H' G' σ ρ' fp' → Step fp H G fp' H' G' → Yld K J xs H' G' → R J H') (ResX K mg E H G fp σ) o
def tIt (K : Frg) (mg : Mg) (E : WX) (f : ISem) : TI := fun σ H R => ∃ G ρ fp, Cfg K H G σ ρ fp ∧ ResI K mg E H G fp σ R (f ρ)
def SI (X : Cx) (E : WX) (tg iter : Expr) (f : ISem) : Prop := PI X tg iter (tIt X.K X.mg E f)
theorem pi_sub {X : Cx} {tg iter : Expr} {w w' : TI} (h : PI X tg iter w) (k : ∀ σ H R, w' σ H R → w σ H R) : PI X tg iter w' := ⟨fun pins s σ H R I q => h.run pins s σ H R I (k σ H R q)⟩
theorem pi_or {X : Cx} {tg iter : Expr} {w w' : TI} (h : PI X tg iter w) (h' : PI X tg iter w') : PI X tg iter (fun σ H R => w σ H R ∨ w' σ H R) :=
  ⟨fun pins s σ H R I q => q.elim (h.run pins s σ H R I) (h'.run pins s σ H R I)⟩
section
variable {X : Cx} {E : WX} {M : Nat → Bool} {tg e e2 a b : Expr} {es : List Expr} {f : ES} {fs : Rho → Out (List D)} {pos p tpos : Pos}
theorem yld_list {K : Frg} {H G : Hp} {a : Addr} {vs : List V} {ds : List D} (h : G a = some (.lst vs)) (r : Drs K G vs ds) : Yld K (Itl K a) ds H G := by
  refine ⟨fun i H' G' s s' hi => ?_, fun i H' G' s s' hi => ?_, fun i H' G' x H'' s s' y hi => ?_⟩
  · obtain ⟨v, hv, _⟩ := r.get (List.getElem?_eq_getElem hi)
    exact ⟨vs, v, SqL.of (s' _ _ (s _ _ h)), hv⟩
  · exact ⟨vs, SqL.of (s' _ _ (s _ _ h)), by rw [r.length]; exact hi⟩
  · obtain ⟨e, y⟩ := y
    subst e
    obtain ⟨v, hv, hr⟩ := r.get (List.getElem?_eq_getElem hi)
    have ev : x = v := Option.some.inj ((y vs (SqL.of (s' _ _ (s _ _ h)))).symm.trans hv)
    subst ev
    exact ⟨G', ds[i], .refl, s', List.getElem?_eq_getElem hi, Dr.mono s _ _ hr⟩
theorem yld_tup {K : Frg} {H G : Hp} {a : Addr} {vs : List V} {ds : List D} (h : SqT K G a vs) (r : Drs K G vs ds) : Yld K (Itt K a) ds H G := by
  have st : ∀ {H' G'}, Same G G' → Same G' H' → SqT K H' a vs := fun s s' => same_seqT s' (same_seqT s h)
  refine ⟨fun i H' G' s s' hi => ?_, fun i H' G' s s' hi => ?_, fun i H' G' x H'' s s' y hi => ?_⟩
  · obtain ⟨v, hv, _⟩ := r.get (List.getElem?_eq_getElem hi)
    exact ⟨vs, v, st s s', hv⟩
  · exact ⟨vs, st s s', by rw [r.length]; exact hi⟩
  · obtain ⟨e, y⟩ := y
    subst e
    obtain ⟨v, hv, hr⟩ := r.get (List.getElem?_eq_getElem hi)
    have ev : x = v := Option.some.inj ((y vs (st s s')).symm.trans hv)
    subst ev
    exact ⟨G', ds[i], .refl, s', List.getElem?_eq_getElem hi, Dr.mono s _ _ hr⟩
def iSeq (f : ES) : ISem := fun ρ => (fz (f ρ)).bind fun d r => ofO (itemsD d) r
theorem si_seq (h : SE X E e f) : SI X E tg e (iSeq f) :=
  pi_sub (pi_or (pi_list (tg := tg) h.D) (pi_tup (tg := tg) h.D)) fun σ H R ⟨G, ρ, fp, c, q⟩ => by
    unfold iSeq at q
    cases z : fz (f ρ) with
    | bad => rw [z] at q; exact q.elim
    | exc x r => rw [z] at q; exact .inl ⟨G, ρ, fp, c, by rw [z]; exact q⟩
    | ok d r =>
      rw [z] at q
      cases d with
      | list ds =>
        refine .inl ⟨G, ρ, fp, c, ?_⟩
        rw [z]
        intro v H' G' fp' c1 s1 d1
        obtain ⟨a, vs, ev, h1, h2⟩ := d1.lst_inv
        exact ⟨a, ev, ⟨vs, SqL.of (c1.sg _ _ h1)⟩, q _ _ _ _ c1 s1 (yld_list h1 h2)⟩
      | tuple ds =>
        refine .inr ⟨G, ρ, fp, c, ?_⟩
        rw [z]
        intro v H' G' fp' c1 s1 d1
        obtain ⟨a, vs, ev, h1, h2⟩ := d1.tup_inv
        exact ⟨a, ev, ⟨vs, same_seqT c1.sg h1⟩, q _ _ _ _ c1 s1 (yld_tup h1 h2)⟩
      | _ => exact q.elim
/-- range -/
def rngD (lo : Int) (n : Nat) : List D := (List.range n).map fun (i : Nat) => .int (lo + (i : Int))
theorem rngD_len {lo : Int} {n : Nat} : (rngD lo n).length = n := by unfold rngD; simp
theorem rngD_get {lo : Int} {n i : Nat} (h : i < n) : (rngD lo n)[i]? = some (.int (lo + (i : Int))) := by unfold rngD; simp [h]
theorem yld_rng {K : Frg} {H G : Hp} {lo : Int} {n : Nat} : Yld K (Itr lo n) (rngD lo n) H G := by
  refine ⟨fun i H' G' _ _ hi => by rw [rngD_len] at hi; exact hi, fun i H' G' _ _ hi => by rw [rngD_len] at hi; exact hi, fun i H' G' x H'' _ s' y hi => ?_⟩
  obtain ⟨e, ex⟩ := y
  subst e ex
  rw [rngD_len] at hi
  exact ⟨G', _, .refl, s', rngD_get hi, Dr.int⟩
def iRange1 (fs : Rho → Out (List D)) : ISem := fun ρ => (fs ρ).bind fun ds r => match ds with
  | [.int j] => if j ≤ 1000000 ∧ -1000000 ≤ j then .ok (rngD 0 j.toNat) r else .bad
  | _ => .bad
def iRange2 (fs : Rho → Out (List D)) : ISem := fun ρ => (fs ρ).bind fun ds r => match ds with
  | [.int i, .int j] => if (i ≤ 1000000 ∧ -1000000 ≤ i) ∧ j ≤ 1000000 ∧ -1000000 ≤ j then .ok (rngD i (j - i).toNat) r else .bad
  | _ => .bad
theorem si_range1 (hm : X.mg "range" = none) (ha : SA X E [a] fs) (hg : Gl X "range" := by rfl) (hs : starEach [a] X.env = [(false, eval a X.env)] := by rfl) : SI X E tg (.Call (.Name "range" p) [a] [] pos) (iRange1 fs) :=
  pi_sub (pi_range1 hg hm ha hs) fun σ H R ⟨G, ρ, fp, c, q⟩ => ⟨G, ρ, fp, c, seqA q fun ds r vs H1 G1 fp1 c1 s1 d1 q1 => by
    split at q1
    · rename_i j
      split at q1
      · rename_i h
        obtain ⟨v, e1, h1⟩ := d1.one
        exact ⟨j, by rw [e1, h1.int_inv], by omega, by omega, q1 _ _ _ _ c1 s1 yld_rng⟩
      · exact q1.elim
    · exact q1.elim⟩
theorem si_range2 (hm : X.mg "range" = none) (ha : SA X E [a, b] fs) (hg : Gl X "range" := by rfl) (hs : starEach [a, b] X.env = [(false, eval a X.env), (false, eval b X.env)] := by rfl) (hs2 : starEach [b] X.env = [(false, eval b X.env)] := by rfl) :
    SI X E tg (.Call (.Name "range" p) [a, b] [] pos) (iRange2 fs) :=
  pi_sub (pi_range2 hg hm ha hs hs2) fun σ H R ⟨G, ρ, fp, c, q⟩ => ⟨G, ρ, fp, c, seqA q fun ds r vs H1 G1 fp1 c1 s1 d1 q1 => by
    split at q1
    · rename_i i j
      split at q1
      · rename_i h
        obtain ⟨v, u, e1, h1, h2⟩ := d1.two
        exact ⟨i, j, by rw [e1, h1.int_inv, h2.int_inv], ⟨by omega, by omega, by omega, by omega⟩, q1 _ _ _ _ c1 s1 yld_rng⟩
      · exact q1.elim
    · exact q1.elim⟩
/-- pairs: a new tuple each -/
theorem newTup {K : Frg} {H G : Hp} {T : Addr} {vs : List V} {ds : List D} (sg : Same G H) (hT : H T = none) (r : Drs K G vs ds) : ∃ G', Ext (fun _ => False) H G (upd H T (.tup vs)) G' ∧ Same G' (upd H T (.tup vs)) ∧ Dr K G' (.ref T) (.tuple ds) := by
  have gp : G T = none := by
    cases e : G T with
    | none => rfl
    | some o => rw [sg T o e] at hT; cases hT
  have ne : ∀ a u, H a = some u → a ≠ T := fun a u h e => by rw [e, hT] at h; cases h
  have sg1 : Same G (upd G T (.tup vs)) := fun a u q => by rw [upd_ne (ne a u (sg a u q))]; exact q
  refine ⟨upd G T (.tup vs), ⟨sg1, fun a u q g _ => ?_, fun a q => ?_⟩, fun a u q => ?_, Dr.tup (.inl (.inl upd_same)) (Drs.mono sg1 _ _ r)⟩
  · have e := ne a u q
    rw [upd_ne e, upd_ne e]
    exact ⟨q, g⟩
  · by_cases e : a = T
    · rw [e]; exact hT
    · rw [upd_ne e] at q; exact q
  · by_cases e : a = T
    · subst e; rw [upd_same] at q ⊢; exact q
    · rw [upd_ne e] at q ⊢; exact sg a u q
theorem Dr.itemsB {K : Frg} {G : Hp} {v : V} {d : D} {ds : List D} (h : Dr K G v d) (e : itemsD d = some ds) : ∃ a b vs, v = .ref a ∧ (∀ H, Same G H → SqB b K H a vs) ∧ Drs K G vs ds := by
  cases d with
  | tuple es =>
    cases e
    obtain ⟨a, xs, e1, h1, h2⟩ := h.tup_inv
    exact ⟨a, true, xs, e1, fun H s => same_seqT s h1, h2⟩
  | list es =>
    cases e
    obtain ⟨a, xs, e1, h1, h2⟩ := h.lst_inv
    exact ⟨a, false, xs, e1, fun H s => SqL.of (s _ _ h1), h2⟩
  | _ => cases e
def zipD (xs ys : List D) : List D := List.zipWith (fun x y => .tuple [x, y]) xs ys
def iZip2 (fs : Rho → Out (List D)) : ISem := fun ρ => (fs ρ).bind fun ds r => match ds with
  | [x, y] => match itemsD x, itemsD y with
    | some xs, some ys => .ok (zipD xs ys) r
    | _, _ => .bad
  | _ => .bad
theorem si_zip {elts : List Expr} {kk : Nat} (hm : X.mg "zip" = none) (ha : SA X E [e, e2] fs) (hg : Gl X "zip" := by rfl)
    (hs : starEach [e, e2] X.env = (false, eval e X.env) :: starEach [e2] X.env := by rfl)
    (hpl : (backTo pos (starEach [e2] X.env)).any (·.1) = false := by rfl) :
    SI X E (.Tuple elts kk tpos) (.Call (.Name "zip" p) [e, e2] [] pos) (iZip2 fs) :=
  pi_sub (pi_zipB hg hm ha hs hpl) fun σ H R ⟨G, ρ, fp, c, q⟩ => ⟨G, ρ, fp, c, seqA q fun ds r vs H1 G1 fp1 c1 s1 d1 q1 => by
    split at q1
    · rename_i x y
      split at q1
      · rename_i xs ys ex ey
        obtain ⟨v, u, e1, h1, h2⟩ := d1.two
        obtain ⟨a1, b1, vs1, ev1, k1, r1⟩ := h1.itemsB ex
        obtain ⟨a2, b2, vs2, ev2, k2, r2⟩ := h2.itemsB ey
        refine ⟨a1, a2, b1, b2, vs1, vs2, by rw [e1, ev1, ev2], k1 _ c1.sg, k2 _ c1.sg, q1 _ _ _ _ c1 s1 ?_⟩
        have hl : (zipD xs ys).length = min vs1.length vs2.length := by unfold zipD; rw [List.length_zipWith, r1.length, r2.length]
        refine ⟨fun i H' G' s s' hi => ⟨by omega, k1 _ (s.trans s'), k2 _ (s.trans s')⟩, fun i H' G' s s' hi => ⟨by omega, k1 _ (s.trans s'), k2 _ (s.trans s')⟩, fun i H' G' z H'' s s' yy hi => ?_⟩
        obtain ⟨T, x', y', rfl, hT, rfl, hx, hy⟩ := yy
        have hi1 : i < xs.length := by rw [← r1.length]; omega
        have hi2 : i < ys.length := by rw [← r2.length]; omega
        obtain ⟨w1, hw1, hd1⟩ := r1.get (List.getElem?_eq_getElem hi1)
        obtain ⟨w2, hw2, hd2⟩ := r2.get (List.getElem?_eq_getElem hi2)
        rw [hx] at hw1; cases hw1
        rw [hy] at hw2; cases hw2
        obtain ⟨G'', x1, x2, x3⟩ := newTup (ds := [xs[i], ys[i]]) s' hT (Drs.cons (Dr.mono s _ _ hd1) (Drs.cons (Dr.mono s _ _ hd2) Drs.nil))
        refine ⟨G'', _, x1, x2, ?_, x3⟩
        unfold zipD
        rw [List.getElem?_zipWith, List.getElem?_eq_getElem hi1, List.getElem?_eq_getElem hi2]
      · exact q1.elim
    · exact q1.elim⟩
def enumD (n : Nat) : List D → List D
  | [] => []
  | x :: xs => .tuple [.int (n : Int), x] :: enumD (n + 1) xs
theorem enumD_len : ∀ (xs : List D) (n : Nat), (enumD n xs).length = xs.length
  | [], _ => rfl
  | x :: xs, n => by unfold enumD; rw [List.length_cons, enumD_len xs, List.length_cons]
theorem enumD_get : ∀ (xs : List D) (n i : Nat) (x : D), xs[i]? = some x → (enumD n xs)[i]? = some (.tuple [.int ((n + i : Nat) : Int), x])
  | [], _, _, _, hNil => by simp at hNil 
  | y :: ys, n, 0, x, h => by
    simp at h
    subst h
    rfl
  | y :: ys, n, i + 1, x, h => by
    unfold enumD
    rw [List.getElem?_cons_succ, enumD_get ys (n + 1) i x (by simpa using h)]
    rw [show n + 1 + i = n + (i + 1) by omega]
def iEnum1 (fs : Rho → Out (List D)) : ISem := fun ρ => (fs ρ).bind fun ds r => match ds with
  | [x] => match itemsD x with
    | some xs => .ok (enumD 0 xs) r
    | none => .bad
  | _ => .bad
theorem si_enum {elts : List Expr} {kk : Nat} (hm : X.mg "enumerate" = none) (ha : SA X E [e] fs) (hg : Gl X "enumerate" := by rfl) (hs : starEach [e] X.env = [(false, eval e X.env)] := by rfl) :
    SI X E (.Tuple elts kk tpos) (.Call (.Name "enumerate" p) [e] [] pos) (iEnum1 fs) :=
  pi_sub (pi_enumB hg hm ha hs) fun σ H R ⟨G, ρ, fp, c, q⟩ => ⟨G, ρ, fp, c, seqA q fun ds r vs H1 G1 fp1 c1 s1 d1 q1 => by
    split at q1
    · rename_i x
      split at q1
      · rename_i xs ex
        obtain ⟨v, e1, h1⟩ := d1.one
        obtain ⟨a1, b1, vs1, ev1, k1, r1⟩ := h1.itemsB ex
        refine ⟨a1, b1, vs1, by rw [e1, ev1], k1 _ c1.sg, q1 _ _ _ _ c1 s1 ?_⟩
        have hl : (enumD 0 xs).length = vs1.length := by rw [enumD_len, r1.length]
        refine ⟨fun i H' G' s s' hi => ⟨by omega, k1 _ (s.trans s')⟩, fun i H' G' s s' hi => ⟨by omega, k1 _ (s.trans s')⟩, fun i H' G' z H'' s s' yy hi => ?_⟩
        obtain ⟨T, x', rfl, hT, rfl, hx⟩ := yy
        have hi1 : i < xs.length := by rw [← r1.length]; omega
        obtain ⟨w1, hw1, hd1⟩ := r1.get (List.getElem?_eq_getElem hi1)
        rw [hx] at hw1; cases hw1
        obtain ⟨G'', x1, x2, x3⟩ := newTup (ds := [.int ((0 + i : Nat) : Int), xs[i]]) s' hT (Drs.cons (by rw [Nat.zero_add]; exact Dr.int) (Drs.cons (Dr.mono s _ _ hd1) Drs.nil))
        exact ⟨G'', _, x1, x2, enumD_get xs 0 i _ (List.getElem?_eq_getElem hi1), x3⟩
      · exact q1.elim
    · exact q1.elim⟩

/-! ## targets -/
abbrev TgF := D → Rho → Option Rho
def tgt (K : Frg) (M : Nat → Bool) (t : TgF) : TG := fun v σ H Q => ∃ G ρ fp d ρ', Cfg K H G σ ρ fp ∧ Dr K G v d ∧ t d ρ = some ρ' ∧ ∀ σ' fp', Cfg K H G σ' ρ' fp' → Step fp H G fp' H G → Keep M σ σ' → Q σ' H
abbrev TgsF := List D → Rho → Option Rho
def tgts (K : Frg) (M : Nat → Bool) (t : TgsF) : TGs := fun vs σ H Q => ∃ G ρ fp ds ρ', Cfg K H G σ ρ fp ∧ Drs K G vs ds ∧ t ds ρ = some ρ' ∧ ∀ σ' fp', Cfg K H G σ' ρ' fp' → Step fp H G fp' H G → Keep M σ σ' → Q σ' H
def SG (X : Cx) (M : Nat → Bool) (tg : Expr) (t : TgF) : Prop := PG X tg (tgt X.K M t)
def SGs (X : Cx) (M : Nat → Bool) (tg : List Expr) (t : TgsF) : Prop := PGs X tg (tgts X.K M t)
theorem pg_sub {X : Cx} {tg : Expr} {t t' : TG} (h : PG X tg t) (w : ∀ v σ H Q, t' v σ H Q → t v σ H Q) : PG X tg t' := ⟨fun pins s σ H v u Q I r q => h.run pins s σ H v u Q I r (w v σ H Q q)⟩
theorem pgs_sub {X : Cx} {tg : List Expr} {t t' : TGs} (h : PGs X tg t) (w : ∀ v σ H Q, t' v σ H Q → t v σ H Q) : PGs X tg t' := ⟨fun pins s σ H v u Q I r q => h.run pins s σ H v u Q I r (w v σ H Q q)⟩
def gN (i : Nat) : TgF := fun d ρ => if i < ρ.length then some (ρ.set i (some (.d d))) else none
theorem sg_name {i : Nat} {x : Str} (hM : M i = false := by rfl) (hN : X.N.Nodup) (hi : X.N[i]? = some x := by rfl) (hx : Loc X.env.scope x := by first | exact Or.inl rfl | exact Or.inr rfl) (hf : X.fn x = true ∨ X.env.scope.names.lookup x = some .local := by first | exact .inl rfl | exact .inr rfl) : SG X M (.Name x pos) (gN i) :=
  pg_sub (pg_name hN hi hx hf) fun v σ H Q ⟨G, ρ, fp, d, ρ', c, dr, e, q⟩ => by
    unfold gN at e
    split at e
    · rename_i h
      cases e
      exact q _ _ (c.putD dr h) .less (.set hM)
    · cases e
def gsNil : TgsF := fun ds ρ => match ds with
  | [] => some ρ
  | _ => none
def gsCons (t : TgF) (u : TgsF) : TgsF := fun ds ρ => match ds with
  | d :: r => (t d ρ).bind (u r)
  | [] => none
theorem sgs_nil : SGs X M [] gsNil := pgs_sub pgs_nil fun vs σ H Q ⟨G, ρ, fp, ds, ρ', c, dr, e, q⟩ => by
  cases ds with
  | nil =>
    cases e
    unfold Drs at dr
    exact ⟨dr, q σ fp c .refl .refl⟩
  | cons _ _ => cases e
theorem sgs_cons {t : TgF} {u : TgsF} (h1 : SG X M e t) (h2 : SGs X M es u) (hs : (assignEach (e :: es) X.env).map (·.2) = assign e X.env :: (assignEach es X.env).map (·.2) := by rfl) : SGs X M (e :: es) (gsCons t u) :=
  pgs_sub (pgs_cons h1 h2 hs) fun vs σ H Q ⟨G, ρ, fp, ds, ρ', c, dr, e, q⟩ => by
    cases ds with
    | nil => cases e
    | cons d r =>
      unfold Drs at dr
      obtain ⟨v, vr, ev, d1, d2⟩ := dr
      cases z : t d ρ with
      | none =>
        have e2 : (t d ρ).bind (u r) = some ρ' := e
        rw [z] at e2; cases e2
      | some ρ1 =>
        have e2 : (t d ρ).bind (u r) = some ρ' := e
        rw [z] at e2
        have e : u r ρ1 = some ρ' := e2
        exact ⟨v, vr, ev, G, ρ, fp, d, ρ1, c, d1, z, fun σ1 fp1 c1 s1 k1 => ⟨G, ρ1, fp1, r, ρ', c1, d2, e, fun σ2 fp2 c2 s2 k2 => q σ2 fp2 c2 (s1.trans s2 c1.sg) (k1.trans k2)⟩⟩
def gT (n : Nat) (u : TgsF) : TgF := fun d ρ => match d with
  | .tuple ds => if ds.length = n then u ds ρ else none
  | _ => none
theorem sg_tup {k n : Nat} {u : TgsF} (hc : X.calm = true) (h : SGs X M es u) (hn : (assignEach es X.env).length = n := by rfl) (hst : (assignEach es X.env).findIdx? (·.1) = none := by rfl) : SG X M (.Tuple es k pos) (gT n u) :=
  pg_sub (pg_tup hc h hn hst) fun v σ H Q ⟨G, ρ, fp, d, ρ', c, dr, e, q⟩ => by
    cases d with
    | tuple ds =>
      unfold gT at e
      simp only [] at e
      split at e
      · rename_i hl
        obtain ⟨a, vs, ev, h1, h2⟩ := dr.tup_inv
        exact ⟨a, vs, ev, same_seqT c.sg h1, by rw [h2.length]; exact hl, G, ρ, fp, ds, ρ', c, h2, e, q⟩
      · cases e
    | _ => cases e
end
end FW

set_option Elab.async false
set_option linter.all false
set_option maxRecDepth 100000
set_option maxHeartbeats 1000001
namespace FW
open PySem PySem.Spec L2
/-! ## for, while -/
def forL (t : TgF) (body : SSem) : List D → SSem
  | [] => fun ρ => .ok .nx ρ
  | x :: xs => fun ρ => match t x ρ with
    | none => .bad
    | some ρ1 => (body ρ1).bind fun fl r => match fl with
      | .nx => forL t body xs r
      | .ct => forL t body xs r
      | .bk => .ok .nx r
      | .ret w => .ok (.ret w) r
def sFor (it : ISem) (t : TgF) (body : SSem) : SSem := fun ρ => (it ρ).bind fun xs r => forL t body xs r
theorem Ext.of0 {P : Addr → Prop} {H G H' G' : Hp} (x : Ext (fun _ => False) H G H' G') : Ext P H G H' G' := ⟨x.sg, fun a o h g _ => x.oth a o h g id, x.dom⟩
theorem Cfg.ext0 {K : Frg} {H G H' G' : Hp} {σ : St} {ρ : Rho} {fp : Fp} (c : Cfg K H G σ ρ fp) (x : Ext (fun _ => False) H G H' G') (sg : Same G' H') : Cfg K H' G' σ ρ fp ∧ Step fp H G fp H' G' :=
  ⟨c.ext x sg fun _ _ => id, ⟨x.of0, fun _ h => .inl h⟩⟩
theorem drop_eq {α : Type} {xs : List α} {i : Nat} {x : α} (h : xs[i]? = some x) : xs.drop i = x :: xs.drop (i + 1) := by
  obtain ⟨hi, e⟩ := List.getElem?_eq_some_iff.mp h; rw [List.drop_eq_getElem_cons hi, e]
theorem seqIS {α : Type} {K : Frg} {mg : Mg} {E : WX} {M : Nat → Bool} {H G : Hp} {fp : Fp} {σ : St} {pok : α → Rho → Prop} {o : Out (List D)} {k : List D → Rho → Out α} {R : It → Hp → Prop} (h : ResO pok (PexS K mg E M H G fp σ) (o.bind k))
    (f : ∀ xs ρ' J H' G' fp', Cfg K H' G' σ ρ' fp' → Step fp H G fp' H' G' → Yld K J xs H' G' → ResO pok (PexS K mg E M H G fp σ) (k xs ρ') → R J H') : ResI K mg E H G fp σ R o :=
  ResO.imp (fun d ρ' q J H' G' fp' c s y => f d ρ' J H' G' fp' c s y q) (fun _ _ q => PexS.X q) (ResO.bind h)
theorem seqI {α : Type} {K : Frg} {mg : Mg} {E : WX} {H G : Hp} {fp : Fp} {σ : St} {pok : α → Rho → Prop} {o : Out (List D)} {k : List D → Rho → Out α} {R : It → Hp → Prop} (h : ResO pok (ResX K mg E H G fp σ) (o.bind k))
    (f : ∀ xs ρ' J H' G' fp', Cfg K H' G' σ ρ' fp' → Step fp H G fp' H' G' → Yld K J xs H' G' → ResO pok (ResX K mg E H G fp σ) (k xs ρ') → R J H') : ResI K mg E H G fp σ R o :=
  ResO.imp (fun d ρ' q J H' G' fp' c s y => f d ρ' J H' G' fp' c s y q) (fun _ _ q => q) (ResO.bind h)
section
variable {X : Cx} {E : WX} {M : Nat → Bool} {c e tg iter : Expr} {es : List Expr} {f : ES} {g : Rho → Out Bool} {body : List Stmt} {it : ISem} {t : TgF} {p : SSem} {pos : Pos}
theorem s1_for (hp : PassesOwn (model X.prog X.w) X.A X.env X.xe) (hc : X.calm = true) (hi : SI X E tg iter it) (hg : SG X M tg t) (hb : SS X E M body p) (hs : ∀ x, foldedSetIterable iter X.env x = pure x := by intro _; rfl) : S1 X E M (.For tg iter body [] pos) (sFor it t p) :=
  ps_sub (ps_for hp hc hi hg hb hs) fun D σ H ⟨G, ρ, fp, c, q⟩ => ⟨G, ρ, fp, c, seqIS q fun xs r J H1 G1 fp1 c1 s1 y q1 => by
    refine ⟨fun i m σ' H' => m = xs.length - i ∧ i ≤ xs.length ∧ ∃ G' ρ' fp', Cfg X.K H' G' σ' ρ' fp' ∧ Same G1 G' ∧ ResS X.K X.mg E M D H' G' fp' σ' (forL t p (xs.drop i) ρ'), ⟨_, rfl, Nat.zero_le _, G1, r, fp1, c1, Same.refl _, ResS.rebase s1 .refl c1.sg q1⟩, fun i m σ' H' hW => ?_⟩
    obtain ⟨em, hi, G', ρ', fp', c', sm, q'⟩ := hW
    by_cases hlt : i < xs.length
    · have ex : xs[i]? = some xs[i] := List.getElem?_eq_getElem hlt
      rw [drop_eq ex] at q'
      refine .inr ⟨y.go i H' G' sm c'.sg hlt, fun σ2 H2 => ∃ G2 ρ2 fp2, Cfg X.K H2 G2 σ2 ρ2 fp2 ∧ Same G1 G2 ∧ ResS X.K X.mg E M D H2 G2 fp2 σ2 (forL t p (xs.drop (i + 1)) ρ2), fun σ2 H2 h2 => ⟨_, by omega, rfl, hlt, h2⟩, fun x H2 hy => ?_⟩
      obtain ⟨G2, d, xt, sg2, ed, dr⟩ := y.yld i H' G' x H2 sm c'.sg hy hlt
      rw [ex] at ed; cases ed
      obtain ⟨c2, st2⟩ := c'.ext0 xt sg2
      have q2 := ResS.rebase st2 .refl sg2 q'
      have q3 : ResS X.K X.mg E M D H2 G2 fp' σ' (match t xs[i] ρ' with | none => .bad | some ρ1 => (p ρ1).bind fun fl r => match fl with | .nx => forL t p (xs.drop (i + 1)) r | .ct => forL t p (xs.drop (i + 1)) r | .bk => .ok .nx r | .ret w => .ok (.ret w) r) := q2
      cases z : t xs[i] ρ' with
      | none => rw [z] at q3; exact q3.elim
      | some ρ1 =>
        rw [z] at q3
        refine ⟨G2, ρ', fp', xs[i], ρ1, c2, dr, z, fun σ3 fp3 c3 st3 k3 => ⟨G2, ρ1, fp3, c3, ?_⟩⟩
        have q4 := ResO.bind (ResS.rebase st3 k3 c3.sg q3)
        refine ResO.imp (fun fl r4 h4 => ?_) (fun _ _ h4 => h4) q4
        cases fl with
        | nx => exact fun σ5 H5 G5 fp5 c5 s5 k5 => ⟨G5, r4, fp5, c5, (sm.trans xt.sg).trans s5.x.sg, ResS.rebase s5 k5 c5.sg h4⟩
        | ct => exact fun σ5 H5 G5 fp5 c5 s5 k5 => ⟨G5, r4, fp5, c5, (sm.trans xt.sg).trans s5.x.sg, ResS.rebase s5 k5 c5.sg h4⟩
        | bk => exact h4
        | ret w => exact h4
    · have ei : i = xs.length := by omega
      subst ei
      rw [List.drop_length] at q'
      exact .inl ⟨y.stop _ H' G' sm c'.sg (Nat.le_refl _), q' σ' H' G' fp' c' .refl .refl⟩⟩
def whileL (g : Rho → Out Bool) (body : SSem) : Nat → SSem
  | 0 => fun _ => .bad
  | n + 1 => fun ρ => (g ρ).bind fun b r => if b = true then (body r).bind fun fl r => match fl with
      | .nx => whileL g body n r
      | .ct => whileL g body n r
      | .bk => .ok .nx r
      | .ret w => .ok (.ret w) r
    else .ok .nx r
open Classical in
noncomputable def sWhile (g : Rho → Out Bool) (body : SSem) : SSem := fun ρ => if h : ∃ n, whileL g body n ρ ≠ .bad then whileL g body h.choose ρ else .bad
theorem s1_while (hp : PassesOwn (model X.prog X.w) X.A X.env X.xe) (hc : ST X E c g) (hb : SS X E M body p) : S1 X E M (.While c body [] pos) (sWhile g p) :=
  ps_sub (ps_while hp hc hb) fun D σ H ⟨G, ρ, fp, cf, q⟩ => by
    unfold sWhile at q
    split at q
    · rename_i hn
      refine ⟨fun m σ' H' => ∃ G' ρ' fp', Cfg X.K H' G' σ' ρ' fp' ∧ ResS X.K X.mg E M D H' G' fp' σ' (whileL g p m ρ'), ⟨_, G, ρ, fp, cf, q⟩, fun m σ' H' hW => ?_⟩
      obtain ⟨G', ρ', fp', c', q'⟩ := hW
      cases m with
      | zero => exact q'.elim
      | succ m =>
        refine ⟨G', ρ', fp', c', seqTS q' fun b r H1 G1 fp1 c1 s1 q1 => ?_⟩
        cases b with
        | false =>
          rw [if_neg (Bool.false_ne_true)] at q1 ⊢
          exact q1 σ' H1 G1 fp1 c1 s1 .refl
        | true =>
          rw [if_pos rfl] at q1 ⊢
          refine ⟨fun σ2 H2 => ∃ G2 ρ2 fp2, Cfg X.K H2 G2 σ2 ρ2 fp2 ∧ ResS X.K X.mg E M D H2 G2 fp2 σ2 (whileL g p m ρ2), fun σ2 H2 h2 => ⟨m, Nat.lt_succ_self _, h2⟩, G1, r, fp1, c1, ?_⟩
          have q4 := ResO.bind (ResS.rebase s1 .refl c1.sg q1)
          refine ResO.imp (fun fl r4 h4 => ?_) (fun _ _ h4 => h4) q4
          cases fl with
          | nx => exact fun σ5 H5 G5 fp5 c5 s5 k5 => ⟨G5, r4, fp5, c5, ResS.rebase s5 k5 c5.sg h4⟩
          | ct => exact fun σ5 H5 G5 fp5 c5 s5 k5 => ⟨G5, r4, fp5, c5, ResS.rebase s5 k5 c5.sg h4⟩
          | bk => exact h4
          | ret w => exact h4
    · exact q.elim
theorem whileL_mono {g : Rho → Out Bool} {p : SSem} : ∀ (n k : Nat) (ρ : Rho), whileL g p n ρ ≠ .bad → whileL g p (n + k) ρ = whileL g p n ρ
  | 0, _, _, h => absurd rfl h
  | n + 1, k, ρ, h => by
    rw [show n + 1 + k = (n + k) + 1 by omega]
    unfold whileL at h ⊢
    cases z : g ρ with
    | bad => rfl
    | exc x r => rfl
    | ok b r =>
      rw [z] at h
      simp only [Out.bind_ok] at h ⊢
      cases b with
      | false => rfl
      | true =>
        simp only [if_true] at h ⊢
        cases z2 : p r with
        | bad => rfl
        | exc x r => rfl
        | ok fl r2 =>
          rw [z2] at h
          simp only [Out.bind_ok] at h ⊢
          cases fl with
          | nx => exact whileL_mono n k r2 h
          | ct => exact whileL_mono n k r2 h
          | bk => rfl
          | ret w => rfl
/-- how a while comes out -/
theorem sWhile_eq {g : Rho → Out Bool} {p : SSem} {ρ : Rho} (n : Nat) {o : Out Fl} (h : whileL g p n ρ = o) (ho : o ≠ .bad) : sWhile g p ρ = o := by
  have hn : ∃ n, whileL g p n ρ ≠ .bad := ⟨n, by rw [h]; exact ho⟩
  unfold sWhile
  rw [dif_pos hn]
  have e1 := whileL_mono n hn.choose ρ (by rw [h]; exact ho)
  have e2 := whileL_mono hn.choose n ρ hn.choose_spec
  rw [Nat.add_comm] at e1
  rw [← e2, e1, h]
end

/-! ## a block's own slots -/
def wipeR (ρ : Rho) : List Nat → Rho
  | [] => ρ
  | v :: vs => (wipeR ρ vs).set v none
def wipeF (fp : Fp) : List Nat → Fp
  | [] => fp
  | v :: vs => upF (wipeF fp vs) v []
def restR (ρ0 : Rho) : List Nat → Rho → Rho
  | [], r => r
  | i :: is, r => (restR ρ0 is r).set i (match ρ0[i]? with
    | some (some (.d x)) => some (.d x)
    | _ => none)
theorem wipeR_len (ρ : Rho) : ∀ vs, (wipeR ρ vs).length = ρ.length
  | [] => rfl
  | v :: vs => by unfold wipeR; rw [List.length_set, wipeR_len ρ vs]
theorem restR_len (ρ0 r : Rho) : ∀ vs, (restR ρ0 vs r).length = r.length
  | [] => rfl
  | v :: vs => by unfold restR; rw [List.length_set, restR_len ρ0 r vs]
theorem set_out {α : Type} {l : List α} {i : Nat} {x : α} (h : ¬ i < l.length) : l.set i x = l := List.set_eq_of_length_le (by omega)
section
variable {K : Frg} {H G : Hp} {σ : St} {ρ : Rho} {fp : Fp}
theorem Cfg.wipe1 (c : Cfg K H G σ ρ fp) (i : Nat) : Cfg K H G (σ.set i none) (ρ.set i none) (upF fp i []) := by
  by_cases hi : i < ρ.length
  · exact c.put (fun w e => nomatch e) (fun _ => rfl) List.nodup_nil (fun _ z => nomatch z) hi
  · rw [set_out hi, set_out (by rw [c.len]; exact hi)]
    have e : fp i = [] := c.nil i fun w z => by rw [List.getElem?_eq_none (by omega)] at z; cases z
    have e2 : upF fp i [] = fp := by
      funext j
      by_cases h : j = i
      · rw [h, upF_same, e]
      · rw [upF_ne h]
    rw [e2]; exact c
theorem Cfg.wipe (c : Cfg K H G σ ρ fp) : ∀ vs, Cfg K H G (L2.wipe σ vs) (wipeR ρ vs) (wipeF fp vs)
  | [] => c
  | v :: vs => (Cfg.wipe c vs).wipe1 v
theorem wipeF_own : ∀ (vs : List Nat) {a : Addr}, Own (wipeF fp vs) a → Own fp a
  | [], _, h => h
  | v :: vs, a, h => by
    have h' : Own (upF (wipeF fp vs) v []) a := h
    rcases h'.up with z | ⟨j, _, z⟩
    · cases z
    · exact wipeF_own vs ⟨j, z⟩
/-- the slots put back -/
def restS (σ : St) : List Nat → St → St
  | [], s => s
  | i :: is, s => (restS σ is s).set i (σ.getD i none)
theorem restS_eq {σ σ1 : St} (hl : σ1.length = σ.length) : ∀ vs, (∀ i, i ∉ vs → σ1[i]? = σ[i]?) → restS σ vs σ1 = σ := by
  intro vs h
  have key : ∀ ws, (restS σ ws σ1).length = σ.length ∧ ∀ i, i ∈ ws ∨ σ1[i]? = σ[i]? → (restS σ ws σ1)[i]? = σ[i]? := by
    intro ws
    induction ws with
    | nil => exact ⟨hl, fun i hi => hi.elim (fun z => nomatch z) id⟩
    | cons w ws ih =>
      unfold restS
      refine ⟨by rw [List.length_set]; exact ih.1, fun i hi => ?_⟩
      by_cases e : w = i
      · subst e
        by_cases hw : w < σ.length
        · rw [List.getElem?_set_self (by rw [ih.1]; exact hw), List.getElem?_eq_getElem hw]
          simp [List.getD, hw]
        · rw [List.getElem?_eq_none (by rw [List.length_set, ih.1]; omega), List.getElem?_eq_none (by omega)]
      · rw [List.getElem?_set_ne e]
        refine ih.2 i ?_
        rcases hi with z | z
        · rcases List.mem_cons.mp z with y | y
          · exact absurd y.symm e
          · exact .inl y
        · exact .inr z
  apply List.ext_getElem?
  intro i
  by_cases hi : i ∈ vs
  · exact (key vs).2 i (.inl hi)
  · exact (key vs).2 i (.inr (h i hi))
theorem Cfg.rest {σ0 : St} {ρ0 : Rho} (c : Cfg K H G σ ρ fp) (h0 : ∀ (i : Nat) (x : FW.D), ρ0[i]? = some (some (Wv.d x)) → ∃ v, σ0[i]? = some (some v) ∧ Dr K G v x) : ∀ vs, Cfg K H G (restS σ0 vs σ) (restR ρ0 vs ρ) (wipeF fp vs)
  | [] => c
  | i :: is => by
    have ih := Cfg.rest c h0 is
    show Cfg K H G ((restS σ0 is σ).set i _) ((restR ρ0 is ρ).set i _) (upF (wipeF fp is) i [])
    by_cases hi : i < (restR ρ0 is ρ).length
    · refine ih.put (fun w e => ?_) (fun _ => rfl) List.nodup_nil (fun _ z => nomatch z) hi
      split at e
      · rename_i x ex
        obtain ⟨v, hv, dr⟩ := h0 i x ex
        refine ⟨v, by rw [List.getD, hv]; rfl, ?_⟩
        cases e
        unfold Rw
        exact ⟨rfl, dr⟩
      · cases e
    · have e := ih.wipe1 i
      rw [set_out hi, set_out (by rw [ih.len]; exact hi)] at e
      rw [set_out hi, set_out (by rw [ih.len]; exact hi)]
      exact e
end
end FW

set_option Elab.async false
set_option linter.all false
set_option maxRecDepth 100000
set_option maxHeartbeats 1000001
namespace FW
open PySem PySem.Spec L2
/-! ## list comprehensions -/
/-- within a comprehension nothing is raised -/
def nox {α : Type} : Out α → Out α
  | .exc _ _ => .bad
  | o => o
@[simp] theorem nox_ok {α : Type} (a : α) (r : Rho) : nox (.ok a r) = .ok a r := rfl
@[simp] theorem nox_bad {α : Type} : nox (.bad : Out α) = .bad := rfl
def compL (vs : List Nat) (t : TgF) (tt : Rho → Out Bool) (el : ES) : List D → Rho → Out (List Wv)
  | [] => fun ρ => .ok [] ρ
  | x :: xs => fun ρ => match t x (wipeR ρ vs) with
    | none => .bad
    | some ρ1 => (nox (tt ρ1)).bind fun b r => if b = true then (nox (el r)).bind fun w r => (compL vs t tt el xs r).bind fun ws r => .ok (w :: ws) r else compL vs t tt el xs r
def sComp (vs : List Nat) (it : ISem) (t : TgF) (tt : Rho → Out Bool) (el : ES) : ES := fun ρ => (it ρ).bind fun xs r => if xs.length ≤ 1000000 then (compL vs t tt el xs r).bind fun ws r' => .ok (.o ws) (restR r vs r') else .bad
def EF : WX := fun _ _ _ _ => False
def notIn (vs : List Nat) : Nat → Bool := fun i => !vs.contains i
def tYesB : Rho → Out Bool := fun ρ => .ok true ρ
def STs (X : Cx) (E : WX) (ifs : List Expr) (g : Rho → Out Bool) : Prop := PTs X ifs (tT X.K X.mg E g)
theorem pts_sub {X : Cx} {e : List Expr} {t t' : TT} (h : PTs X e t) (w : ∀ σ H Q, t' σ H Q → t σ H Q) : PTs X e t' := ⟨fun pins s σ H Q I q => h.run pins s σ H Q I (w σ H Q q)⟩
theorem st_nil {X : Cx} {E : WX} : STs X E [] tYesB := pts_sub pts_nil fun σ H Q ⟨G, ρ, fp, c, q⟩ => q H G fp c .refl
theorem st_one {X : Cx} {E : WX} {c : Expr} {g : Rho → Out Bool} (h : ST X E c g) : STs X E [c] g := pts_one h
theorem wipe_len (σ : St) : ∀ vs, (wipe σ vs).length = σ.length := wipe_length σ
/-- what a target changes is wiped -/
theorem wipe_keep {σ σ2 : St} {vs : List Nat} (k : Keep (notIn vs) (wipe σ vs) σ2) : wipe σ2 vs = wipe σ vs := by
  have hl : σ2.length = σ.length := k.1.trans (wipe_length σ vs)
  have hw : ∀ (τ : St) (ws : List Nat) (i : Nat), i ∈ ws → i < τ.length → (wipe τ ws)[i]? = some none := by
    intro τ ws
    induction ws with
    | nil => intro i h; cases h
    | cons w ws ih =>
      intro i h hi
      unfold wipe
      by_cases e : w = i
      · subst e
        rw [List.getElem?_set_self (by rw [wipe_length]; exact hi)]
      · rw [List.getElem?_set_ne e]
        rcases List.mem_cons.mp h with (z | z)
        · exact absurd z.symm e
        · exact ih i z hi
  apply List.ext_getElem?
  intro i
  by_cases hi : i ∈ vs
  · by_cases hlt : i < σ.length
    · rw [hw σ2 vs i hi (by rw [hl]; exact hlt), hw σ vs i hi hlt]
    · rw [List.getElem?_eq_none (by rw [wipe_length, hl]; omega), List.getElem?_eq_none (by rw [wipe_length]; omega)]
  · rw [wipe_out hi, k.2 i (by unfold notIn; simp [hi])]
theorem wipe_wipe {σ σ2 : St} {vs : List Nat} (hl : σ2.length = σ.length) (h : wipe σ2 vs = wipe σ vs) : ∀ i, i ∉ vs → σ2[i]? = σ[i]? := fun i hi => by
  rw [← wipe_out (σ := σ2) hi, h, wipe_out hi]
theorem Keep.wipe {M : Nat → Bool} {σ : St} : Keep M σ σ := .refl
section
variable {K : Frg} {mg : Mg} {E : WX} {vs : List Nat} {t : TgF} {tt : Rho → Out Bool} {el : ES}
/-- the state between two turns of a comprehension: the new list stands at L -/
structure CSt (K : Frg) (G0 : Hp) (L : Addr) (vs : List Nat) (σ : St) (H0 : Hp) (fp0 : Fp) (acc : List Wv) (ρ : Rho) (H G : Hp) (σi : St) (fp : Fp) (va : List V) (fa : List Addr) : Prop where
  c : Cfg K H G σi ρ fp
  w : wipe σi vs = wipe σ vs
  len : σi.length = σ.length
  st : Step fp0 H0 G0 fp H G
  hL : H L = some (.lst va)
  gL : G L = none
  nL : H0 L = none
  r : Rws K H G va acc fa
  nd : (L :: fa).Nodup
  sep : ∀ a ∈ L :: fa, ¬ Own fp a
  nw : ∀ a ∈ fa, Own fp0 a ∨ H0 a = none
/-- a step of the machine between two states -/
theorem CSt.step {G0 H0 H G H1 G1 : Hp} {L : Addr} {σ σi σ1 : St} {fp0 fp fp1 : Fp} {acc : List Wv} {ρ ρ1 : Rho} {va : List V} {fa : List Addr} (s : CSt K G0 L vs σ H0 fp0 acc ρ H G σi fp va fa) (c1 : Cfg K H1 G1 σ1 ρ1 fp1) (hw : wipe σ1 vs = wipe σ vs) (hl : σ1.length = σ.length)
    (st : Step fp H G fp1 H1 G1) : CSt K G0 L vs σ H0 fp0 acc ρ1 H1 G1 σ1 fp1 va fa := by
  have nL := s.sep L List.mem_cons_self
  obtain ⟨k1, k2⟩ := s.r.keep st fun a h => s.sep a (List.mem_cons_of_mem _ h)
  obtain ⟨h1, g1⟩ := st.x.oth L _ s.hL s.gL nL
  refine ⟨c1, hw, hl, s.st.trans st s.c.sg, h1, g1, s.nL, k1, s.nd, fun a h => ?_, s.nw⟩
  rcases List.mem_cons.mp h with (z | z)
  · subst z
    intro q
    rcases st.nw a q with y | y
    · exact nL y
    · rw [s.hL] at y; cases y
  · exact k2 a z
end
section
variable {X : Cx} {E : WX} {elt tg iter : Expr} {ifs : List Expr} {scope : Scope} {own : List (Str × Nat)} {pos : Pos} {it : ISem} {t : TgF} {tt : Rho → Out Bool} {el : ES}
theorem Step.wipe {H G : Hp} {fp : Fp} (vs : List Nat) : Step fp H G (wipeF fp vs) H G := ⟨.refl, fun a h => .inl (wipeF_own vs h)⟩
/-- the new list one longer -/
theorem CSt.more {K : Frg} {vs : List Nat} {G0 H0 H G H1 G1 : Hp} {L : Addr} {σ σi : St} {fp0 fp fp1 : Fp} {acc : List Wv} {ρ ρ1 : Rho} {va : List V} {fa fv : List Addr} {v : V} {w : Wv} (s : CSt K G0 L vs σ H0 fp0 acc ρ H G σi fp va fa) (p : PV K H G fp σi ρ1 v w H1 G1 fp1 fv) :
    H1 L = some (.lst va) ∧ CSt K G0 L vs σ H0 fp0 (acc ++ [w]) ρ1 (upd H1 L (.lst (va ++ [v]))) G1 σi fp1 (va ++ [v]) (fa ++ fv) := by
  have s1 := s.step p.c s.w s.len p.st
  have nLv : L ∉ fv := fun h => (p.nwv L h).elim (s.sep L List.mem_cons_self) fun z => by rw [s.hL] at z; cases z
  have nLa : L ∉ fa := (List.nodup_cons.mp s1.nd).1
  have mv : ∀ a, a ≠ L → upd H1 L (.lst (va ++ [v])) a = H1 a := fun a h => upd_ne h
  have neG : ∀ a u, G1 a = some u → a ≠ L := fun a u h e => by rw [e, s1.gL] at h; cases h
  refine ⟨s1.hL, ?_, s1.w, s1.len, ⟨⟨s1.st.x.sg, fun a o h g np => ?_, fun a h => ?_⟩, s1.st.nw⟩, upd_same, s1.gL, s1.nL, ?_, ?_, fun a h => ?_, fun a h => ?_⟩
  · refine s1.c.grow (fun a u h => ?_) (Same.refl _) fun a h => ?_
    · rw [mv a (neG a u h)]; exact s1.c.sg a u h
    · have e : a ≠ L := fun e => s1.sep L List.mem_cons_self (e ▸ h)
      obtain ⟨_, _, g⟩ := s1.c.own h
      exact ⟨mv a e, g⟩
  · have e : a ≠ L := fun e => by rw [e, s.nL] at h; cases h
    rw [mv a e]
    exact s1.st.x.oth a o h g np
  · by_cases e : a = L
    · rw [e]; exact s.nL
    · rw [mv a e] at h; exact s1.st.x.dom a h
  · refine Rws.append (Rws.move (Same.refl _) _ _ _ s1.r fun a ha => ?_) ?_
    · obtain ⟨_, _, g⟩ := Rws.there _ _ _ s1.r a ha
      exact ⟨mv a fun e => nLa (e ▸ ha), g⟩
    · unfold Rws
      refine ⟨v, [], fv, [], rfl, by simp, Rw.move (Same.refl _) _ _ _ p.r fun a ha => ?_, by unfold Rws; exact ⟨rfl, rfl⟩⟩
      obtain ⟨_, _, g⟩ := Rw.there _ _ _ p.r a ha
      exact ⟨mv a fun e => nLv (e ▸ ha), g⟩
  · have na := (List.nodup_cons.mp s1.nd).2
    refine List.nodup_cons.mpr ⟨fun h => (List.mem_append.mp h).elim nLa nLv, List.nodup_append.mpr ⟨na, p.nd, fun a ha b hb e => ?_⟩⟩
    subst e
    rcases p.nwv a hb with z | z
    · exact s.sep a (List.mem_cons_of_mem _ ha) z
    · obtain ⟨_, h1, _⟩ := Rws.there _ _ _ s.r a ha
      rw [h1] at z; cases z
  · rcases List.mem_cons.mp h with z | z
    · rw [z]; exact s1.sep L List.mem_cons_self
    · rcases List.mem_append.mp z with y | y
      · exact s1.sep a (List.mem_cons_of_mem _ y)
      · exact p.sep a y
  · rcases List.mem_append.mp h with y | y
    · exact s1.nw a y
    · rcases p.nwv a y with z | z
      · exact s.st.nw a z
      · exact .inr (s.st.x.dom a z)
/-- the end -/
theorem CSt.fin {K : Frg} {vs : List Nat} {G0 H0 H G : Hp} {L : Addr} {σ σi : St} {fp0 fp : Fp} {acc : List Wv} {ρ r0 : Rho} {va : List V} {fa : List Addr} (s : CSt K G0 L vs σ H0 fp0 acc ρ H G σi fp va fa) (c0 : Cfg K H0 G0 σ r0 fp0) :
    PV K H0 G0 fp0 σ (restR r0 vs ρ) (.ref L) (.o acc) H G (wipeF fp vs) (L :: fa) := by
  have e : restS σ vs σi = σ := restS_eq s.len vs (wipe_wipe s.len s.w)
  have c1 := Cfg.rest (σ0 := σ) (ρ0 := r0) s.c (fun i x h => by
    obtain ⟨v, hv, hr⟩ := c0.get i _ h
    unfold Rw at hr
    exact ⟨v, hv, Dr.mono s.st.x.sg _ _ hr.2⟩) vs
  rw [e] at c1
  refine ⟨c1, s.st.trans (Step.wipe vs) s.c.sg, ?_, s.nd, fun a h q => s.sep a h (wipeF_own vs q), fun a h => ?_⟩
  · unfold Rw
    exact ⟨L, va, fa, rfl, s.hL, s.gL, rfl, s.r⟩
  · rcases List.mem_cons.mp h with z | z
    · rw [z]; exact .inr s.nL
    · exact s.nw a z
theorem line7 {n : Nat} (h : n ≤ 1000000) : n ≤ sizeLine := Nat.le_trans h line6
theorem comp_rd {K : Frg} {mg : Mg} {vs : List Nat} {σ : St} {H : Hp} {Q : VK} (h : tS K mg E (sComp vs it t tt el) σ H Q) : tLc (tIt K mg E it) (tgt K (notIn vs) t) (tT K mg EF tt) (tS K mg EF el) vs σ H Q := by
  obtain ⟨G, ρ, fp, c, q⟩ := h
  refine ⟨G, ρ, fp, c, seqI q fun xs r J H1 G1 fp1 c1 s1 y q1 => ?_⟩
  split at q1
  · rename_i hlen
    have q2 := ResE.rebase s1 c1.sg q1
    intro L hL
    have gL : G1 L = none := by
      cases e : G1 L with
      | none => rfl
      | some o => rw [c1.sg L o e] at hL; cases hL
    refine ⟨fun i m H' => m = xs.length - i ∧ i ≤ xs.length ∧ ∃ acc ρi G' σi fpi va fa, CSt K G1 L vs σ H1 fp1 acc ρi H' G' σi fpi va fa ∧ va.length ≤ i ∧
      ResE K mg E H1 G1 fp1 σ Q ((compL vs t tt el (xs.drop i) ρi).bind fun ws r' => .ok (.o (acc ++ ws)) (restR r vs r')),
      ⟨_, rfl, Nat.zero_le _, [], r, G1, σ, fp1, [], [], ⟨c1.new hL, rfl, rfl, .new hL, upd_same, gL, hL, by unfold Rws; exact ⟨rfl, rfl⟩, by simp, fun a h q => ?_, fun a h => nomatch h⟩, Nat.le_refl _, q2⟩, fun i m H' hW => ?_⟩
    · have e : a = L := List.mem_singleton.mp h
      obtain ⟨_, z, _⟩ := c1.own q
      rw [e, hL] at z; cases z
    · obtain ⟨em, hi, acc, ρi, G', σi, fpi, va, fa, s, hva, q3⟩ := hW
      by_cases hlt : i < xs.length
      · have ex : xs[i]? = some xs[i] := List.getElem?_eq_getElem hlt
        refine .inr ⟨y.go i H' G' s.st.x.sg s.c.sg hlt, fun H2 => ∃ acc ρi G' σi fpi va fa, CSt K G1 L vs σ H1 fp1 acc ρi H2 G' σi fpi va fa ∧ va.length ≤ i + 1 ∧
          ResE K mg E H1 G1 fp1 σ Q ((compL vs t tt el (xs.drop (i + 1)) ρi).bind fun ws r' => .ok (.o (acc ++ ws)) (restR r vs r')), fun H2 h2 => ⟨_, by omega, rfl, hlt, h2⟩, fun x H2 hy => ?_⟩
        obtain ⟨G2, d, xt, sg2, ed, dr⟩ := y.yld i H' G' x H2 s.st.x.sg s.c.sg hy hlt
        rw [ex] at ed; cases ed
        obtain ⟨c2, st2⟩ := s.c.ext0 xt sg2
        have s2 := s.step c2 s.w s.len st2
        rw [drop_eq ex] at q3
        have q4 : ResE K mg E H1 G1 fp1 σ Q ((match t xs[i] (wipeR ρi vs) with | none => (.bad : Out (List Wv)) | some ρ1 => (nox (tt ρ1)).bind fun b r => if b = true then (nox (el r)).bind fun w r => (compL vs t tt el (xs.drop (i + 1)) r).bind fun ws r => .ok (w :: ws) r else compL vs t tt el (xs.drop (i + 1)) r).bind fun ws r' => .ok (.o (acc ++ ws)) (restR r vs r')) := q3
        have c3 := c2.wipe vs
        rw [s.w] at c3
        cases z : t xs[i] (wipeR ρi vs) with
        | none => rw [z] at q4; exact q4.elim
        | some ρ1 =>
          rw [z] at q4
          dsimp only at q4
          refine ⟨G2, wipeR ρi vs, wipeF fpi vs, xs[i], ρ1, c3, dr, z, fun σ3 fp3 c4 st4 k4 => ?_⟩
          have hl3 : σ3.length = σ.length := k4.1.trans (wipe_length σ vs)
          have hw3 : wipe σ3 vs = wipe σ vs := wipe_keep k4
          refine ⟨hw3, G2, ρ1, fp3, c4, ?_⟩
          have s4 := s2.step c4 hw3 hl3 ((Step.wipe vs).trans st4 sg2)
          cases z2 : tt ρ1 with
          | bad => rw [z2] at q4; exact q4.elim
          | exc x5 r5 => rw [z2] at q4; exact q4.elim
          | ok b r5 =>
            rw [z2] at q4
            intro H5 G5 fp5 c5 st5
            have s5 := s4.step c5 hw3 hl3 st5
            cases b with
            | false =>
              rw [if_neg (Bool.false_ne_true)]; exact ⟨acc, r5, G5, σ3, fp5, va, fa, s5, by omega, q4⟩
            | true =>
              rw [if_pos rfl]
              refine ⟨G5, r5, fp5, c5, ?_⟩
              have q5 : ResE K mg E H1 G1 fp1 σ Q (((nox (el r5)).bind fun w r => (compL vs t tt el (xs.drop (i + 1)) r).bind fun ws r => .ok (w :: ws) r).bind fun ws r' => .ok (.o (acc ++ ws)) (restR r vs r')) := q4
              cases z3 : el r5 with
              | bad => rw [z3] at q5; exact q5.elim
              | exc x6 r6 => rw [z3] at q5; exact q5.elim
              | ok w r6 =>
                rw [z3] at q5
                intro v H6 G6 fp6 fv p
                obtain ⟨hL6, s6⟩ := s5.more p
                refine ⟨va, hL6, by have := line7 hlen; omega, acc ++ [w], r6, G6, σ3, fp6, va ++ [v], fa ++ fv, s6, by rw [List.length_append]; simp; omega, ?_⟩
                have e : (((nox (Out.ok w r6)).bind fun w r => (compL vs t tt el (xs.drop (i + 1)) r).bind fun ws r => .ok (w :: ws) r).bind fun ws r' => (.ok (.o (acc ++ ws)) (restR r vs r') : Out Wv)) = (compL vs t tt el (xs.drop (i + 1)) r6).bind fun ws r' => .ok (.o (acc ++ [w] ++ ws)) (restR r vs r') := by
                  simp only [nox_ok, Out.bind_ok]
                  cases compL vs t tt el (xs.drop (i + 1)) r6 with
                  | bad => rfl
                  | exc _ _ => rfl
                  | ok ws r7 => simp
                rw [← e]; exact q5
      · have ei : i = xs.length := by omega
        subst ei
        rw [List.drop_length] at q3
        have q4 : ResE K mg E H1 G1 fp1 σ Q (.ok (.o (acc ++ [])) (restR r vs ρi)) := q3
        rw [List.append_nil] at q4
        exact .inl ⟨y.stop _ H' G' s.st.x.sg s.c.sg (Nat.le_refl _), q4 _ _ _ _ _ (s.fin c1)⟩
  · exact q1.elim
end
end FW

set_option Elab.async false
set_option linter.all false
set_option maxRecDepth 100000
set_option maxHeartbeats 1000001
namespace FW
open PySem PySem.Spec L2
section
variable {X : Cx} {E : WX} {M : Nat → Bool} {elt tg iter tg1 iter1 : Expr} {ifs ifs1 : List Expr} {scope : Scope} {own : List (Str × Nat)} {pos spos : Pos} {it it1 : ISem} {t t1 : TgF} {tt tt1 : Rho → Out Bool} {el : ES}
theorem se_comp (hc : X.calm = true) (hN : X.N.Nodup) (hi : SI X E tg iter it) (ok : BlkOk X.N X.env.scope scope own)
    (hg : ∀ (s : Shared) (H : Hp) (C : Addr) (cl : List (Str × Addr)) (fp : List Addr), SG (X.blk s H scope (compEnvC scope cl C X.env) fp) (notIn (own.map (·.2))) tg t) (ht : ∀ (s : Shared) (H : Hp) (C : Addr) (cl : List (Str × Addr)) (fp : List Addr), STs (X.blk s H scope (compEnvC scope cl C X.env) fp) EF ifs tt)
    (he : ∀ (s : Shared) (H : Hp) (C : Addr) (cl : List (Str × Addr)) (fp : List Addr), SE (X.blk s H scope (compEnvC scope cl C X.env) fp) EF elt el) (hs : ∀ x, foldedSetIterable iter X.env x = pure x := by intro _; rfl) :
    SE X E (.ListComp elt [⟨tg, iter, ifs, 0⟩] scope pos) (sComp (own.map (·.2)) it t tt el) := pe_sub (pe_lc (g := tgt X.K (notIn (List.map (fun (p : Str × Nat) => p.2) own)) t) (tt := tT X.K X.mg EF tt) (te := tS X.K X.mg EF el) hc hN hi ok hg ht he hs) fun σ H Q h => comp_rd h
theorem s1_setLc {i : Nat} {y : Str} {py : Pos} (hc : X.calm = true) (hN : X.N.Nodup) (hsw : swapsWith (.ListComp elt [⟨tg, iter, ifs, 0⟩] scope pos) (some (.Name y py)) spos.line X.env = pure true) (hi : SI X E tg iter it) (ok : BlkOk X.N X.env.scope scope own)
    (hg : ∀ (s : Shared) (H : Hp) (C : Addr) (cl : List (Str × Addr)) (fp : List Addr), SG (X.blk s H scope (compEnvC scope cl C X.env) fp) (notIn (own.map (·.2))) tg t) (ht : ∀ (s : Shared) (H : Hp) (C : Addr) (cl : List (Str × Addr)) (fp : List Addr), STs (X.blk s H scope (compEnvC scope cl C X.env) fp) EF ifs tt)
    (he : ∀ (s : Shared) (H : Hp) (C : Addr) (cl : List (Str × Addr)) (fp : List Addr), SE (X.blk s H scope (compEnvC scope cl C X.env) fp) EF elt el) (hM : M i = false := by rfl) (hy : X.N[i]? = some y := by rfl) (hyl : X.env.scope.names.lookup y = some .local := by rfl) (hs : ∀ x, foldedSetIterable iter X.env x = pure x := by intro _; rfl) :
    S1 X E M (.Assign [.Name y py] (.ListComp elt [⟨tg, iter, ifs, 0⟩] scope pos) spos) (sSet i (sComp (own.map (·.2)) it t tt el)) :=
  ps_sub (ps_setLc (g := tgt X.K (notIn (List.map (fun (p : Str × Nat) => p.2) own)) t) (tt := tT X.K X.mg EF tt) (te := tS X.K X.mg EF el) hc hN hy hyl hsw hi ok hg ht he hs) fun D σ H h => comp_rd (set_rd hM h)

/-! ## two clauses -/
def compL2 (vs vs1 : List Nat) (t : TgF) (tt : Rho → Out Bool) (it1 : ISem) (t1 : TgF) (tt1 : Rho → Out Bool) (el : ES) : List D → Rho → Out (List Wv)
  | [] => fun ρ => .ok [] ρ
  | x :: xs => fun ρ => match t x (wipeR ρ vs) with
    | none => .bad
    | some ρ1 => (nox (tt ρ1)).bind fun b r => if b = true then
        (nox (it1 r)).bind fun ys r => if ys.length ≤ 1000 then (compL vs1 t1 tt1 el ys r).bind fun us r => (compL2 vs vs1 t tt it1 t1 tt1 el xs r).bind fun ws r => .ok (us ++ ws) r else .bad
      else compL2 vs vs1 t tt it1 t1 tt1 el xs r
def sComp2 (vs vs1 : List Nat) (it : ISem) (t : TgF) (tt : Rho → Out Bool) (it1 : ISem) (t1 : TgF) (tt1 : Rho → Out Bool) (el : ES) : ES :=
  fun ρ => (it ρ).bind fun xs r => if xs.length ≤ 1000 then (compL2 vs vs1 t tt it1 t1 tt1 el xs r).bind fun ws r' => .ok (.o ws) (restR r vs r') else .bad
theorem wipe_sub {σ τ : St} {vs ws : List Nat} (hl : σ.length = τ.length) (h : wipe σ vs = wipe τ vs) (sub : ∀ i ∈ vs, i ∈ ws) : wipe σ ws = wipe τ ws := by
  have k : ∀ i, i ∉ ws → σ[i]? = τ[i]? := fun i hi => wipe_wipe hl h i fun z => hi (sub i z)
  refine wipe_keep (σ := τ) (σ2 := σ) (vs := ws) ⟨by rw [wipe_length]; exact hl, fun i hi => ?_⟩
  have hi' : i ∉ ws := by unfold notIn at hi; simpa using hi
  rw [wipe_out hi', k i hi']
section
variable {K : Frg} {mg : Mg} {vs vs1 : List Nat}
/-- the inner loop, from any state, to what its end is to reach -/
theorem inner_rd {G0 H0 : Hp} {L : Addr} {σ2 : St} {fp0 : Fp} {Nx : Hp → Prop} {J1 : It} {ys : List FW.D} {Hs Gs : Hp} {m0 : Nat} (y : Yld K J1 ys Hs Gs) (hm0 : m0 + ys.length ≤ 1000000) {acc0 : List Wv} {ρ0 : Rho} {Hb Gb : Hp} {fpb : Fp} {va0 : List V} {fa0 : List Addr} {pok : List Wv → Rho → Prop}
    (s0 : CSt K G0 L vs1 σ2 H0 fp0 acc0 ρ0 Hb Gb σ2 fpb va0 fa0) (hs : Same Gs Gb) (hva : va0.length ≤ m0) (h0 : ResO pok (fun _ _ => False) (compL vs1 t1 tt1 el ys ρ0))
    (hend : ∀ (us : List Wv) (ρi : Rho) (H G : Hp) (σi : St) (fp : Fp) (va : List V) (fa : List Addr), CSt K G0 L vs1 σ2 H0 fp0 (acc0 ++ us) ρi H G σi fp va fa → va.length ≤ m0 + ys.length → pok us ρi → Nx H) :
    ∃ W1 : Nat → Nat → Hp → Prop, (∃ m, W1 0 m Hb) ∧ ∀ j k H, W1 j k H →
      (J1.stop j H ∧ Nx H) ∨ (J1.go j H ∧ ∃ Nx1 : Hp → Prop, (∀ H', Nx1 H' → ∃ k', k' < k ∧ W1 (j + 1) k' H') ∧ ∀ x H', J1.yld j H x H' → tgt K (notIn vs1) t1 x (wipe σ2 vs1) H' fun σ3 H5 => wipe σ3 vs1 = wipe σ2 vs1 ∧ tT K mg EF tt1 σ3 H5 fun b H6 =>
        if b = true then tS K mg EF el σ3 H6 fun y H7 => ∃ acc, H7 L = some (.lst acc) ∧ acc.length < sizeLine ∧ Nx1 (upd H7 L (.lst (acc ++ [y]))) else Nx1 H6) := by
  refine ⟨fun j k H' => k = ys.length - j ∧ j ≤ ys.length ∧ ∃ us ρi G' σi fpi va fa, CSt K G0 L vs1 σ2 H0 fp0 (acc0 ++ us) ρi H' G' σi fpi va fa ∧ Same Gs G' ∧ va.length ≤ m0 + j ∧
    ResO (fun ws r => pok (us ++ ws) r) (fun _ _ => False) (compL vs1 t1 tt1 el (ys.drop j) ρi), ⟨_, rfl, Nat.zero_le _, [], ρ0, Gb, σ2, fpb, va0, fa0, by rw [List.append_nil]; exact s0, hs, by omega, h0⟩, fun j k H' hW => ?_⟩
  obtain ⟨ek, hj, us, ρi, G', σi, fpi, va, fa, s, sm, hv, q⟩ := hW
  by_cases hlt : j < ys.length
  · have ex : ys[j]? = some ys[j] := List.getElem?_eq_getElem hlt
    refine .inr ⟨y.go j H' G' sm s.c.sg hlt, fun H2 => ∃ us ρi G' σi fpi va fa, CSt K G0 L vs1 σ2 H0 fp0 (acc0 ++ us) ρi H2 G' σi fpi va fa ∧ Same Gs G' ∧ va.length ≤ m0 + (j + 1) ∧
      ResO (fun ws r => pok (us ++ ws) r) (fun _ _ => False) (compL vs1 t1 tt1 el (ys.drop (j + 1)) ρi), fun H2 h2 => ⟨_, by omega, rfl, hlt, h2⟩, fun x H2 hy => ?_⟩
    obtain ⟨G2, d, xt, sg2, ed, dr⟩ := y.yld j H' G' x H2 sm s.c.sg hy hlt
    rw [ex] at ed; cases ed
    obtain ⟨c2, st2⟩ := s.c.ext0 xt sg2
    have s2 := s.step c2 s.w s.len st2
    rw [drop_eq ex] at q
    have q4 : ResO (fun ws r => pok (us ++ ws) r) (fun _ _ => False) (match t1 ys[j] (wipeR ρi vs1) with | none => (.bad : Out (List Wv)) | some ρ1 => (nox (tt1 ρ1)).bind fun b r => if b = true then (nox (el r)).bind fun w r => (compL vs1 t1 tt1 el (ys.drop (j + 1)) r).bind fun ws r => .ok (w :: ws) r else compL vs1 t1 tt1 el (ys.drop (j + 1)) r) := q
    have c3 := c2.wipe vs1
    rw [s.w] at c3
    cases z : t1 ys[j] (wipeR ρi vs1) with
    | none => rw [z] at q4; exact q4.elim
    | some ρ1 =>
      rw [z] at q4
      dsimp only at q4
      refine ⟨G2, wipeR ρi vs1, wipeF fpi vs1, ys[j], ρ1, c3, dr, z, fun σ3 fp3 c4 st4 k4 => ?_⟩
      have hl3 : σ3.length = σ2.length := k4.1.trans (wipe_length σ2 vs1)
      have hw3 : wipe σ3 vs1 = wipe σ2 vs1 := wipe_keep k4
      refine ⟨hw3, G2, ρ1, fp3, c4, ?_⟩
      have s4 := s2.step c4 hw3 hl3 ((Step.wipe vs1).trans st4 sg2)
      cases z2 : tt1 ρ1 with
      | bad => rw [z2] at q4; exact q4.elim
      | exc x5 r5 => rw [z2] at q4; exact q4.elim
      | ok b r5 =>
        rw [z2] at q4
        intro H5 G5 fp5 c5 st5
        have s5 := s4.step c5 hw3 hl3 st5
        have sm5 : Same Gs G5 := (sm.trans xt.sg).trans st5.x.sg
        cases b with
        | false =>
          rw [if_neg (Bool.false_ne_true)]; exact ⟨us, r5, G5, σ3, fp5, va, fa, s5, sm5, by omega, q4⟩
        | true =>
          rw [if_pos rfl]
          refine ⟨G5, r5, fp5, c5, ?_⟩
          have q5 : ResO (fun ws r => pok (us ++ ws) r) (fun _ _ => False) ((nox (el r5)).bind fun w r => (compL vs1 t1 tt1 el (ys.drop (j + 1)) r).bind fun ws r => .ok (w :: ws) r) := q4
          cases z3 : el r5 with
          | bad => rw [z3] at q5; exact q5.elim
          | exc x6 r6 => rw [z3] at q5; exact q5.elim
          | ok w r6 =>
            rw [z3] at q5
            intro v H6 G6 fp6 fv p
            obtain ⟨hL6, s6⟩ := s5.more p
            refine ⟨va, hL6, by have := line6; omega, us ++ [w], r6, G6, σ3, fp6, va ++ [v], fa ++ fv, by rw [← List.append_assoc]; exact s6, sm5.trans p.st.x.sg, by rw [List.length_append]; simp; omega, ?_⟩
            have q6 := ResO.bind q5
            refine ResO.imp (fun ws r h => ?_) (fun _ _ h => h) (ResO.bind (o := compL vs1 t1 tt1 el (ys.drop (j + 1)) r6) (k := fun ws r => .ok (w :: ws) r) q6)
            rw [List.append_assoc]
            exact h
  · have ei : j = ys.length := by omega
    subst ei
    rw [List.drop_length] at q
    have q' : pok (us ++ []) ρi := q
    rw [List.append_nil] at q'
    exact .inl ⟨y.stop _ H' G' sm s.c.sg (Nat.le_refl _), hend us ρi H' G' σi fpi va fa s hv q'⟩
theorem CSt.turn {G0 H0 H G : Hp} {L : Addr} {σ σi τ : St} {fp0 fp : Fp} {acc : List Wv} {ρ : Rho} {va : List V} {fa : List Addr} {ws : List Nat} (s : CSt K G0 L vs σ H0 fp0 acc ρ H G σi fp va fa) (hw : wipe σi ws = wipe τ ws) (hl : σi.length = τ.length) : CSt K G0 L ws τ H0 fp0 acc ρ H G σi fp va fa :=
  ⟨s.c, hw, hl, s.st, s.hL, s.gL, s.nL, s.r, s.nd, s.sep, s.nw⟩
theorem compL_noexc {t : TgF} {tt : Rho → Out Bool} {el : ES} {x : Xn} {r : Rho} : ∀ (xs : List FW.D) (ρ : Rho), compL vs t tt el xs ρ ≠ .exc x r
  | [], ρ => fun h => nomatch h
  | y :: ys, ρ => by
    unfold compL
    cases t y (wipeR ρ vs) with
    | none => exact fun h => nomatch h
    | some ρ1 =>
      dsimp only
      cases tt ρ1 with
      | bad => exact fun h => nomatch h
      | exc _ _ => exact fun h => nomatch h
      | ok b r1 =>
        simp only [nox_ok, Out.bind_ok]
        cases b with
        | false => exact compL_noexc ys r1
        | true =>
          simp only [if_true]
          cases el r1 with
          | bad => exact fun h => nomatch h
          | exc _ _ => exact fun h => nomatch h
          | ok w r2 =>
            simp only [nox_ok, Out.bind_ok]
            have ih := compL_noexc (t := t) (tt := tt) (el := el) (x := x) (r := r) ys r2
            intro h
            cases z : compL vs t tt el ys r2 with
            | bad => rw [z] at h; cases h
            | exc x5 r5 =>
              rw [z] at h
              have e : Out.exc x5 r5 = (.exc x r : Out (List Wv)) := by
                injection h with h1 h2
                rw [h1, h2]
              exact ih (z.trans e)
            | ok ws r5 => rw [z] at h; cases h
theorem comp2_rd {σ : St} {H : Hp} {Q : VK} (hv : ∀ i ∈ vs1, i ∈ vs) (h : tS K mg E (sComp2 vs vs1 it t tt it1 t1 tt1 el) σ H Q) : tLc2 (tIt K mg E it) (tgt K (notIn vs) t) (tT K mg EF tt) (tIt K mg EF it1) (tgt K (notIn vs1) t1) (tT K mg EF tt1) (tS K mg EF el) vs vs1 σ H Q := by
  obtain ⟨G, ρ, fp, c, q⟩ := h
  refine ⟨G, ρ, fp, c, seqI q fun xs r J H1 G1 fp1 c1 s1 y q1 => ?_⟩
  split at q1
  · rename_i hlen
    have q2 := ResE.rebase s1 c1.sg q1
    intro L hL
    have gL : G1 L = none := by
      cases e : G1 L with
      | none => rfl
      | some o => rw [c1.sg L o e] at hL; cases hL
    refine ⟨fun i m H' => m = xs.length - i ∧ i ≤ xs.length ∧ ∃ acc ρi G' σi fpi va fa, CSt K G1 L vs σ H1 fp1 acc ρi H' G' σi fpi va fa ∧ va.length ≤ i * 1000 ∧
      ResE K mg E H1 G1 fp1 σ Q ((compL2 vs vs1 t tt it1 t1 tt1 el (xs.drop i) ρi).bind fun ws r' => .ok (.o (acc ++ ws)) (restR r vs r')),
      ⟨_, rfl, Nat.zero_le _, [], r, G1, σ, fp1, [], [], ⟨c1.new hL, rfl, rfl, .new hL, upd_same, gL, hL, by unfold Rws; exact ⟨rfl, rfl⟩, by simp, fun a h q => ?_, fun a h => nomatch h⟩, Nat.le_refl _, q2⟩, fun i m H' hW => ?_⟩
    · have e : a = L := List.mem_singleton.mp h
      obtain ⟨_, z, _⟩ := c1.own q
      rw [e, hL] at z; cases z
    · obtain ⟨em, hi, acc, ρi, G', σi, fpi, va, fa, s, hva, q3⟩ := hW
      by_cases hlt : i < xs.length
      · have ex : xs[i]? = some xs[i] := List.getElem?_eq_getElem hlt
        refine .inr ⟨y.go i H' G' s.st.x.sg s.c.sg hlt, fun H2 => ∃ acc ρi G' σi fpi va fa, CSt K G1 L vs σ H1 fp1 acc ρi H2 G' σi fpi va fa ∧ va.length ≤ (i + 1) * 1000 ∧
          ResE K mg E H1 G1 fp1 σ Q ((compL2 vs vs1 t tt it1 t1 tt1 el (xs.drop (i + 1)) ρi).bind fun ws r' => .ok (.o (acc ++ ws)) (restR r vs r')), fun H2 h2 => ⟨_, by omega, rfl, hlt, h2⟩, fun x H2 hy => ?_⟩
        obtain ⟨G2, d, xt, sg2, ed, dr⟩ := y.yld i H' G' x H2 s.st.x.sg s.c.sg hy hlt
        rw [ex] at ed; cases ed
        obtain ⟨c2, st2⟩ := s.c.ext0 xt sg2
        have s2 := s.step c2 s.w s.len st2
        rw [drop_eq ex] at q3
        have q4 : ResE K mg E H1 G1 fp1 σ Q ((match t xs[i] (wipeR ρi vs) with | none => (.bad : Out (List Wv)) | some ρ1 => (nox (tt ρ1)).bind fun b r => if b = true then (nox (it1 r)).bind fun ys r => if ys.length ≤ 1000 then (compL vs1 t1 tt1 el ys r).bind fun us r => (compL2 vs vs1 t tt it1 t1 tt1 el (xs.drop (i + 1)) r).bind fun ws r => .ok (us ++ ws) r else .bad else compL2 vs vs1 t tt it1 t1 tt1 el (xs.drop (i + 1)) r).bind fun ws r' => .ok (.o (acc ++ ws)) (restR r vs r')) := q3
        have c3 := c2.wipe vs
        rw [s.w] at c3
        cases z : t xs[i] (wipeR ρi vs) with
        | none => rw [z] at q4; exact q4.elim
        | some ρ1 =>
          rw [z] at q4
          dsimp only at q4
          refine ⟨G2, wipeR ρi vs, wipeF fpi vs, xs[i], ρ1, c3, dr, z, fun σ3 fp3 c4 st4 k4 => ?_⟩
          have hl3 : σ3.length = σ.length := k4.1.trans (wipe_length σ vs)
          have hw3 : wipe σ3 vs = wipe σ vs := wipe_keep k4
          refine ⟨hw3, G2, ρ1, fp3, c4, ?_⟩
          have s4 := s2.step c4 hw3 hl3 ((Step.wipe vs).trans st4 sg2)
          cases z2 : tt ρ1 with
          | bad => rw [z2] at q4; exact q4.elim
          | exc x5 r5 => rw [z2] at q4; exact q4.elim
          | ok b r5 =>
            rw [z2] at q4
            intro H5 G5 fp5 c5 st5
            have s5 := s4.step c5 hw3 hl3 st5
            cases b with
            | false =>
              rw [if_neg (Bool.false_ne_true)]; exact ⟨acc, r5, G5, σ3, fp5, va, fa, s5, by omega, q4⟩
            | true =>
              rw [if_pos rfl]
              refine ⟨G5, r5, fp5, c5, ?_⟩
              have q5 : ResE K mg E H1 G1 fp1 σ Q (((nox (it1 r5)).bind fun ys r => if ys.length ≤ 1000 then (compL vs1 t1 tt1 el ys r).bind fun us r => (compL2 vs vs1 t tt it1 t1 tt1 el (xs.drop (i + 1)) r).bind fun ws r => .ok (us ++ ws) r else .bad).bind fun ws r' => .ok (.o (acc ++ ws)) (restR r vs r')) := q4
              cases z3 : it1 r5 with
              | bad => rw [z3] at q5; exact q5.elim
              | exc x6 r6 => rw [z3] at q5; exact q5.elim
              | ok ys r6 =>
                rw [z3] at q5
                intro J1 H6 G6 fp6 c6 st6 y6
                have q6 : ResE K mg E H1 G1 fp1 σ Q ((if ys.length ≤ 1000 then (compL vs1 t1 tt1 el ys r6).bind fun us r => (compL2 vs vs1 t tt it1 t1 tt1 el (xs.drop (i + 1)) r).bind fun ws r => .ok (us ++ ws) r else .bad).bind fun ws r' => .ok (.o (acc ++ ws)) (restR r vs r')) := q5
                split at q6
                · rename_i hys
                  have s6 := (s5.step c6 hw3 hl3 st6).turn (ws := vs1) (τ := σ3) rfl rfl
                  refine inner_rd (m0 := va.length) (pok := fun us r7 => ResE K mg E H1 G1 fp1 σ Q ((compL2 vs vs1 t tt it1 t1 tt1 el (xs.drop (i + 1)) r7).bind fun ws r' => .ok (.o (acc ++ us ++ ws)) (restR r vs r'))) y6 (by omega) s6 (Same.refl _) (Nat.le_refl _) ?_ fun us ρ7 H7 G7 σ7 fp7 va7 fa7 s7 hv7 q7 => ⟨acc ++ us, ρ7, G7, σ7, fp7, va7, fa7, s7.turn ?_ (s7.len.trans hl3), by omega, q7⟩
                  · have q7 : ResE K mg E H1 G1 fp1 σ Q (((compL vs1 t1 tt1 el ys r6).bind fun us r => (compL2 vs vs1 t tt it1 t1 tt1 el (xs.drop (i + 1)) r).bind fun ws r => .ok (us ++ ws) r).bind fun ws r' => .ok (.o (acc ++ ws)) (restR r vs r')) := q6
                    cases z8 : compL vs1 t1 tt1 el ys r6 with
                    | bad => rw [z8] at q7; exact q7.elim
                    | exc x8 r8 => exact absurd z8 (compL_noexc _ _)
                    | ok us r8 =>
                      rw [z8] at q7
                      show ResE K mg E H1 G1 fp1 σ Q _
                      have e : (((Out.ok us r8).bind fun us r => (compL2 vs vs1 t tt it1 t1 tt1 el (xs.drop (i + 1)) r).bind fun ws r => .ok (us ++ ws) r).bind fun ws r' => (.ok (.o (acc ++ ws)) (restR r vs r') : Out Wv)) = (compL2 vs vs1 t tt it1 t1 tt1 el (xs.drop (i + 1)) r8).bind fun ws r' => .ok (.o (acc ++ us ++ ws)) (restR r vs r') := by
                        simp only [Out.bind_ok]
                        cases compL2 vs vs1 t tt it1 t1 tt1 el (xs.drop (i + 1)) r8 with
                        | bad => rfl
                        | exc _ _ => rfl
                        | ok ws r9 => simp
                      rw [← e]; exact q7
                  · rw [← hw3]
                    exact wipe_sub s7.len s7.w hv
                · exact q6.elim
      · have ei : i = xs.length := by omega
        subst ei
        rw [List.drop_length] at q3
        have q4 : ResE K mg E H1 G1 fp1 σ Q (.ok (.o (acc ++ [])) (restR r vs ρi)) := q3
        rw [List.append_nil] at q4
        exact .inl ⟨y.stop _ H' G' s.st.x.sg s.c.sg (Nat.le_refl _), q4 _ _ _ _ _ (s.fin c1)⟩
  · exact q1.elim
end
theorem se_comp2 {vs1 : List Nat} (hc : X.calm = true) (hN : X.N.Nodup) (hi : SI X E tg iter it) (ok : BlkOk X.N X.env.scope scope own) (hv : ∀ i ∈ vs1, i ∈ own.map (·.2))
    (hg : ∀ (s : Shared) (H : Hp) (C : Addr) (cl : List (Str × Addr)) (fp : List Addr), SG (X.blk s H scope (compEnvC scope cl C X.env) fp) (notIn (own.map (·.2))) tg t) (ht : ∀ (s : Shared) (H : Hp) (C : Addr) (cl : List (Str × Addr)) (fp : List Addr), STs (X.blk s H scope (compEnvC scope cl C X.env) fp) EF ifs tt)
    (hi1 : ∀ (s : Shared) (H : Hp) (C : Addr) (cl : List (Str × Addr)) (fp : List Addr), SI (X.blk s H scope (compEnvC scope cl C X.env) fp) EF tg1 iter1 it1)
    (hg1 : ∀ (s : Shared) (H : Hp) (C : Addr) (cl : List (Str × Addr)) (fp : List Addr), SG (X.blk s H scope (compEnvC scope cl C X.env) fp) (notIn vs1) tg1 t1) (ht1 : ∀ (s : Shared) (H : Hp) (C : Addr) (cl : List (Str × Addr)) (fp : List Addr), STs (X.blk s H scope (compEnvC scope cl C X.env) fp) EF ifs1 tt1)
    (he : ∀ (s : Shared) (H : Hp) (C : Addr) (cl : List (Str × Addr)) (fp : List Addr), SE (X.blk s H scope (compEnvC scope cl C X.env) fp) EF elt el) (hs : ∀ x, foldedSetIterable iter X.env x = pure x := by intro _; rfl) (hs1 : ∀ env x, foldedSetIterable iter1 env x = pure x := by intro _ _; rfl) :
    SE X E (.ListComp elt [⟨tg, iter, ifs, 0⟩, ⟨tg1, iter1, ifs1, 0⟩] scope pos) (sComp2 (own.map (·.2)) vs1 it t tt it1 t1 tt1 el) :=
  pe_sub (pe_lc2 (g := tgt X.K (notIn (List.map (fun (p : Str × Nat) => p.2) own)) t) (tt := tT X.K X.mg EF tt) (wi1 := tIt X.K X.mg EF it1) (g1 := tgt X.K (notIn vs1) t1) (tt1 := tT X.K X.mg EF tt1) (te := tS X.K X.mg EF el) hc hN hi ok hv hg ht hi1 hg1 ht1 he hs hs1) fun σ H Q h => comp2_rd hv h
theorem s1_setLc2 {i : Nat} {y : Str} {py : Pos} {vs1 : List Nat} (hc : X.calm = true) (hN : X.N.Nodup) (hsw : swapsWith (.ListComp elt [⟨tg, iter, ifs, 0⟩, ⟨tg1, iter1, ifs1, 0⟩] scope pos) (some (.Name y py)) spos.line X.env = pure true) (hi : SI X E tg iter it) (ok : BlkOk X.N X.env.scope scope own) (hv : ∀ i ∈ vs1, i ∈ own.map (·.2))
    (hg : ∀ (s : Shared) (H : Hp) (C : Addr) (cl : List (Str × Addr)) (fp : List Addr), SG (X.blk s H scope (compEnvC scope cl C X.env) fp) (notIn (own.map (·.2))) tg t) (ht : ∀ (s : Shared) (H : Hp) (C : Addr) (cl : List (Str × Addr)) (fp : List Addr), STs (X.blk s H scope (compEnvC scope cl C X.env) fp) EF ifs tt)
    (hi1 : ∀ (s : Shared) (H : Hp) (C : Addr) (cl : List (Str × Addr)) (fp : List Addr), SI (X.blk s H scope (compEnvC scope cl C X.env) fp) EF tg1 iter1 it1)
    (hg1 : ∀ (s : Shared) (H : Hp) (C : Addr) (cl : List (Str × Addr)) (fp : List Addr), SG (X.blk s H scope (compEnvC scope cl C X.env) fp) (notIn vs1) tg1 t1) (ht1 : ∀ (s : Shared) (H : Hp) (C : Addr) (cl : List (Str × Addr)) (fp : List Addr), STs (X.blk s H scope (compEnvC scope cl C X.env) fp) EF ifs1 tt1)
    (he : ∀ (s : Shared) (H : Hp) (C : Addr) (cl : List (Str × Addr)) (fp : List Addr), SE (X.blk s H scope (compEnvC scope cl C X.env) fp) EF elt el) (hM : M i = false := by rfl) (hy : X.N[i]? = some y := by rfl) (hyl : X.env.scope.names.lookup y = some .local := by rfl)
    (hs : ∀ x, foldedSetIterable iter X.env x = pure x := by intro _; rfl) (hs1 : ∀ env x, foldedSetIterable iter1 env x = pure x := by intro _ _; rfl) :
    S1 X E M (.Assign [.Name y py] (.ListComp elt [⟨tg, iter, ifs, 0⟩, ⟨tg1, iter1, ifs1, 0⟩] scope pos) spos) (sSet i (sComp2 (own.map (·.2)) vs1 it t tt it1 t1 tt1 el)) :=
  ps_sub (ps_setLc2 (g := tgt X.K (notIn (List.map (fun (p : Str × Nat) => p.2) own)) t) (tt := tT X.K X.mg EF tt) (wi1 := tIt X.K X.mg EF it1) (g1 := tgt X.K (notIn vs1) t1) (tt1 := tT X.K X.mg EF tt1) (te := tS X.K X.mg EF el) hc hN hy hyl hsw hi ok hv hg ht hi1 hg1 ht1 he hs hs1) fun D σ H h => comp2_rd hv (set_rd hM h)
end
end FW

set_option Elab.async false
set_option linter.all false
set_option maxRecDepth 100000
set_option maxHeartbeats 1000001
namespace FW
open PySem PySem.Spec L2
/-! ## plain ints as places: nothing is made -/
abbrev IxF := Rho → Option Int
def tIx (K : Frg) (g : IxF) : TE := fun σ H Q => ∃ G ρ fp i, Cfg K H G σ ρ fp ∧ g ρ = some i ∧ Q (.int i) H
def SX (X : Cx) (e : Expr) (g : IxF) : Prop := PE X e (tIx X.K g)
/-- an item, by its place -/
def atW : Wv → Int → Option Wv
  | .d (.tuple ds), k => (atI ds k).map .d
  | .d (.list ds), k => (atI ds k).map .d
  | .d _, _ => none
  | .o ws, k => atI ws k
  | .s ns, k => (atI ns k).map fun i => .d (.int i)
def slotI (ρ : Rho) (i : Nat) : Option Int := match ρ[i]? with
  | some (some (.d (.int k))) => some k
  | _ => none
def intW : Wv → Option Int
  | .d (.int i) => some i
  | _ => none
def datW : Wv → Option D
  | .d x => some x
  | _ => none
theorem Rws.get {K : Frg} {H G : Hp} : ∀ {ws : List Wv} {vs : List V} {f : List Addr} {k : Nat} {w : Wv}, Rws K H G vs ws f → ws[k]? = some w → ∃ v g, vs[k]? = some v ∧ Rw K H G v w g ∧ ∀ a ∈ g, a ∈ f
  | [], _, _, _, _, _, e => by simp at e
  | w :: ws, _, _, 0, _, h, e => by
    unfold Rws at h
    obtain ⟨v, r, f, g, e1, e2, h1, h2⟩ := h
    subst e1 e2
    simp at e
    subst e
    exact ⟨v, f, rfl, h1, fun a ha => List.mem_append_left _ ha⟩
  | w :: ws, _, _, k + 1, _, h, e => by
    unfold Rws at h
    obtain ⟨v, r, f, g, e1, e2, h1, h2⟩ := h
    subst e1 e2
    obtain ⟨v', g', e3, h3, h4⟩ := Rws.get (k := k) h2 (by simpa using e)
    exact ⟨v', g', by simpa using e3, h3, fun a ha => List.mem_append_right _ (h4 a ha)⟩
theorem atI_map {α β : Type} (f : α → β) (xs : List α) (k : Int) : atI (xs.map f) k = (atI xs k).map f := by
  unfold atI
  rw [List.length_map]
  cases ixN xs.length k with
  | none => rfl
  | some j => simp
theorem Rws.atI {K : Frg} {H G : Hp} {ws : List Wv} {vs : List V} {f : List Addr} {k : Int} {w : Wv} (h : Rws K H G vs ws f) (e : L2.atI ws k = some w) : ∃ v g, L2.atI vs k = some v ∧ Rw K H G v w g ∧ ∀ a ∈ g, a ∈ f := by
  unfold L2.atI at e ⊢
  rw [h.length]
  cases z : ixN ws.length k with
  | none => rw [z] at e; cases e
  | some j =>
    rw [z] at e
    exact h.get (k := j) e
/-- the item of a list or tuple: what stands where -/
theorem Rw.at {K : Frg} {H G : Hp} {w w' : Wv} {v : V} {f : List Addr} {k : Int} (sg : Same G H) (h : Rw K H G v w f) (e : atW w k = some w') : ∃ p xs v' g, v = .ref p ∧ (SqL K H p xs ∨ SqT K H p xs) ∧ L2.atI xs k = some v' ∧ Rw K H G v' w' g ∧ ∀ a ∈ g, a ∈ f := by
  cases w with
  | o ws =>
    unfold Rw at h
    obtain ⟨a, vs, f', e1, h1, g1, e2, h3⟩ := h
    obtain ⟨v', g, e4, h4, h5⟩ := h3.atI e
    exact ⟨a, vs, v', g, e1, .inl (SqL.of h1), e4, h4, fun b hb => by rw [e2]; exact List.mem_cons_of_mem _ (h5 b hb)⟩
  | s ns =>
    unfold Rw at h
    obtain ⟨e1, a, e2, h1⟩ := h
    simp only [atW] at e
    cases z : L2.atI ns k with
    | none => rw [z] at e; cases e
    | some i =>
      rw [z] at e; cases e
      exact ⟨a, _, .int i, [], e2, .inl (sg.seq h1), by rw [atI_map, z]; rfl, by unfold Rw; exact ⟨rfl, Dr.int⟩, fun _ z => nomatch z⟩
  | d x =>
    unfold Rw at h
    obtain ⟨e1, h⟩ := h
    cases x with
    | tuple ds =>
      simp only [atW] at e
      cases z : L2.atI ds k with
      | none => rw [z] at e; cases e
      | some d =>
        rw [z] at e; cases e
        obtain ⟨a, xs, ea, h2, h3⟩ := h.tup_inv
        obtain ⟨v', hv, hr⟩ := h3.atI z
        exact ⟨a, xs, v', [], ea, .inr (same_seqT sg h2), hv, by unfold Rw; exact ⟨rfl, hr⟩, fun _ z => nomatch z⟩
    | list ds =>
      simp only [atW] at e
      cases z : L2.atI ds k with
      | none => rw [z] at e; cases e
      | some d =>
        rw [z] at e; cases e
        obtain ⟨a, xs, ea, h2, h3⟩ := h.lst_inv
        obtain ⟨v', hv, hr⟩ := h3.atI z
        exact ⟨a, xs, v', [], ea, .inl (SqL.of (sg _ _ h2)), hv, by unfold Rw; exact ⟨rfl, hr⟩, fun _ z => nomatch z⟩
    | _ => cases e
section
variable {X : Cx} {E : WX} {M : Nat → Bool} {e a b o i1 i2 : Expr} {es : List Expr} {f fi : ES} {g ga gb : IxF} {pos p2 apos : Pos} {x : Str}
theorem sx_int {i : Int} {j : Nat} : SX X (.Constant (.int i) j pos) (fun _ => some i) := pe_sub pe_int fun σ H Q ⟨G, ρ, fp, k, c, e, q⟩ => by cases e; exact q
theorem sx_var (i : Nat) (hN : X.N[i]? = some x := by rfl) (hv : Vis X.env.scope x := by first | exact Or.inl rfl | exact Or.inr (Or.inl rfl) | exact Or.inr (Or.inr rfl)) (hd : (x == ("__debug__" : Str)) = false := by decide)
    (hcd : (x == ("__classdict__" : Str)) = false := by decide) : SX X (.Name x pos) (fun ρ => slotI ρ i) := pe_sub (pe_var hN hv hd hcd) fun σ H Q ⟨G, ρ, fp, k, c, e, q⟩ => by
  have e : slotI ρ i = some k := e
  unfold slotI at e
  split at e
  · rename_i j ej
    cases e
    obtain ⟨v, hv, hr⟩ := c.get i _ ej
    unfold Rw at hr
    exact ⟨v, hv, by rw [hr.2.int_inv]; exact q⟩
  · cases e
def gAdd (ga gb : IxF) : IxF := fun ρ => (ga ρ).bind fun i => (gb ρ).map fun j => i + j
def gSubI (ga gb : IxF) : IxF := fun ρ => (ga ρ).bind fun i => (gb ρ).map fun j => i - j
theorem sx_add (ha : SX X a ga) (hb : SX X b gb) : SX X (.BinOp a .Add b pos) (gAdd ga gb) := pe_sub (pe_add ha hb) fun σ H Q ⟨G, ρ, fp, k, c, e, q⟩ => by
  unfold gAdd at e
  cases z : ga ρ with
  | none => rw [z] at e; cases e
  | some i =>
    rw [z] at e
    cases z2 : gb ρ with
    | none => simp [z2] at e
    | some j =>
      simp [z2] at e
      exact ⟨G, ρ, fp, i, c, z, G, ρ, fp, j, c, z2, i, j, rfl, rfl, by subst e; exact q⟩
theorem sx_sub (ha : SX X a ga) (hb : SX X b gb) : SX X (.BinOp a .Sub b pos) (gSubI ga gb) := pe_sub (L2.pe_sub ha hb) fun σ H Q ⟨G, ρ, fp, k, c, e, q⟩ => by
  unfold gSubI at e
  cases z : ga ρ with
  | none => rw [z] at e; cases e
  | some i =>
    rw [z] at e
    cases z2 : gb ρ with
    | none => simp [z2] at e
    | some j =>
      simp [z2] at e
      exact ⟨G, ρ, fp, i, c, z, G, ρ, fp, j, c, z2, i, j, rfl, rfl, by subst e; exact q⟩
def gNeg (ga : IxF) : IxF := fun ρ => (ga ρ).map fun i => -i
theorem sx_neg (ha : SX X a ga) : SX X (.UnaryOp .USub a pos) (gNeg ga) := pe_sub (pe_un un_neg ha) fun σ H Q ⟨G, ρ, fp, k, c, e, q⟩ => by
  unfold gNeg at e
  cases z : ga ρ with
  | none => rw [z] at e; cases e
  | some i =>
    rw [z] at e
    cases e
    exact ⟨G, ρ, fp, i, c, z, i, rfl, q⟩
def gAt (s : Nat) (ga : IxF) : IxF := fun ρ => (ga ρ).bind fun k => match ρ[s]? with
  | some (some w) => (atW w k).bind intW
  | _ => none
theorem ix_any : IxR X (fun x y H Q => ∃ p xs i v, x = .ref p ∧ y = .int i ∧ (SqL X.K H p xs ∨ SqT X.K H p xs) ∧ atI xs i = some v ∧ Q v H) := by
  intro value slice pins s σ H x y v u Q I rx ry ⟨p, xs, i, w, ex, ey, h, e, q⟩ hs
  rcases h with h | h
  · exact ix_list value slice pins s σ H x y v u Q I rx ry ⟨p, xs, i, w, ex, ey, h, e, q⟩ hs
  · exact ix_tup value slice pins s σ H x y v u Q I rx ry ⟨p, xs, i, w, ex, ey, h, e, q⟩ hs
theorem sx_at (s : Nat) (ha : SX X a ga) (hN : X.N[s]? = some x := by rfl) (hv : Vis X.env.scope x := by first | exact Or.inl rfl | exact Or.inr (Or.inl rfl) | exact Or.inr (Or.inr rfl)) (hd : (x == ("__debug__" : Str)) = false := by decide)
    (hcd : (x == ("__classdict__" : Str)) = false := by decide) (hs : PlainIx a := by exact fun _ _ => rfl) : SX X (.Subscript (.Name x p2) a pos) (gAt s ga) := pe_sub (pe_ix ix_any (pe_var hN hv hd hcd) ha hs) fun σ H Q ⟨G, ρ, fp, k, c, e, q⟩ => by
  unfold gAt at e
  cases z : ga ρ with
  | none => rw [z] at e; cases e
  | some i =>
    rw [z] at e
    simp only [Option.bind_some] at e
    split at e
    · rename_i w ew
      obtain ⟨v, hv, hr⟩ := c.get s w ew
      cases z2 : atW w i with
      | none => rw [z2] at e; cases e
      | some w' =>
        rw [z2] at e
        obtain ⟨p, xs, v', g', ev, h1, h2, h3, _⟩ := hr.at c.sg z2
        refine ⟨v, hv, G, ρ, fp, i, c, z, p, xs, i, v', ev, rfl, h1, h2, ?_⟩
        cases w' with
        | d y =>
          cases y with
          | int n =>
            cases e
            unfold Rw at h3
            rw [h3.2.int_inv]; exact q
          | _ => cases e
        | _ => cases e
    · cases e
/-- x[i], x a slot: its item, data; nothing of x is frozen -/
def sAt (s : Nat) (fi : ES) : ES := fun ρ => match ρ[s]? with
  | some (some _) => (fz (fi ρ)).bind fun d r => match d, r[s]? with
    | .int k, some (some w) => ofO (((atW w k).bind datW).map .d) r
    | _, _ => .bad
  | _ => .bad
theorem se_at (s : Nat) (hi : SE X E a fi) (hN : X.N[s]? = some x := by rfl) (hv : Vis X.env.scope x := by first | exact Or.inl rfl | exact Or.inr (Or.inl rfl) | exact Or.inr (Or.inr rfl)) (hd : (x == ("__debug__" : Str)) = false := by decide)
    (hcd : (x == ("__classdict__" : Str)) = false := by decide) (hs : PlainIx a := by exact fun _ _ => rfl) : SE X E (.Subscript (.Name x p2) a pos) (sAt s fi) := pe_sub (pe_ix ix_any (pe_var hN hv hd hcd) hi.D hs) fun σ H Q ⟨G, ρ, fp, c, q⟩ => by
  unfold sAt at q
  split at q
  · rename_i w0 e0
    obtain ⟨v, hv, _⟩ := c.get s w0 e0
    refine ⟨v, hv, G, ρ, fp, c, seqD q fun d r u H1 G1 fp1 c1 s1 d1 q1 => ?_⟩
    split at q1
    · rename_i k w ew
      obtain ⟨v2, hv2, hr⟩ := c1.get s w ew
      rw [hv] at hv2
      have e : v = v2 := Option.some.inj (Option.some.inj hv2)
      subst e
      cases z2 : atW w k with
      | none => rw [z2] at q1; exact q1.elim
      | some w' =>
        rw [z2] at q1
        obtain ⟨p, xs, v', g', ev, h1, h2, h3, _⟩ := hr.at c1.sg z2
        cases w' with
        | d y =>
          unfold Rw at h3
          exact ⟨p, xs, k, v', ev, d1.int_inv, h1, h2, ResE.val c1 h3.2 (ResE.rebase s1 c1.sg q1)⟩
        | _ => exact q1.elim
    · exact q1.elim
  · exact q.elim
/-- x[i][j], x a slot, i and j plain -/
def sAt2 (s : Nat) (ga gb : IxF) : ES := fun ρ => match ρ[s]?, ga ρ, gb ρ with
  | some (some w), some i, some j => ofO ((((atW w i).bind (atW · j)).bind datW).map .d) ρ
  | _, _, _ => .bad
theorem se_at2 (s : Nat) (ha : SX X a ga) (hb : SX X b gb) (hN : X.N[s]? = some x := by rfl) (hv : Vis X.env.scope x := by first | exact Or.inl rfl | exact Or.inr (Or.inl rfl) | exact Or.inr (Or.inr rfl)) (hd : (x == ("__debug__" : Str)) = false := by decide)
    (hcd : (x == ("__classdict__" : Str)) = false := by decide) (hs : PlainIx a := by exact fun _ _ => rfl) (hs2 : PlainIx b := by exact fun _ _ => rfl) : SE X E (.Subscript (.Subscript (.Name x p2) a apos) b pos) (sAt2 s ga gb) :=
  pe_sub (pe_ix ix_any (pe_ix ix_any (pe_var hN hv hd hcd) ha hs) hb hs2) fun σ H Q ⟨G, ρ, fp, c, q⟩ => by
    unfold sAt2 at q
    split at q
    · rename_i w i j ew ei ej
      obtain ⟨v, hv, hr⟩ := c.get s w ew
      cases z : atW w i with
      | none => rw [z] at q; exact q.elim
      | some w1 =>
        rw [z] at q
        obtain ⟨p, xs, v1, g1, ev, h1, h2, h3, _⟩ := hr.at c.sg z
        cases z2 : atW w1 j with
        | none => simp [z2] at q; exact q.elim
        | some w' =>
          simp only [Option.bind_some, z2] at q
          obtain ⟨p', xs', v', g', ev', h1', h2', h3', _⟩ := h3.at c.sg z2
          cases w' with
          | d y =>
            unfold Rw at h3'
            exact ⟨v, hv, G, ρ, fp, i, c, ei, p, xs, i, v1, ev, rfl, h1, h2, G, ρ, fp, j, c, ej, p', xs', j, v', ev', rfl, h1', h2', ResE.val c h3'.2 q⟩
          | _ => exact q.elim
    · exact q.elim
/-! ## stores -/
theorem Rws.split {K : Frg} {H G : Hp} : ∀ {ws : List Wv} {vs : List V} {f : List Addr} {k : Nat} {w : Wv}, Rws K H G vs ws f → ws[k]? = some w → ∃ v f1 g f2, vs[k]? = some v ∧ f = f1 ++ g ++ f2 ∧ Rw K H G v w g ∧
    ∀ (H' G' : Hp) (v' : V) (w' : Wv) (g' : List Addr), Same G G' → (∀ a, a ∈ f1 ∨ a ∈ f2 → H' a = H a ∧ G' a = none) → Rw K H' G' v' w' g' → Rws K H' G' (vs.set k v') (ws.set k w') (f1 ++ g' ++ f2)
  | [], _, _, _, _, _, e => by simp at e
  | w :: ws, _, _, 0, _, h, e => by
    unfold Rws at h
    obtain ⟨v, r, f, g, e1, e2, h1, h2⟩ := h
    subst e1 e2
    simp at e
    subst e
    refine ⟨v, [], f, g, rfl, rfl, h1, fun H' G' v' w' g' sm k r' => ?_⟩
    show Rws K H' G' (v' :: r) (w' :: ws) (g' ++ g)
    unfold Rws
    exact ⟨v', r, g', g, rfl, rfl, r', Rws.move sm _ _ _ h2 fun a ha => k a (.inr ha)⟩
  | w :: ws, _, _, k + 1, _, h, e => by
    unfold Rws at h
    obtain ⟨v, r, f, g, e1, e2, h1, h2⟩ := h
    subst e1 e2
    obtain ⟨v0, f1, g0, f2, e3, e4, h3, h4⟩ := Rws.split (k := k) h2 (by simpa using e)
    refine ⟨v0, f ++ f1, g0, f2, by simpa using e3, by rw [e4]; simp [List.append_assoc], h3, fun H' G' v' w' g' sm kk r' => ?_⟩
    show Rws K H' G' (v :: r.set k v') (w :: ws.set k w') (f ++ f1 ++ g' ++ f2)
    unfold Rws
    refine ⟨v, r.set k v', f, f1 ++ g' ++ f2, rfl, by simp [List.append_assoc], Rw.move sm _ _ _ h1 fun a ha => kk a (.inl (List.mem_append_left _ ha)), h4 H' G' v' w' g' sm (fun a ha => kk a ?_) r'⟩
    rcases ha with z | z
    · exact .inl (List.mem_append_right _ z)
    · exact .inr z
theorem nodup_mid {f1 g f2 g' : List Addr} (h : (f1 ++ g ++ f2).Nodup) (hg : g'.Nodup) (d : ∀ a ∈ g', a ∉ f1 ∧ a ∉ f2) : (f1 ++ g' ++ f2).Nodup := by
  rw [List.append_assoc, List.nodup_append] at h ⊢
  obtain ⟨h1, h2, h3⟩ := h
  rw [List.nodup_append] at h2 ⊢
  refine ⟨h1, ⟨hg, h2.2.1, fun a ha b hb e => (d a ha).2 (e ▸ hb)⟩, fun a ha b hb e => ?_⟩
  rcases List.mem_append.mp hb with z | z
  · exact (d b z).1 (e ▸ ha)
  · exact h3 a ha b (List.mem_append_right _ z) e
/-- a target that takes a value with what it owns -/
abbrev TwF := Wv → Rho → Option Rho
def tgW (K : Frg) (M : Nat → Bool) (t : TwF) : TG := fun v σ H Q => ∃ G ρ fp w fv ρ', Cfg K H G σ ρ fp ∧ Rw K H G v w fv ∧ fv.Nodup ∧ (∀ a ∈ fv, ¬ Own fp a) ∧ t w ρ = some ρ' ∧
  ∀ σ' H' fp', Cfg K H' G σ' ρ' fp' → Ext (fun a => Own fp a ∨ a ∈ fv) H G H' G → (∀ a, Own fp' a → Own fp a ∨ a ∈ fv) → Keep M σ σ' → Q σ' H'
abbrev TwsF := List Wv → Rho → Option Rho
def tgsW (K : Frg) (M : Nat → Bool) (t : TwsF) : TGs := fun vs σ H Q => ∃ G ρ fp ws fv ρ', Cfg K H G σ ρ fp ∧ Rws K H G vs ws fv ∧ fv.Nodup ∧ (∀ a ∈ fv, ¬ Own fp a) ∧ t ws ρ = some ρ' ∧
  ∀ σ' H' fp', Cfg K H' G σ' ρ' fp' → Ext (fun a => Own fp a ∨ a ∈ fv) H G H' G → (∀ a, Own fp' a → Own fp a ∨ a ∈ fv) → Keep M σ σ' → Q σ' H'
def SW' (X : Cx) (M : Nat → Bool) (tg : Expr) (t : TwF) : Prop := PG X tg (tgW X.K M t)
def SWs' (X : Cx) (M : Nat → Bool) (tg : List Expr) (t : TwsF) : Prop := PGs X tg (tgsW X.K M t)
def wN (i : Nat) : TwF := fun w ρ => if i < ρ.length then some (ρ.set i (some w)) else none
theorem sw_name {i : Nat} (hM : M i = false := by rfl) (hN : X.N.Nodup) (hi : X.N[i]? = some x := by rfl) (hx : Loc X.env.scope x := by first | exact Or.inl rfl | exact Or.inr rfl) (hf : X.fn x = true ∨ X.env.scope.names.lookup x = some .local := by first | exact .inl rfl | exact .inr rfl) : SW' X M (.Name x pos) (wN i) :=
  pg_sub (pg_name hN hi hx hf) fun v σ H Q ⟨G, ρ, fp, w, fv, ρ', c, r, nd, sep, e, q⟩ => by
    unfold wN at e
    split at e
    · rename_i h
      cases e
      refine q _ H _ (c.put (i := i) (x := some v) (y := some w) (f := fv) (fun w' e => ⟨v, rfl, by cases e; exact r⟩) (fun e => nomatch e) nd (fun a ha j _ z => sep a ha ⟨j, z⟩) h) .refl (fun a h => ?_) (.set hM)
      rcases h.up with z | ⟨j, _, z⟩
      · exact .inr z
      · exact .inl ⟨j, z⟩
    · cases e
def wsNil : TwsF := fun ws ρ => match ws with
  | [] => some ρ
  | _ => none
def wsCons (t : TwF) (u : TwsF) : TwsF := fun ws ρ => match ws with
  | w :: r => (t w ρ).bind (u r)
  | [] => none
theorem sws_nil : SWs' X M [] wsNil := pgs_sub pgs_nil fun vs σ H Q ⟨G, ρ, fp, ws, fv, ρ', c, r, nd, sep, e, q⟩ => by
  cases ws with
  | nil =>
    cases e
    unfold Rws at r
    exact ⟨r.1, q σ H fp c .refl (fun _ z => .inl z) .refl⟩
  | cons _ _ => cases e
theorem sws_cons {t : TwF} {u : TwsF} (h1 : SW' X M e t) (h2 : SWs' X M es u) (hs : (assignEach (e :: es) X.env).map (·.2) = assign e X.env :: (assignEach es X.env).map (·.2) := by rfl) : SWs' X M (e :: es) (wsCons t u) :=
  pgs_sub (pgs_cons h1 h2 hs) fun vs σ H Q ⟨G, ρ, fp, ws, fv, ρ', c, r, nd, sep, e, q⟩ => by
    cases ws with
    | nil => cases e
    | cons w wr =>
      unfold Rws at r
      obtain ⟨v, vr, f, g, ev, ef, r1, r2⟩ := r
      subst ef
      have e2 : (t w ρ).bind (u wr) = some ρ' := e
      rw [List.nodup_append] at nd
      cases z : t w ρ with
      | none => rw [z] at e2; cases e2
      | some ρ1 =>
        rw [z] at e2
        refine ⟨v, vr, ev, G, ρ, fp, w, f, ρ1, c, r1, nd.1, fun a ha => sep a (List.mem_append_left _ ha), z, fun σ1 H1 fp1 c1 x1 n1 k1 => ?_⟩
        have sg : ∀ a ∈ g, ¬ Own fp a := fun a ha => sep a (List.mem_append_right _ ha)
        refine ⟨G, ρ1, fp1, wr, g, ρ', c1, Rws.move (Same.refl _) _ _ _ r2 fun a ha => ?_, nd.2.1, fun a ha h => ?_, e2, fun σ2 H2 fp2 c2 x2 n2 k2 => q σ2 H2 fp2 c2 ⟨Same.refl _, fun a o h gg np => ?_, fun a h => x1.dom a (x2.dom a h)⟩ (fun a h => ?_) (k1.trans k2)⟩
        · obtain ⟨vs', h1, g1⟩ := Rws.there _ _ _ r2 a ha
          exact ⟨(x1.oth a _ h1 g1 fun y => y.elim (sg a ha) fun y => nd.2.2 a y a ha rfl).1.trans h1.symm, g1⟩
        · rcases n1 a h with y | y
          · exact sg a ha y
          · exact nd.2.2 a y a ha rfl
        · obtain ⟨h3, g3⟩ := x1.oth a o h gg fun y => np (y.imp id (List.mem_append_left _))
          refine x2.oth a o h3 g3 fun y => np ?_
          rcases y with y | y
          · rcases n1 a y with y2 | y2
            · exact .inl y2
            · exact .inr (List.mem_append_left _ y2)
          · exact .inr (List.mem_append_right _ y)
        · rcases n2 a h with y | y
          · rcases n1 a y with y2 | y2
            · exact .inl y2
            · exact .inr (List.mem_append_left _ y2)
          · exact .inr (List.mem_append_right _ y)
def wT (n : Nat) (u : TwsF) (ws : List Wv) : Rho → Option Rho := fun ρ => if ws.length = n then u ws ρ else none
/-- a, b, .. = x, y, ..: by a tuple that is taken apart -/
def sTupW (n : Nat) (u : TwsF) (aw : Rho → Out (List Wv)) : SSem := fun ρ => (aw ρ).bind fun ws r => if ws.length ≤ 1000000 then (ofO (wT n u ws r) r).bind fun r' _ => .ok .nx r' else .bad
theorem tupW_end {K : Frg} {D : Ends} {H0 G0 H1 G1 : Hp} {fp0 fp1 : Fp} {σ : St} {r ρ' : Rho} {vs : List V} {ws : List Wv} {fv : List Addr} {n : Nat} {u : TwsF} (p : PA' K H0 G0 fp0 σ r vs ws H1 G1 fp1 fv) (z : wT n u ws r = some ρ') (q : PokS K M D H0 G0 fp0 σ .nx ρ') {t : Addr} (ht : H1 t = none) :
    gTup K n (tgsW K M u) (.ref t) σ (upd H1 t (.tup vs)) D.nx := by
  unfold wT at z
  split at z
  · rename_i hn
    have mv : ∀ a ∈ fv, upd H1 t (.tup vs) a = H1 a ∧ G1 a = none := fun a ha => by
      obtain ⟨_, h1, g1⟩ := Rws.there _ _ _ p.r a ha
      exact ⟨upd_ne (fun e => by rw [e, ht] at h1; cases h1), g1⟩
    refine ⟨t, vs, rfl, .inl (.inl upd_same), by rw [p.r.length]; exact hn, G1, r, fp1, ws, fv, ρ', p.c.new ht, Rws.move (Same.refl _) _ _ _ p.r mv, p.nd, p.sep, z, fun σ' H' fp' c' x' n' k' => q σ' H' G1 fp' c' ⟨⟨p.st.x.sg, fun a o h g np => ?_, fun a h => p.st.x.dom a ?_⟩, fun a h => ?_⟩ k'⟩
    · obtain ⟨h1, g1⟩ := p.st.x.oth a o h g np
      have e : a ≠ t := fun e => by rw [e, ht] at h1; cases h1
      refine ⟨(x'.oth a o ((upd_ne e).trans h1) g1 fun y => ?_).1, g1⟩
      rcases y with y | y
      · rcases p.st.nw a y with y2 | y2
        · exact np y2
        · rw [h] at y2; cases y2
      · rcases p.nwv a y with y2 | y2
        · exact np y2
        · rw [h] at y2; cases y2
    · have h2 := x'.dom a h
      by_cases e : a = t
      · rw [e]; exact ht
      · rw [upd_ne e] at h2; exact h2
    · rcases n' a h with y | y
      · exact p.st.nw a y
      · exact p.nwv a y
  · cases z
theorem s1_tupW {es ts : List Expr} {aw : Rho → Out (List Wv)} {u : TwsF} {k1 k2 n : Nat} {p1 p3 : Pos} (hc : X.calm = true) (ha : SAW X E es aw) (ht : SWs' X M ts u) (hn : (assignEach ts X.env).length = n := by rfl) (hst : (assignEach ts X.env).findIdx? (·.1) = none := by rfl)
    (hs : swapsWithSole [.Tuple ts k1 p1] (.Tuple es k2 p3) pos.line X.env = pure false := by rfl) (hw : swappedStores [.Tuple ts k1 p1] (.Tuple es k2 p3) X.env = pure none := by rfl)
    (h1 : (assignEach [.Tuple ts k1 p1] X.env).map (·.2) = [assign (.Tuple ts k1 p1) X.env] := by rfl) : S1 X E M (.Assign [.Tuple ts k1 p1] (.Tuple es k2 p3) pos) (sTupW n u aw) :=
  ps_sub (ps_asg (pe_tup ha) (pg_tup hc ht hn hst) hs hw h1) fun D σ H ⟨G, ρ, fp, c, q⟩ => ⟨G, ρ, fp, c, seqWS q fun ws r vs H1 G1 fp1 fv p q1 => by
    split at q1
    · rename_i hl
      cases z : wT n u ws r with
      | none => rw [z] at q1; exact q1.elim
      | some ρ' =>
        rw [z] at q1
        exact ⟨by rw [p.r.length]; exact Nat.le_trans hl line6, fun t ht => tupW_end p z q1 ht⟩
    · exact q1.elim⟩
/-- two plain local names -/
theorem s1_par {i j : Nat} {y : Str} {px py pt p3 : Pos} {k1 k2 : Nat} {aw : Rho → Out (List Wv)} (hc : X.calm = true) (ha : SAW X E [a, b] aw) (hN : X.N.Nodup) (hij : i ≠ j := by decide) (hM : M i = false := by rfl) (hM2 : M j = false := by rfl) (hi : X.N[i]? = some x := by rfl) (hj : X.N[j]? = some y := by rfl)
    (hx : X.env.scope.names.lookup x = some .local := by rfl) (hy : X.env.scope.names.lookup y = some .local := by rfl)
    (hw : swappedStores [.Tuple [.Name x px, .Name y py] k1 pt] (.Tuple [a, b] k2 p3) X.env = pure (some [x, y]) := by rfl)
    (hs : swapsWithSole [.Tuple [.Name x px, .Name y py] k1 pt] (.Tuple [a, b] k2 p3) pos.line X.env = pure false := by rfl) : S1 X E M (.Assign [.Tuple [.Name x px, .Name y py] k1 pt] (.Tuple [a, b] k2 p3) pos) (sTupW 2 (wsCons (wN i) (wsCons (wN j) wsNil)) aw) :=
  ps_sub (ps_par hc hN hi hj hij hx hy ha hw hs) fun D σ H ⟨G, ρ, fp, c, q⟩ => ⟨G, ρ, fp, c, seqWS q fun ws r vs H1 G1 fp1 fv p q1 => by
    split at q1
    · cases z : wT 2 (wsCons (wN i) (wsCons (wN j) wsNil)) ws r with
      | none => rw [z] at q1; exact q1.elim
      | some ρ' =>
        rw [z] at q1
        have q1 : PokS X.K M D H G fp σ .nx ρ' := q1
        unfold wT at z
        split at z
        · rename_i hn
          match ws, hn, z, p with
          | [w1, w2], _, z, p =>
            have pr := p.r
            unfold Rws at pr
            obtain ⟨v1, r1, f, g, ev, ef, k1, k2⟩ := pr
            unfold Rws at k2
            obtain ⟨v2, r2, f2, g2, ev2, ef2, k3, k4⟩ := k2
            unfold Rws at k4
            obtain ⟨e5, e6⟩ := k4
            subst e5 e6
            rw [List.append_nil] at ef2
            subst ef2 ef ev2 ev
            refine ⟨v1, v2, rfl, ?_⟩
            have nd := List.nodup_append.mp p.nd
            have z' : (wN i w1 r).bind (wsCons (wN j) wsNil [w2]) = some ρ' := z
            unfold wN at z'
            split at z'
            · rename_i hir
              have z2 : (wN j w2 (r.set i (some w1))).bind (wsNil []) = some ρ' := z'
              unfold wN at z2
              split at z2
              · rename_i hjr
                have e : (r.set i (some w1)).set j (some w2) = ρ' := Option.some.inj z2
                subst e
                have c1 : Cfg X.K H1 G1 (σ.set i (some v1)) (r.set i (some w1)) (upF fp1 i f) := p.c.put (fun w' e => ⟨v1, rfl, by cases e; exact k1⟩) (fun e => nomatch e) nd.1 (fun a ha j _ h => p.sep a (List.mem_append_left _ ha) ⟨j, h⟩) hir
                have c2 : Cfg X.K H1 G1 ((σ.set i (some v1)).set j (some v2)) ((r.set i (some w1)).set j (some w2)) (upF (upF fp1 i f) j g) := c1.put (fun w' e => ⟨v2, rfl, by cases e; exact k3⟩) (fun e => nomatch e) nd.2.1 (fun a ha l _ h => by
                  rcases Own.up (⟨l, h⟩ : Own (upF fp1 i f) a) with y | ⟨m, _, y⟩
                  · exact nd.2.2 a y a ha rfl
                  · exact p.sep a (List.mem_append_right _ ha) ⟨m, y⟩) hjr
                refine q1 _ H1 G1 _ c2 ⟨p.st.x, fun a h => ?_⟩ ((Keep.set hM).trans (Keep.set hM2))
                rcases h.up with y | ⟨m, _, y⟩
                · exact p.nwv a (List.mem_append_right _ y)
                · rcases Own.up (⟨m, y⟩ : Own (upF fp1 i f) a) with y | ⟨m, _, y⟩
                  · exact p.nwv a (List.mem_append_left _ y)
                  · exact p.st.nw a ⟨m, y⟩
              · cases z2
            · cases z'
        · cases z
    · exact q1.elim⟩
end
end FW

set_option Elab.async false
set_option linter.all false
set_option maxRecDepth 100000
set_option maxHeartbeats 1000001
namespace FW
open PySem PySem.Spec L2
section
variable {K : Frg} {H G : Hp} {σ : St} {ρ : Rho} {fp : Fp}
/-- a slot's own tree changed at one of its lists -/
theorem Cfg.updAt (c : Cfg K H G σ ρ fp) {s : Nat} {w0 w1 : Wv} {v : V} {p : Addr} {o : HO} {f1 fv : List Addr} (e : ρ[s]? = some (some w0)) (hv : σ[s]? = some (some v)) (hp : p ∈ fp s) (r : Rw K (upd H p o) G v w1 f1) (nd : f1.Nodup)
    (sub : ∀ a ∈ f1, a ∈ fp s ∨ a ∈ fv) (sep : ∀ a ∈ fv, ¬ Own fp a) :
    Cfg K (upd H p o) G σ (ρ.set s (some w1)) (upF fp s f1) ∧ Ext (fun a => Own fp a ∨ a ∈ fv) H G (upd H p o) G ∧ ∀ a, Own (upF fp s f1) a → Own fp a ∨ a ∈ fv := by
  have hs : s < ρ.length := (List.getElem?_eq_some_iff.mp e).1
  obtain ⟨xs0, hp0, gp0⟩ := c.own ⟨s, hp⟩
  have ne : ∀ a u, G a = some u → a ≠ p := fun a u h q => by rw [q, gp0] at h; cases h
  have c1 : Cfg K H G (σ.set s (some v)) (ρ.set s none) (upF fp s []) := c.put (fun w e => nomatch e) (fun _ => rfl) List.nodup_nil (fun _ z => nomatch z) hs
  rw [set_same hv] at c1
  have c2 : Cfg K (upd H p o) G σ (ρ.set s none) (upF fp s []) := c1.grow (fun a u h => by rw [upd_ne (ne a u h)]; exact c.sg a u h) (Same.refl _) fun a h => by
    rcases h.up with z | ⟨j, hj, z⟩
    · cases z
    · obtain ⟨_, _, g1⟩ := c.own ⟨j, z⟩
      exact ⟨upd_ne fun q => hj (c.dis j s a z (by rw [q]; exact hp)), g1⟩
  have c3 := c2.put (i := s) (x := some v) (y := some w1) (f := f1) (fun w' e => ⟨v, rfl, by cases e; exact r⟩) (fun e => nomatch e) nd (fun a ha j hj z => by
    rw [upF_ne hj] at z
    rcases sub a ha with y | y
    · exact hj (c.dis j s a z y)
    · exact sep a y ⟨j, z⟩) (by simpa using hs)
  rw [set_set, set_same hv] at c3
  have ef : upF (upF fp s []) s f1 = upF fp s f1 := by
    funext j
    by_cases h : j = s
    · rw [h, upF_same, upF_same]
    · rw [upF_ne h, upF_ne h, upF_ne h]
  rw [ef] at c3
  refine ⟨c3, ⟨Same.refl _, fun a u h g np => ⟨?_, g⟩, fun a h => ?_⟩, fun a h => ?_⟩
  · rw [upd_ne fun q => np (.inl ⟨s, by rw [q]; exact hp⟩)]; exact h
  · by_cases q : a = p
    · rw [q, upd_same] at h; cases h
    · rw [upd_ne q] at h; exact h
  · rcases h.up with z | ⟨j, _, z⟩
    · exact (sub a z).imp (fun y => ⟨s, y⟩) id
    · exact .inl ⟨j, z⟩
theorem Rw.out {w : Wv} {v : V} {f : List Addr} {p : Addr} {o : HO} (r : Rw K H G v w f) (h : p ∉ f) : Rw K (upd H p o) G v w f := Rw.move (Same.refl _) _ _ _ r fun a ha => by
  obtain ⟨_, _, g⟩ := Rw.there _ _ _ r a ha
  exact ⟨upd_ne fun e => h (e ▸ ha), g⟩
theorem Rws.out {w : List Wv} {v : List V} {f : List Addr} {p : Addr} {o : HO} (r : Rws K H G v w f) (h : p ∉ f) : Rws K (upd H p o) G v w f := Rws.move (Same.refl _) _ _ _ r fun a ha => by
  obtain ⟨_, _, g⟩ := Rws.there _ _ _ r a ha
  exact ⟨upd_ne fun e => h (e ▸ ha), g⟩
/-- one item put anew -/
theorem Rw.setO {ws : List Wv} {w : Wv} {v u : V} {f g : List Addr} {j : Nat} (r : Rw K H G v (.o ws) f) (nd : f.Nodup) (hj : j < ws.length) (ru : Rw K H G u w g) (ndg : g.Nodup) (d : ∀ a ∈ g, a ∉ f) :
    ∃ p xs f1, v = .ref p ∧ p ∈ f ∧ H p = some (.lst xs) ∧ xs.length = ws.length ∧ Rw K (upd H p (.lst (xs.set j u))) G v (.o (ws.set j w)) f1 ∧ f1.Nodup ∧ ∀ a ∈ f1, a ∈ f ∨ a ∈ g := by
  unfold Rw at r
  obtain ⟨p, xs, f0, ev, h1, g1, ef, rs⟩ := r
  subst ef
  obtain ⟨np, nd0⟩ := List.nodup_cons.mp nd
  obtain ⟨v0, fa, gg, fb, e1, e2, _, k⟩ := rs.split (List.getElem?_eq_getElem hj)
  subst e2
  have npg : p ∉ g := fun h => d p h List.mem_cons_self
  have rs' := k (upd H p (.lst (xs.set j u))) G u w g (Same.refl _) (fun a ha => by
    have hm : a ∈ fa ++ gg ++ fb := by
      rcases ha with z | z
      · exact List.mem_append_left _ (List.mem_append_left _ z)
      · exact List.mem_append_right _ z
    obtain ⟨_, _, ga⟩ := Rws.there _ _ _ rs a hm
    exact ⟨upd_ne fun e => np (e ▸ hm), ga⟩) (ru.out npg)
  refine ⟨p, xs, p :: (fa ++ g ++ fb), ev, List.mem_cons_self, h1, rs.length, ?_, List.nodup_cons.mpr ⟨fun h => ?_, nodup_mid nd0 ndg fun a ha => ⟨fun z => d a ha (List.mem_cons_of_mem _ (List.mem_append_left _ (List.mem_append_left _ z))), fun z => d a ha (List.mem_cons_of_mem _ (List.mem_append_right _ z))⟩⟩, fun a ha => ?_⟩
  · unfold Rw
    exact ⟨p, xs.set j u, _, ev, upd_same, g1, rfl, rs'⟩
  · rcases List.mem_append.mp h with z | z
    · rcases List.mem_append.mp z with y | y
      · exact np (List.mem_append_left _ (List.mem_append_left _ y))
      · exact npg y
    · exact np (List.mem_append_right _ z)
  · rcases List.mem_cons.mp ha with z | z
    · exact .inl (by rw [z]; exact List.mem_cons_self)
    · rcases List.mem_append.mp z with y | y
      · rcases List.mem_append.mp y with x | x
        · exact .inl (List.mem_cons_of_mem _ (List.mem_append_left _ (List.mem_append_left _ x)))
        · exact .inr x
      · exact .inl (List.mem_cons_of_mem _ (List.mem_append_right _ y))
/-- an item of an item put anew -/
theorem Rw.setO2 {ws us : List Wv} {w : Wv} {v u : V} {f g : List Addr} {i j : Nat} (r : Rw K H G v (.o ws) f) (nd : f.Nodup) (hi : ws[i]? = some (.o us)) (hj : j < us.length) (ru : Rw K H G u w g) (ndg : g.Nodup) (d : ∀ a ∈ g, a ∉ f) :
    ∃ p xs p2 ys f1, v = .ref p ∧ H p = some (.lst xs) ∧ xs.length = ws.length ∧ xs[i]? = some (.ref p2) ∧ p2 ∈ f ∧ H p2 = some (.lst ys) ∧ ys.length = us.length ∧ Rw K (upd H p2 (.lst (ys.set j u))) G v (.o (ws.set i (.o (us.set j w)))) f1 ∧ f1.Nodup ∧ ∀ a ∈ f1, a ∈ f ∨ a ∈ g := by
  unfold Rw at r
  obtain ⟨p, xs, f0, ev, h1, g1, ef, rs⟩ := r
  subst ef
  obtain ⟨np, nd0⟩ := List.nodup_cons.mp nd
  obtain ⟨v0, fa, gg, fb, e1, e2, r0, k⟩ := rs.split hi
  subst e2
  have ndm := nd0
  rw [List.append_assoc, List.nodup_append] at ndm
  have ndg0 : gg.Nodup := (List.nodup_append.mp ndm.2.1).1
  have hin : ∀ a, a ∈ gg → a ∈ fa ++ gg ++ fb := fun a h => List.mem_append_left _ (List.mem_append_right _ h)
  obtain ⟨p2, ys, f1, ev2, hp2, h2, l2, r2, nd2, sub2⟩ := r0.setO ndg0 hj ru ndg fun a ha z => d a ha (List.mem_cons_of_mem _ (hin a z))
  have nab : ∀ a, a ∈ fa ∨ a ∈ fb → a ≠ p2 := fun a ha e => by
    subst e
    rcases ha with z | z
    · exact ndm.2.2 a z a (List.mem_append_left _ hp2) rfl
    · exact (List.nodup_append.mp ndm.2.1).2.2 a hp2 a z rfl
  have rs' := k (upd H p2 (.lst (ys.set j u))) G v0 (.o (us.set j w)) f1 (Same.refl _) (fun a ha => by
    have hm : a ∈ fa ++ gg ++ fb := by
      rcases ha with z | z
      · exact List.mem_append_left _ (List.mem_append_left _ z)
      · exact List.mem_append_right _ z
    obtain ⟨_, _, ga⟩ := Rws.there _ _ _ rs a hm
    exact ⟨upd_ne (nab a ha), ga⟩) r2
  have pp2 : p ≠ p2 := fun e => np (hin p (e ▸ hp2))
  have same : xs.set i v0 = xs := set_same e1
  rw [same] at rs'
  refine ⟨p, xs, p2, ys, p :: (fa ++ f1 ++ fb), ev, h1, rs.length, by rw [e1, ev2], List.mem_cons_of_mem _ (hin _ hp2), h2, l2, ?_, List.nodup_cons.mpr ⟨fun h => ?_, nodup_mid nd0 nd2 fun a ha => ?_⟩, fun a ha => ?_⟩
  · unfold Rw
    exact ⟨p, xs, _, ev, (upd_ne pp2).trans h1, g1, rfl, rs'⟩
  · rcases List.mem_append.mp h with z | z
    · rcases List.mem_append.mp z with y | y
      · exact np (List.mem_append_left _ (List.mem_append_left _ y))
      · rcases sub2 p y with x | x
        · exact np (hin p x)
        · exact d p x List.mem_cons_self
    · exact np (List.mem_append_right _ z)
  · rcases sub2 a ha with x | x
    · exact ⟨fun z => ndm.2.2 a z a (List.mem_append_left _ x) rfl, fun z => (List.nodup_append.mp ndm.2.1).2.2 a x a z rfl⟩
    · exact ⟨fun z => d a x (List.mem_cons_of_mem _ (List.mem_append_left _ (List.mem_append_left _ z))), fun z => d a x (List.mem_cons_of_mem _ (List.mem_append_right _ z))⟩
  · rcases List.mem_cons.mp ha with z | z
    · exact .inl (by rw [z]; exact List.mem_cons_self)
    · rcases List.mem_append.mp z with y | y
      · rcases List.mem_append.mp y with x | x
        · exact .inl (List.mem_cons_of_mem _ (List.mem_append_left _ (List.mem_append_left _ x)))
        · rcases sub2 a x with x | x
          · exact .inl (List.mem_cons_of_mem _ (hin a x))
          · exact .inr x
      · exact .inl (List.mem_cons_of_mem _ (List.mem_append_right _ y))
/-- one more item -/
theorem Rw.appO {ws : List Wv} {w : Wv} {v u : V} {f g : List Addr} (r : Rw K H G v (.o ws) f) (nd : f.Nodup) (ru : Rw K H G u w g) (ndg : g.Nodup) (d : ∀ a ∈ g, a ∉ f) :
    ∃ p xs f1, v = .ref p ∧ p ∈ f ∧ H p = some (.lst xs) ∧ xs.length = ws.length ∧ Rw K (upd H p (.lst (xs ++ [u]))) G v (.o (ws ++ [w])) f1 ∧ f1.Nodup ∧ ∀ a ∈ f1, a ∈ f ∨ a ∈ g := by
  unfold Rw at r
  obtain ⟨p, xs, f0, ev, h1, g1, ef, rs⟩ := r
  subst ef
  obtain ⟨np, nd0⟩ := List.nodup_cons.mp nd
  have npg : p ∉ g := fun h => d p h List.mem_cons_self
  refine ⟨p, xs, p :: (f0 ++ g), ev, List.mem_cons_self, h1, rs.length, ?_, List.nodup_cons.mpr ⟨fun h => (List.mem_append.mp h).elim np npg, List.nodup_append.mpr ⟨nd0, ndg, fun a ha b hb e => d b hb (by rw [← e]; exact List.mem_cons_of_mem _ ha)⟩⟩, fun a ha => ?_⟩
  · unfold Rw
    refine ⟨p, xs ++ [u], f0 ++ g, ev, upd_same, g1, rfl, Rws.append (rs.out np) ?_⟩
    unfold Rws
    exact ⟨u, [], g, [], rfl, by simp, ru.out npg, by unfold Rws; exact ⟨rfl, rfl⟩⟩
  · rcases List.mem_cons.mp ha with z | z
    · exact .inl (by rw [z]; exact List.mem_cons_self)
    · rcases List.mem_append.mp z with y | y
      · exact .inl (List.mem_cons_of_mem _ y)
      · exact .inr y
end
section
variable {X : Cx} {E : WX} {M : Nat → Bool} {e a b o i1 i2 : Expr} {es : List Expr} {f fi : ES} {g ga gb : IxF} {pos p2 apos cpos : Pos} {x : Str}
/-- x[i] as a target, x a slot's own list, i plain -/
def setW (w0 : Wv) (k : Int) (w : Wv) : Option Wv := match w0 with
  | .o ws => (ixN ws.length k).bind fun j => if j < ws.length then some (.o (ws.set j w)) else none
  | _ => none
def wAt (s : Nat) (ga : IxF) : TwF := fun w ρ => match ρ[s]?, ga ρ with
  | some (some w0), some k => (setW w0 k w).map fun w1 => ρ.set s (some w1)
  | _, _ => none
theorem set_core {K : Frg} {H G : Hp} {σ : St} {ρ : Rho} {fp : Fp} {s : Nat} {w0 w w1 : Wv} {k : Int} {u : V} {fv : List Addr} (c : Cfg K H G σ ρ fp) (e : ρ[s]? = some (some w0)) (hz : setW w0 k w = some w1) (ru : Rw K H G u w fv) (nd : fv.Nodup) (sep : ∀ a ∈ fv, ¬ Own fp a) :
    ∃ p xs j fp', σ[s]? = some (some (.ref p)) ∧ H p = some (.lst xs) ∧ ixN xs.length k = some j ∧ Cfg K (upd H p (.lst (xs.set j u))) G σ (ρ.set s (some w1)) fp' ∧ Ext (fun a => Own fp a ∨ a ∈ fv) H G (upd H p (.lst (xs.set j u))) G ∧ ∀ a, Own fp' a → Own fp a ∨ a ∈ fv := by
  obtain ⟨v, hv, r⟩ := c.get s w0 e
  cases w0 with
  | o ws =>
    unfold setW at hz
    simp only at hz
    cases zj : ixN ws.length k with
    | none => rw [zj] at hz; cases hz
    | some j =>
      rw [zj] at hz
      simp only [Option.bind_some] at hz
      split at hz
      · rename_i hj
        cases hz
        obtain ⟨p, xs, f1, ev, hp, h1, l1, r1, nd1, sub1⟩ := r.setO (c.nd s) hj ru nd fun a ha z => sep a ha ⟨s, z⟩
        obtain ⟨c1, x1, n1⟩ := c.updAt e hv hp r1 nd1 sub1 sep
        exact ⟨p, xs, j, _, by rw [hv, ev], h1, by rw [l1]; exact zj, c1, x1, n1⟩
      · cases hz
  | _ => cases hz
theorem sw_at (s : Nat) (ha : SX X a ga) (hN : X.N[s]? = some x := by rfl) (hv : Vis X.env.scope x := by first | exact Or.inl rfl | exact Or.inr (Or.inl rfl) | exact Or.inr (Or.inr rfl)) (hd : (x == ("__debug__" : Str)) = false := by decide)
    (hcd : (x == ("__classdict__" : Str)) = false := by decide)
    (hs : ∀ v, assign (.Subscript (.Name x p2) a pos) X.env v = (do
      let ov ← holding [v] (eval (.Name x p2) X.env)
      let iv ← holding [v, ov] (eval a X.env)
      standAt pos
      (holding [v, ov, iv] (setItem ov iv v))
      release [v, ov, iv] []) := by intro _; rfl) : SW' X M (.Subscript (.Name x p2) a pos) (wAt s ga) :=
  pg_sub (L2.pg_sub (pe_var hN hv hd hcd) ha set_list hs) fun v σ H Q ⟨G, ρ, fp, w, fv, ρ', c, r, nd, sep, e, q⟩ => by
    unfold wAt at e
    split at e
    · rename_i w0 k e0 ek
      cases z : setW w0 k w with
      | none => rw [z] at e; cases e
      | some w1 =>
        rw [z] at e
        cases e
        obtain ⟨p, xs, j, fp', hp, h1, hj, c1, x1, n1⟩ := set_core c e0 z r nd sep
        exact ⟨.ref p, hp, G, ρ, fp, k, c, ek, p, xs, k, j, rfl, rfl, h1, hj, q σ _ fp' c1 x1 n1 .refl⟩
    · cases e
/-- target = value, any such target -/
def sAsgW (t : TwF) (f : ES) : SSem := fun ρ => (f ρ).bind fun w r => (ofO (t w r) r).bind fun r' _ => .ok .nx r'
theorem asgW_end {K : Frg} {D : Ends} {H0 G0 H1 G1 : Hp} {fp0 fp1 : Fp} {σ : St} {r ρ' : Rho} {v : V} {w : Wv} {fv : List Addr} {t : TwF} (p : PV K H0 G0 fp0 σ r v w H1 G1 fp1 fv) (z : t w r = some ρ') (q : PokS K M D H0 G0 fp0 σ .nx ρ') : tgW K M t v σ H1 D.nx :=
  ⟨G1, r, fp1, w, fv, ρ', p.c, p.r, p.nd, p.sep, z, fun σ' H' fp' c' x' n' k' => q σ' H' G1 fp' c' ⟨⟨p.st.x.sg, (fun a o h g np => by
    obtain ⟨h1, g1⟩ := p.st.x.oth a o h g np
    refine ⟨(x'.oth a o h1 g1 fun y => ?_).1, g1⟩
    rcases y with y | y
    · rcases p.st.nw a y with y2 | y2
      · exact np y2
      · rw [h] at y2; cases y2
    · rcases p.nwv a y with y2 | y2
      · exact np y2
      · rw [h] at y2; cases y2), fun a h => p.st.x.dom a (x'.dom a h)⟩, fun a h => by
    rcases n' a h with y | y
    · exact p.st.nw a y
    · exact p.nwv a y⟩ k'⟩
theorem s1_asgW {tg : Expr} {t : TwF} (he : SE X E e f) (ht : SW' X M tg t) (hs : swapsWithSole [tg] e pos.line X.env = pure false := by rfl) (hw : swappedStores [tg] e X.env = pure none := by rfl) (h1 : (assignEach [tg] X.env).map (·.2) = [assign tg X.env] := by rfl) : S1 X E M (.Assign [tg] e pos) (sAsgW t f) :=
  ps_sub (ps_asg he ht hs hw h1) fun D σ H ⟨G, ρ, fp, c, q⟩ => ⟨G, ρ, fp, c, seqES q fun w r v H1 G1 fp1 fv p q1 => by
    cases z : t w r with
    | none => rw [z] at q1; exact q1.elim
    | some ρ' => rw [z] at q1; exact asgW_end p z q1⟩
/-- x[i][j] = e -/
def set2W (w0 : Wv) (i j : Int) (w : Wv) : Option Wv := match w0 with
  | .o ws => (ixN ws.length i).bind fun k => match ws[k]? with
    | some w2 => (setW w2 j w).map fun w3 => .o (ws.set k w3)
    | none => none
  | _ => none
def wAt2 (s : Nat) (ga gb : IxF) : TwF := fun w ρ => match ρ[s]?, ga ρ, gb ρ with
  | some (some w0), some i, some j => (set2W w0 i j w).map fun w1 => ρ.set s (some w1)
  | _, _, _ => none
theorem sw_at2 (s : Nat) (ha : SX X a ga) (hb : SX X b gb) (hN : X.N[s]? = some x := by rfl) (hv : Vis X.env.scope x := by first | exact Or.inl rfl | exact Or.inr (Or.inl rfl) | exact Or.inr (Or.inr rfl)) (hd : (x == ("__debug__" : Str)) = false := by decide)
    (hcd : (x == ("__classdict__" : Str)) = false := by decide) (hs0 : PlainIx a := by exact fun _ _ => rfl)
    (hs : ∀ v, assign (.Subscript (.Subscript (.Name x p2) a apos) b pos) X.env v = (do
      let ov ← holding [v] (eval (.Subscript (.Name x p2) a apos) X.env)
      let iv ← holding [v, ov] (eval b X.env)
      standAt pos
      (holding [v, ov, iv] (setItem ov iv v))
      release [v, ov, iv] []) := by intro _; rfl) : SW' X M (.Subscript (.Subscript (.Name x p2) a apos) b pos) (wAt2 s ga gb) :=
  pg_sub (L2.pg_sub (pe_ix ix_any (pe_var hN hv hd hcd) ha hs0) hb set_list hs) fun v σ H Q ⟨G, ρ, fp, w, fv, ρ', c, r, nd, sep, e, q⟩ => by
    unfold wAt2 at e
    split at e
    · rename_i w0 i j e0 ei ej
      cases z : set2W w0 i j w with
      | none => rw [z] at e; cases e
      | some w1 =>
        rw [z] at e
        cases e
        obtain ⟨v0, hv0, r0⟩ := c.get s w0 e0
        cases w0 with
        | o ws =>
          unfold set2W at z
          simp only at z
          cases zk : ixN ws.length i with
          | none => rw [zk] at z; cases z
          | some k =>
            rw [zk] at z
            simp only [Option.bind_some] at z
            cases zw : ws[k]? with
            | none => rw [zw] at z; cases z
            | some w2 =>
              rw [zw] at z
              simp only at z
              cases w2 with
              | o us =>
                unfold setW at z
                simp only at z
                cases zj : ixN us.length j with
                | none => rw [zj] at z; cases z
                | some l =>
                  rw [zj] at z
                  simp only [Option.bind_some] at z
                  split at z
                  · rename_i hl
                    cases z
                    obtain ⟨p, xs, p2, ys, f1, ev, h1, l1, hx, hp2, h2, l2, r1, nd1, sub1⟩ := r0.setO2 (c.nd s) zw hl r nd fun a ha z => sep a ha ⟨s, z⟩
                    obtain ⟨c1, x1, n1⟩ := c.updAt e0 hv0 hp2 r1 nd1 sub1 sep
                    refine ⟨v0, hv0, G, ρ, fp, i, c, ei, p, xs, i, .ref p2, ev, rfl, .inl (SqL.of h1), ?_, G, ρ, fp, j, c, ej, p2, ys, j, l, rfl, rfl, h2, by rw [l2]; exact zj, q σ _ _ c1 x1 n1 .refl⟩
                    unfold L2.atI
                    rw [l1, zk]
                    exact hx
                  · cases z
              | _ => cases z
        | _ => cases z
    · cases e
/-- x.append(e) -/
def sApp (s : Nat) (f : ES) : SSem := fun ρ => match ρ[s]? with
  | some (some (.o _)) => (f ρ).bind fun w r => match r[s]? with
    | some (some (.o ws)) => if ws.length < 1000000 then .ok .nx (r.set s (some (.o (ws ++ [w])))) else .bad
    | _ => .bad
  | _ => .bad
theorem s1_app (s : Nat) (he : SE X E e f) (hN : X.N[s]? = some x := by rfl) (hv : Vis X.env.scope x := by first | exact Or.inl rfl | exact Or.inr (Or.inl rfl) | exact Or.inr (Or.inr rfl)) (hd : (x == ("__debug__" : Str)) = false := by decide)
    (hcd : (x == ("__classdict__" : Str)) = false := by decide) (hbase : attributeBase (.Name x p2) "append" X.env (eval (.Name x p2) X.env) = eval (.Name x p2) X.env := by rfl)

       (hfew : ((backTo cpos (starEach [e] X.env)).all (fun (x) => !x.1) && (backToKw cpos (keywordEach [] X.env)).all (fun x => x.1.isSome)
      && decide ([e].length + ([] : List Keyword).length + (if ([] : List Keyword).isEmpty then 0 else 1) < 30)) = true := by rfl)
    (hline : (apos.endLine == cpos.line) = true := by rfl) (hse : starEach [e] X.env = (false, eval e X.env) :: starEach [] X.env := by rfl) (hplain : (backTo cpos (starEach [] X.env)).any (·.1) = false := by rfl)
    (hsw : swapsWith (.Call (.Attribute (.Name x p2) "append" apos) [e] [] cpos) none pos.line X.env = pure false := by rfl) :
    S1 X E M (.Expr (.Call (.Attribute (.Name x p2) "append" apos) [e] [] cpos) pos) (sApp s f) :=
  ps_sub (ps_expr (pe_bm PySem.F.plainAttrs_list PySem.F.slot_list_append PySem.F.type_list_append mt_append (pe_var hN hv hd hcd) (pa_cons he pa_nil hse) hbase hfew hline hse hplain) hsw) fun D σ H ⟨G, ρ, fp, c, q⟩ => by
    unfold sApp at q
    split at q
    · rename_i ws0 e0
      obtain ⟨v, hv0, r0⟩ := c.get s _ e0
      obtain ⟨p, xs0, f0, ev, h0, g0, _⟩ := (show ∃ a vs f, v = .ref a ∧ H a = some (.lst vs) ∧ G a = none ∧ fp s = a :: f ∧ Rws X.K H G vs ws0 f by unfold Rw at r0; exact r0)
      subst ev
      refine ⟨.ref p, hv0, .inl ⟨rfl, xs0, SqL.of h0⟩, G, ρ, fp, c, seqES q fun w r u H1 G1 fp1 fv pv q1 => ?_⟩
      split at q1
      · rename_i ws e1
        split at q1
        · rename_i hlen
          obtain ⟨v1, hv1, r1⟩ := pv.c.get s _ e1
          rw [hv0] at hv1
          cases hv1
          obtain ⟨p', xs, f1, ev, hp, h1, l1, r2, nd2, sub2⟩ := r1.appO (pv.c.nd s) pv.r pv.nd fun a ha z => pv.sep a ha ⟨s, z⟩
          cases ev
          obtain ⟨c1, x1, n1⟩ := pv.c.updAt e1 hv0 hp r2 nd2 sub2 pv.sep
          refine ⟨p, xs, u, rfl, rfl, h1, by rw [l1]; exact Nat.lt_of_lt_of_le hlen line6, q1 σ _ G1 _ c1 ⟨⟨pv.st.x.sg, fun a o h g np => ?_, fun a h => pv.st.x.dom a (x1.dom a h)⟩, fun a h => ?_⟩ .refl⟩
          · obtain ⟨h3, g3⟩ := pv.st.x.oth a o h g np
            refine ⟨(x1.oth a o h3 g3 fun y => ?_).1, g3⟩
            rcases y with y | y
            · rcases pv.st.nw a y with y2 | y2
              · exact np y2
              · rw [h] at y2; cases y2
            · rcases pv.nwv a y with y2 | y2
              · exact np y2
              · rw [h] at y2; cases y2
          · rcases n1 a h with y | y
            · exact pv.st.nw a y
            · exact pv.nwv a y
        · exact q1.elim
      · exact q1.elim
    · exact q.elim
end
end FW

set_option Elab.async false
set_option linter.all false
set_option maxRecDepth 100000
set_option maxHeartbeats 1000001
namespace FW
open PySem PySem.Spec L2
/-! ## defs: what they promise -/
/-- as the layer's FnOk, in places where nothing is being shown by repr -/
structure FnG (P : Program) (w : World) (K : Frg) (mg : Mg) (base : Heap) (k : Nat) (f : Addr) (fd : FuncData) (ps : List Str) (sp : Sp) : Prop where
  len : ∀ zs H Q E, sp zs H Q E → zs.length = ps.length
  run : ∀ (A : Around) (outer : List Env) (s : Shared) (H : Hp) (args : Args) (us : List Value) (vs : List V) (Q : VK) (E : XK), Room k A → A.guards = some [] → Env0 P w K mg base A outer s H → BindsTo s fd args (ps.zip us) → Vals vs us → sp vs H Q E →
    codeAny (model P w) A (.call (.ref f) args) (CR (L2.CX P w) outer P w H s Q E) s
theorem FnG.mono {P : Program} {w : World} {K : Frg} {mg : Mg} {base : Heap} {j k : Nat} {f : Addr} {fd : FuncData} {ps : List Str} {sp : Sp} (F : FnG P w K mg base j f fd ps sp) (h : j ≤ k) : FnG P w K mg base k f fd ps sp :=
  ⟨F.len, fun A outer s H args us vs Q E hr => F.run A outer s H args us vs Q E (hr.mono h)⟩
abbrev DS := List Wv → Out Wv
def spD (K : Frg) (mg : Mg) (np : Nat) (f : DS) : Sp := fun vs H Q E => ∃ G ws fv, Same G H ∧ Rws K H G vs ws fv ∧ fv.Nodup ∧ ws.length = np ∧
  ResO (fun w ρ' => ∀ v H' G' fp' fr, Cfg K H' G' (vs.map some) ρ' fp' → Ext (· ∈ fv) H G H' G' → Rw K H' G' v w fr → fr.Nodup → (∀ a ∈ fr, ¬ Own fp' a) → (∀ a, a ∈ fr ∨ Own fp' a → a ∈ fv ∨ H a = none) → Q v H')
    (fun x ρ' => ∀ cls dd H' G' fp', Cfg K H' G' (vs.map some) ρ' fp' → Ext (· ∈ fv) H G H' G' → (∀ a, Own fp' a → a ∈ fv ∨ H a = none) → XRep K mg G' H' x cls dd → E cls dd H') (f ws)
def finR (np : Nat) (M : Nat → Bool) (r : Rho) : Rho := (List.range np).map fun i => if M i = true then r.getD i none else none
def mkDef (n np : Nat) (M : Nat → Bool) (body : SSem) : DS := fun ws => if ws.length = np then (match body (ws.map some ++ List.replicate (n - np) none) with
    | .ok (.ret w) r => .ok w (finR np M r)
    | .ok .nx r => .ok (.d .none) (finR np M r)
    | .exc x r => .exc x (finR np M r)
    | _ => .bad) else .bad
section
variable {K : Frg} {H G : Hp}
/-- the parameters' values as slots -/
theorem cfg_args (sg : Same G H) : ∀ {ws : List Wv} {vs : List V} {fv : List Addr}, Rws K H G vs ws fv → fv.Nodup → ∃ fp, Cfg K H G (vs.map some) (ws.map some) fp ∧ ∀ a, Own fp a → a ∈ fv
  | [], _, _, r, _ => by
    unfold Rws at r
    obtain ⟨e1, e2⟩ := r
    subst e1 e2
    exact ⟨fun _ => [], ⟨sg, rfl, fun i w e => by simp at e, fun _ _ => rfl, fun _ => List.nodup_nil, fun _ _ _ h => nomatch h⟩, fun a ⟨_, h⟩ => nomatch h⟩
  | w :: ws, _, _, r, nd => by
    unfold Rws at r
    obtain ⟨v, vr, f, g, e1, e2, r1, r2⟩ := r
    subst e1 e2
    have nd3 := List.nodup_append.mp nd
    obtain ⟨fp, c, own⟩ := cfg_args sg r2 nd3.2.1
    refine ⟨fun i => match i with | 0 => f | i + 1 => fp i, ⟨sg, by simp [r2.length], fun i w' e => ?_, fun i h => ?_, fun i => ?_, fun i j a h1 h2 => ?_⟩, fun a h => ?_⟩
    · cases i with
      | zero =>
        simp at e
        subst e
        exact ⟨v, rfl, r1⟩
      | succ i =>
        obtain ⟨v', e3, r3⟩ := c.get i w' (by simpa using e)
        exact ⟨v', by simpa using e3, r3⟩
    · cases i with
      | zero => exact absurd rfl (h w)
      | succ i => exact c.nil i fun w' e => h w' (by simpa using e)
    · cases i with
      | zero => exact nd3.1
      | succ i => exact c.nd i
    · cases i with
      | zero =>
        cases j with
        | zero => rfl
        | succ j => exact absurd rfl (nd3.2.2 a h1 a (own a ⟨j, h2⟩))
      | succ i =>
        cases j with
        | zero => exact absurd rfl (nd3.2.2 a h2 a (own a ⟨i, h1⟩))
        | succ j => exact congrArg Nat.succ (c.dis i j a h1 h2)
    · obtain ⟨i, h⟩ := h
      cases i with
      | zero => exact List.mem_append_left _ h
      | succ i => exact List.mem_append_right _ (own a ⟨i, h⟩)
theorem Cfg.pad {σ : St} {ρ : Rho} {fp : Fp} (c : Cfg K H G σ ρ fp) (n : Nat) : Cfg K H G (σ ++ List.replicate n none) (ρ ++ List.replicate n none) fp := by
  have hout : ∀ i, ρ.length ≤ i → ∀ w, (ρ ++ List.replicate n (none : Option Wv))[i]? ≠ some (some w) := fun i hi w h => by
    rw [List.getElem?_append_right hi] at h
    have := List.mem_of_getElem? h
    rw [List.mem_replicate] at this
    cases this.2
  refine ⟨c.sg, by simp [c.len], fun i w e => ?_, fun i h => ?_, c.nd, c.dis⟩
  · by_cases hi : i < ρ.length
    · rw [List.getElem?_append_left hi] at e
      obtain ⟨v, h1, h2⟩ := c.get i w e
      exact ⟨v, by rw [List.getElem?_append_left (by rw [c.len]; exact hi)]; exact h1, h2⟩
    · exact absurd e (hout i (by omega) w)
  · refine c.nil i fun w e => h w ?_
    rw [List.getElem?_append_left (List.getElem?_eq_some_iff.mp e).1]
    exact e
/-- the parameters at the end -/
theorem Cfg.finR {σ : St} {ρ : Rho} {fp : Fp} (c : Cfg K H G σ ρ fp) {vs : List V} {M : Nat → Bool} (k : ∀ i v, M i = true → vs[i]? = some v → σ[i]? = some (some v)) :
    ∃ fp', Cfg K H G (vs.map some) (FW.finR vs.length M ρ) fp' ∧ ∀ a, Own fp' a → Own fp a := by
  refine ⟨fun i => if i < vs.length ∧ M i = true then fp i else [], ⟨c.sg, by unfold FW.finR; simp, fun i w e => ?_, fun i h => ?_, fun i => ?_, fun i j a h1 h2 => ?_⟩, fun a ⟨i, h⟩ => ?_⟩
  · unfold FW.finR at e
    by_cases hi : i < vs.length
    · rw [List.getElem?_map, List.getElem?_range hi] at e
      simp only [Option.map_some, Option.some.injEq] at e; split at e
      · rename_i hm
        rw [List.getD] at e
        cases z : ρ[i]? with
        | none => rw [z] at e; cases e
        | some y =>
          rw [z] at e
          simp only [Option.getD_some] at e
          subst e
          obtain ⟨v, h1, h2⟩ := c.get i w z
          have h3 := k i _ hm (List.getElem?_eq_getElem hi)
          rw [h1] at h3
          cases h3
          exact ⟨_, by rw [List.getElem?_map, List.getElem?_eq_getElem hi]; rfl, by rw [if_pos ⟨hi, hm⟩]; exact h2⟩
      · cases e
    · rw [List.getElem?_eq_none (by simpa using hi)] at e; cases e
  · split
    · rename_i hh
      refine c.nil i fun w e => h w ?_
      unfold FW.finR
      rw [List.getElem?_map, List.getElem?_range hh.1]
      simp [hh.2, List.getD, e]
    · rfl
  · split
    · exact c.nd i
    · exact List.nodup_nil
  · split at h1
    · split at h2
      · exact c.dis i j a h1 h2
      · cases h2
    · cases h1
  · dsimp only at h
    split at h
    · exact ⟨i, h⟩
    · cases h
end
section
variable {P : Program} {w : World} {K : Frg} {mg : Mg} {base : Heap}
theorem guards_deeper {A : Around} {env : Env} (h : A.guards = some []) : (A.deeper env).guards = some [] := h
/-- a def of the text keeps what its body promises -/
theorem fnG_body {x qual : Str} {st : Stmt} {f : Addr} {fd : FuncData} {N ps : List Str} {k : Nat} {sp : Sp} (F : Fun K x qual st f fd) (S : FnScope N ps (defScope st)) (hlen : ∀ vs H Q E, sp vs H Q E → vs.length = ps.length)
    (hb : ∀ (cdv : Value) (A : Around) (outer : List Env) (s : Shared) (H : Hp) (vs : List V) (Q : VK) (E : XK), Room k (A.deeper (PyProof.Rows.envOfC qual (defScope st) s.heap.objs.size f cdv)) → A.guards = some [] → sp vs H Q E →
      ∃ t, PSs (cxOf (L2.CX P w) P w K mg base N qual (defScope st) f cdv A outer s H E) (defBody st) t ∧ t { nx := fun _ H' => Q .non H', rt := Q } (L2.start N vs) H) : FnG P w K mg base (k + 1) f fd ps sp := by
  obtain ⟨oc, od, kV, doc, pm, an, cdv, ct, osl, rfl, lk, hcd⟩ := F.ex; refine ⟨hlen, fun A outer s H args us vs Q E hr hg e0 hbd r hsp => ?_⟩
  have hl := hlen _ _ _ _ hsp
  have kin : K.In s.heap := e0.mod.kin.keeps fun b o e => (e0.bs b o e).1
  have nol : s.heap.NoLimit := e0.mod.nolimit.keeps fun b o e => (e0.bs b o e).1
  have kinds : ∀ y ∈ ps.zip us, (defScope st).names.lookup y.1 = some .local ∨ ((defScope st).names.lookup y.1 = some .cell ∧ ((cellsFrom (s.heap.objs.size + 1) (defScope st).names []).lookup y.1).isSome = true) := by
    intro y hy
    rcases S.par y.1 (List.of_mem_zip (show (y.1, y.2) ∈ ps.zip us from hy)).1 with q | q
    · exact .inl q
    · exact .inr ⟨q, (PySem.W.cellsFrom_some _ _ _ (.inl q))⟩ 
  refine codeAny_call_function hr.depth (kin _ _ lk) rfl S.co S.gen rfl (PySem.W.codeRec_of kin hcd) (hbd _ _ _ _ ?_)
  refine wpAny_newFunctionEnv_cells S.kind kinds fun env he s1 ic => ?_
  subst he
  refine ⟨nol.keeps ic.toInCall.keep, codeAny_func ?_⟩
  obtain ⟨t, ht, hq⟩ := hb cdv A outer s H vs Q E (hr.deeper _) hg hsp
  have I : Inv (cxOf (L2.CX P w) P w K mg base N qual (defScope st) f cdv A outer s H E) [] (L2.start N vs) H s1 := inv_start S hr.hd e0 hl r ic
  refine wpAny_mono (ht.run [] s1 (L2.start N vs) H _ I hq) (fun fl s' hs => ?_) fun e s' hs => hs; cases fl with
  | ret u =>
    obtain ⟨v, σ', H', J, rv, q⟩ := hs; exact ⟨v, H', J.os, J.bare, J.base, J.hok, rv, q⟩
  | next =>
    obtain ⟨σ', H', J, q⟩ := hs
    exact ⟨V.non, H', J.os, J.bare, J.base, J.hok, rfl, q⟩
  | brk =>
    obtain ⟨_, _, _, q⟩ := hs
    exact q.elim
  | cont =>
    obtain ⟨_, _, _, q⟩ := hs
    exact q.elim
/-- .. by the meaning of its body -/
theorem fnG_of {x qual : Str} {st : Stmt} {f : Addr} {fd : FuncData} {N ps : List Str} {k : Nat} {M : Nat → Bool} {body : SSem} (F : Fun K x qual st f fd) (S : FnScope N ps (defScope st)) (hnp : ps.length ≤ N.length)
    (hb : ∀ (cdv : Value) (A : Around) (outer : List Env) (s : Shared) (H : Hp) (E : XK), Room k (A.deeper (PyProof.Rows.envOfC qual (defScope st) s.heap.objs.size f cdv)) → A.guards = some [] →
      SS (cxOf (L2.CX P w) P w K mg base N qual (defScope st) f cdv A outer s H E) (fun cls d _ H => E cls d H) M (defBody st) body) : FnG P w K mg base (k + 1) f fd ps (spD K mg ps.length (mkDef N.length ps.length M body)) := by
  refine fnG_body F S (fun vs H Q E ⟨G, ws, fv, _, r, _, hl, _⟩ => by rw [r.length]; exact hl) fun cdv A outer s H vs Q E hr hg hsp => ?_
  refine ⟨_, hb cdv A outer s H E hr hg, ?_⟩
  obtain ⟨G, ws, fv, sg, r, nd, hl, q⟩ := hsp
  obtain ⟨fp, c, own⟩ := cfg_args sg r nd
  have c0 := c.pad (N.length - ps.length)
  have hvs : vs.length = ps.length := by rw [r.length]; exact hl
  have e0 : vs.map some ++ List.replicate (N.length - ps.length) none = L2.start N vs := by unfold L2.start; rw [hvs]
  rw [e0] at c0
  refine ⟨G, _, fp, c0, ?_⟩
  unfold mkDef at q
  rw [if_pos hl] at q
  have keepP : ∀ {σ' : St}, Keep M (L2.start N vs) σ' → ∀ i v, M i = true → vs[i]? = some v → σ'[i]? = some (some v) := fun k i v hm hv => by
    rw [k.2 i hm, ← e0, List.getElem?_append_left (by rw [List.length_map]; exact (List.getElem?_eq_some_iff.mp hv).1), List.getElem?_map, hv]
    rfl
  have up : ∀ {H' G' : Hp} {fp' : Fp}, Step fp H G fp' H' G' → Ext (· ∈ fv) H G H' G' := fun s => ⟨s.x.sg, fun a o h g np => s.x.oth a o h g fun y => np (own a y), s.x.dom⟩
  cases z : body (ws.map some ++ List.replicate (N.length - ps.length) none) with
  | bad => rw [z] at q; exact q.elim
  | exc x1 ρ' =>
    rw [z] at q
    intro cls dd σ' H' G' fp' c' s' k' xr
    obtain ⟨fp2, c2, own2⟩ := c'.finR (keepP k')
    rw [hvs] at c2
    exact q cls dd H' G' fp2 c2 (up s') (fun a h => (s'.nw a (own2 a h)).imp (own a) id) xr
  | ok fl ρ' =>
    rw [z] at q
    cases fl with
    | nx =>
      intro σ' H' G' fp' c' s' k'
      obtain ⟨fp2, c2, own2⟩ := c'.finR (keepP k')
      rw [hvs] at c2
      exact q .non H' G' fp2 [] c2 (up s') (by unfold Rw; exact ⟨rfl, Dr.none⟩) List.nodup_nil (fun _ y => nomatch y) fun a h => h.elim (fun y => nomatch y) fun h => (s'.nw a (own2 a h)).imp (own a) id
    | ret w1 =>
      intro v σ' H' G' fp' fr p k'
      obtain ⟨fp2, c2, own2⟩ := p.c.finR (keepP k')
      rw [hvs] at c2
      exact q v H' G' fp2 fr c2 (up p.st) p.r p.nd (fun a ha h => p.sep a ha (own2 a h)) fun a h => h.elim (fun y => (p.nwv a y).imp (own a) id) fun h => (p.st.nw a (own2 a h)).imp (own a) id
    | bk => exact q.elim
    | ct => exact q.elim
end
end FW

set_option Elab.async false
set_option linter.all false
set_option maxRecDepth 100000
set_option maxHeartbeats 1000001
namespace FW
open PySem PySem.Spec L2
section
variable {X : Cx} {E : WX} {M : Nat → Bool} {e : Expr} {es : List Expr} {pos p p2 : Pos} {x y : Str} {k np : Nat} {f : Addr} {fd : FuncData} {ps ks : List Str} {sp : Sp} {df : DS} {aw : Rho → Out (List Wv)}
theorem run_G {pins : List (Addr × Obj)} {σ : St} {H : Hp} {s : Shared} {Q : VK} {us : List Value} {vs : List V} (F : FnG X.prog X.w X.K X.mg X.base k f fd ps sp) (hr : Room k X.A) (hgd : X.A.guards = some []) (hb : Binds X.K fd ps []) (tk : Takes X E)
    (I : Inv X pins σ H s) (r : Vals vs us) (h : sp vs H Q (fun cls d H' => E cls d σ H')) : wpAny (model X.prog X.w) X.A (call (.ref f) us) (EP X pins σ Q) X.xe s := by
  have hl : (us ++ []).length = ps.length := by rw [List.append_nil, ← r.length]; exact F.len _ _ _ _ h
  have bd := hb s us I.kIn hl
  rw [List.append_nil] at bd
  refine wpAny_call (codeAny_mono (F.run X.A X.stack s H ⟨us, []⟩ us vs Q _ hr hgd I.env0 bd r h) fun res s' hq => ?_)
  cases res with
  | error ev => exact passAt tk σ pins H s ev s' I hq
  | ok fl =>
    cases fl with
    | ret u => exact I.after hq
    | next => exact hq.elim
    | brk => exact hq.elim
    | cont => exact hq.elim
def tCallG (sp : Sp) (E : WX) (t : TA) : TE := fun σ H Q => t σ H fun vs H1 => sp vs H1 Q (fun cls d H' => E cls d σ H')
theorem pe_callG {t : TA} (F : FnG X.prog X.w X.K X.mg X.base k f fd ps sp) (hr : Room k X.A) (hgd : X.A.guards = some []) (hg : Gl X x) (hm : X.mg x = some (.ref f)) (hk : PySem.W.keepIn X.K (.ref f) = true) (hb : Binds X.K fd ps []) (tk : Takes X E)
    (ha : PA X (e :: es) t)
    (hdb : (x == ("__debug__" : Str)) = false := by decide) (he : starEach (e :: es) X.env =
      (false, eval e X.env) :: starEach es X.env := by rfl) (hpl : (backTo pos (starEach es X.env)).any (·.1) = false := by rfl) :
    PE X (.Call (.Name x p) (e :: es) [] pos) (tCallG sp E t) :=
  ⟨fun pins s σ H Q I h => wpAny_Call_Name_kw (ld_glob I hg hm (PySem.W.callWith_K (h₀ := X.base) I.ok.mod.kin hk (thn (ha.run pos pins s σ H _ I h) fun us s1 ⟨vs, H1, J, r, q⟩ => ⟨J.kIn, run_G F hr hgd hb tk J r q⟩) he hpl) hdb)⟩
theorem pe_callG0 (F : FnG X.prog X.w X.K X.mg X.base k f fd ps sp) (hr : Room k X.A) (hgd : X.A.guards = some []) (hg : Gl X x) (hm : X.mg x = some (.ref f)) (hk : PySem.W.keepIn X.K (.ref f) = true) (hb : Binds X.K fd ps []) (tk : Takes X E)
    (hdb : (x == ("__debug__" : Str)) = false := by decide) : PE X (.Call (.Name x p) [] [] pos) (tCallG sp E tNil) :=
  ⟨fun pins s σ H Q I h => wpAny_Call_Name_kw (ld_glob I hg hm (PySem.W.callWith_K0 I.kIn hk (run_G (us := []) F hr hgd hb tk I .nil h)) hdb)⟩
/-- a def of the text as callers see it -/
structure Cal (P : Program) (w : World) (K : Frg) (mg : Mg) (base : Heap) (k np : Nat) (x : Str) (df : DS) : Prop where
  ex : ∃ (f : Addr) (fd : FuncData) (ps : List Str), FnG P w K mg base k f fd ps (spD K mg np df) ∧ mg x = some (.ref f) ∧ PySem.W.keepIn K (.ref f) = true ∧ Binds K fd ps []
/-- f(e, ..): all by value -/
def sCallW (df : DS) (aw : Rho → Out (List Wv)) : ES := fun ρ => (aw ρ).bind fun ws r => match df ws with
  | .ok w _ => .ok w r
  | .exc x _ => .exc x r
  | .bad => .bad
theorem callW_core {K : Frg} {mg : Mg} {H0 G0 H1 G1 : Hp} {fp0 fp1 : Fp} {σ : St} {r : Rho} {vs : List V} {ws : List Wv} {fv : List Addr} {Q : VK} (hnp : ws.length = np) (p : PA' K H0 G0 fp0 σ r vs ws H1 G1 fp1 fv)
    (q : ResE K mg E H0 G0 fp0 σ Q (match df ws with | .ok w _ => .ok w r | .exc x _ => .exc x r | .bad => .bad)) : spD K mg np df vs H1 Q (fun cls d H' => E cls d σ H') := by
  have base : ∀ {H' G' : Hp}, Ext (· ∈ fv) H1 G1 H' G' → Same G' H' → Cfg K H' G' σ r fp1 ∧ Ext (Own fp0) H0 G0 H' G' := fun x sg => by
    refine ⟨p.c.ext x sg fun a h z => p.sep a z h, ⟨p.st.x.sg.trans x.sg, fun a o h g np => ?_, fun a h => p.st.x.dom a (x.dom a h)⟩⟩
    obtain ⟨h1, g1⟩ := p.st.x.oth a o h g np
    refine x.oth a o h1 g1 fun z => ?_
    rcases p.nwv a z with y | y
    · exact np y
    · rw [h] at y; cases y
  refine ⟨G1, ws, fv, p.c.sg, p.r, p.nd, hnp, ?_⟩
  cases z : df ws with
  | bad => rw [z] at q; exact q.elim
  | exc x1 r1 =>
    rw [z] at q
    intro cls dd H' G' fp' c' x' n' xr
    obtain ⟨c1, e1⟩ := base x' c'.sg
    exact q cls dd H' G' fp1 c1 ⟨e1, p.st.nw⟩ xr
  | ok w r1 =>
    rw [z] at q
    intro v H' G' fp' fr c' x' rv nd sep n'
    obtain ⟨c1, e1⟩ := base x' c'.sg
    refine q v H' G' fp1 fr ⟨c1, ⟨e1, p.st.nw⟩, rv, nd, fun a ha h => ?_, fun a ha => ?_⟩
    · rcases n' a (.inl ha) with y | y
      · exact p.sep a y h
      · obtain ⟨_, h1, _⟩ := p.c.own h
        rw [h1] at y; cases y
    · rcases n' a (.inl ha) with y | y
      · exact p.nwv a y
      · exact .inr (p.st.x.dom a y)
theorem se_callW (C : Cal X.prog X.w X.K X.mg X.base k np x df) (hr : Room k X.A) (hgd : X.A.guards = some []) (tk : Takes X E) (ha : SAW X E (e :: es) aw) (hlen : ∀ ρ ws r, aw ρ = .ok ws r → ws.length = np) (hg : Gl X x := by rfl)
    (hdb : (x == ("__debug__" : Str)) = false := by decide) (he : starEach (e :: es) X.env =
      (false, eval e X.env) :: starEach es X.env := by rfl) (hpl : (backTo pos (starEach es X.env)).any (·.1) = false := by rfl) : SE X E (.Call (.Name x p) (e :: es) [] pos) (sCallW df aw) := by
  obtain ⟨f, fd, ps, F, hm, hk, hb⟩ := C.ex
  exact pe_sub (pe_callG F hr hgd hg hm hk hb tk ha hdb he hpl) fun σ H Q ⟨G, ρ, fp, c, q⟩ => ⟨G, ρ, fp, c, by
    unfold sCallW at q
    cases z : aw ρ with
    | bad => rw [z] at q; exact q.elim
    | exc x1 r1 => rw [z] at q; exact q
    | ok ws r =>
      rw [z] at q
      exact fun vs H1 G1 fp1 fv pa => callW_core (hlen ρ ws r z) pa q⟩
theorem wlen_nil {ρ : Rho} {ws : List Wv} {r : Rho} (h : wNil ρ = .ok ws r) : ws.length = 0 := by cases h; rfl
theorem wlen_cons {f : ES} {fs : Rho → Out (List Wv)} {n : Nat} (h : ∀ ρ ws r, fs ρ = .ok ws r → ws.length = n) : ∀ ρ ws r, wCons f fs ρ = .ok ws r → ws.length = n + 1 := fun ρ ws r e => by
  unfold wCons at e
  cases z : f ρ with
  | bad => rw [z] at e; cases e
  | exc _ _ => rw [z] at e; cases e
  | ok w r1 =>
    rw [z] at e
    simp only [Out.bind_ok] at e
    cases z2 : fs r1 with
    | bad => rw [z2] at e; cases e
    | exc _ _ => rw [z2] at e; cases e
    | ok us r2 =>
      rw [z2] at e
      have hl := h r1 us r2 z2
      cases e
      rw [List.length_cons, hl]
/-- f(x, e, ..): x a slot, handed on as it is -/
def sCallA (df : DS) (s : Nat) (aw : Rho → Out (List Wv)) : ES := fun ρ => match ρ[s]? with
  | some (some _) => (aw ρ).bind fun ws r => match r[s]? with
    | some (some w0) => (match df (w0 :: ws) with
      | .ok w rp => .ok w (r.set s (rp.getD 0 none))
      | .exc x rp => .exc x (r.set s (rp.getD 0 none))
      | .bad => .bad)
    | _ => .bad
  | _ => .bad
theorem callA_core {K : Frg} {mg : Mg} {H0 G0 H1 G1 : Hp} {fp0 fp1 : Fp} {σ : St} {r : Rho} {v0 : V} {w0 : Wv} {s : Nat} {vs : List V} {ws : List Wv} {fv : List Addr} {Q : VK} (hnp : ws.length + 1 = np) (p : PA' K H0 G0 fp0 σ r vs ws H1 G1 fp1 fv) (hs : r[s]? = some (some w0)) (hv : σ[s]? = some (some v0))
    (q : ResE K mg E H0 G0 fp0 σ Q (match df (w0 :: ws) with | .ok w rp => .ok w (r.set s (rp.getD 0 none)) | .exc x rp => .exc x (r.set s (rp.getD 0 none)) | .bad => .bad)) : spD K mg np df (v0 :: vs) H1 Q (fun cls d H' => E cls d σ H') := by
  obtain ⟨v1, hv1, r0⟩ := p.c.get s w0 hs
  rw [hv] at hv1
  cases hv1
  have hsl : s < r.length := (List.getElem?_eq_some_iff.mp hs).1
  have sepv : ∀ a ∈ fv, a ∉ fp1 s := fun a ha h => p.sep a ha ⟨s, h⟩
  have after : ∀ {H' G' : Hp} {rp : Rho} {fp' : Fp}, Cfg K H' G' ((v0 :: vs).map some) rp fp' → Ext (· ∈ fp1 s ++ fv) H1 G1 H' G' → (∀ a, Own fp' a → a ∈ fp1 s ++ fv ∨ H1 a = none) →
      Cfg K H' G' σ (r.set s (rp.getD 0 none)) (upF fp1 s (fp' 0)) ∧ Step fp0 H0 G0 (upF fp1 s (fp' 0)) H' G' := fun {H' G' rp fp'} c' x' n' => by
    have c1 : Cfg K H1 G1 (σ.set s (some v0)) (r.set s none) (upF fp1 s []) := p.c.put (fun w e => nomatch e) (fun _ => rfl) List.nodup_nil (fun _ z => nomatch z) hsl
    rw [set_same hv] at c1
    have c2 := c1.ext x' c'.sg fun a h z => by
      rcases h.up with y | ⟨j, hj, y⟩
      · cases y
      · rcases List.mem_append.mp z with y2 | y2
        · exact hj (p.c.dis j s a y y2)
        · exact p.sep a y2 ⟨j, y⟩
    have c3 := c2.put (i := s) (x := some v0) (y := rp.getD 0 none) (f := fp' 0) (fun w e => by
      have e2 : rp[0]? = some (some w) := by
        rw [List.getD] at e
        cases z : rp[0]? with
        | none => rw [z] at e; cases e
        | some y => rw [z] at e; simp at e; rw [e]
      obtain ⟨v, h1, h2⟩ := c'.get 0 w e2
      simp at h1
      subst h1
      exact ⟨v0, rfl, h2⟩) (fun e => c'.nil 0 fun w z => by
        rw [List.getD, z] at e; cases e) (c'.nd 0) (fun a ha j hj z => by
      rw [upF_ne hj] at z
      rcases n' a ⟨0, ha⟩ with y | y
      · rcases List.mem_append.mp y with y2 | y2
        · exact hj (p.c.dis j s a z y2)
        · exact p.sep a y2 ⟨j, z⟩
      · obtain ⟨_, h1, _⟩ := p.c.own ⟨j, z⟩
        rw [h1] at y; cases y) (by simpa using hsl)
    rw [set_set, set_same hv] at c3
    have ef : upF (upF fp1 s []) s (fp' 0) = upF fp1 s (fp' 0) := by
      funext j
      by_cases h : j = s
      · rw [h, upF_same, upF_same]
      · rw [upF_ne h, upF_ne h, upF_ne h]
    rw [ef] at c3
    refine ⟨c3, ⟨⟨p.st.x.sg.trans x'.sg, fun a o h g np => ?_, fun a h => p.st.x.dom a (x'.dom a h)⟩, fun a h => ?_⟩⟩
    · obtain ⟨h1, g1⟩ := p.st.x.oth a o h g np
      refine x'.oth a o h1 g1 fun z => ?_
      rcases List.mem_append.mp z with y | y
      · rcases p.st.nw a ⟨s, y⟩ with y2 | y2
        · exact np y2
        · rw [h] at y2; cases y2
      · rcases p.nwv a y with y2 | y2
        · exact np y2
        · rw [h] at y2; cases y2
    · rcases h.up with y | ⟨j, _, y⟩
      · rcases n' a ⟨0, y⟩ with y2 | y2
        · rcases List.mem_append.mp y2 with y3 | y3
          · exact p.st.nw a ⟨s, y3⟩
          · exact p.nwv a y3
        · exact .inr (p.st.x.dom a y2)
      · exact p.st.nw a ⟨j, y⟩
  refine ⟨G1, w0 :: ws, fp1 s ++ fv, p.c.sg, by unfold Rws; exact ⟨v0, vs, fp1 s, fv, rfl, rfl, r0, p.r⟩, List.nodup_append.mpr ⟨p.c.nd s, p.nd, fun a ha b hb e => sepv b hb (e ▸ ha)⟩, by rw [List.length_cons]; exact hnp, ?_⟩
  cases z : df (w0 :: ws) with
  | bad => rw [z] at q; exact q.elim
  | exc x1 r1 =>
    rw [z] at q
    intro cls dd H' G' fp' c' x' n' xr
    obtain ⟨c1, s1⟩ := after c' x' n'
    exact q cls dd H' G' _ c1 s1 xr
  | ok w r1 =>
    rw [z] at q
    intro v H' G' fp' fr c' x' rv nd sep n'
    obtain ⟨c1, s1⟩ := after c' x' fun a h => n' a (.inr h)
    refine q v H' G' _ fr ⟨c1, s1, rv, nd, fun a ha h => ?_, fun a ha => ?_⟩
    · rcases h.up with y | ⟨j, hj, y⟩
      · exact sep a ha ⟨0, y⟩
      · rcases n' a (.inl ha) with y2 | y2
        · rcases List.mem_append.mp y2 with y3 | y3
          · exact hj (p.c.dis j s a y y3)
          · exact p.sep a y3 ⟨j, y⟩
        · obtain ⟨_, h1, _⟩ := p.c.own ⟨j, y⟩
          rw [h1] at y2; cases y2
    · rcases n' a (.inl ha) with y2 | y2
      · rcases List.mem_append.mp y2 with y3 | y3
        · exact p.st.nw a ⟨s, y3⟩
        · exact p.nwv a y3
      · exact .inr (p.st.x.dom a y2)
theorem se_callA (C : Cal X.prog X.w X.K X.mg X.base k np x df) (s : Nat) (hr : Room k X.A) (hgd : X.A.guards = some []) (tk : Takes X E) (ha : SAW X E es aw) (hlen : ∀ ρ ws r, aw ρ = .ok ws r → ws.length + 1 = np) (hN : X.N[s]? = some y := by rfl) (hv : Vis X.env.scope y := by first | exact Or.inl rfl | exact Or.inr (Or.inl rfl) | exact Or.inr (Or.inr rfl)) (hg : Gl X x := by rfl)
    (hdb : (x == ("__debug__" : Str)) = false := by decide) (hd2 : (y == ("__debug__" : Str)) = false := by decide) (hcd : (y == ("__classdict__" : Str)) = false := by decide)
    (he : starEach (.Name y p2 :: es) X.env = (false, eval (.Name y p2) X.env) :: starEach es X.env := by rfl) (hpl : (backTo pos (starEach es X.env)).any (·.1) = false := by rfl) : SE X E (.Call (.Name x p) (.Name y p2 :: es) [] pos) (sCallA df s aw) := by
  obtain ⟨f, fd, ps, F, hm, hk, hb⟩ := C.ex
  exact pe_sub (pe_callG F hr hgd hg hm hk hb tk (pa_cons (pe_var (i := s) hN hv hd2 hcd) ha he) hdb he hpl) fun σ H Q ⟨G, ρ, fp, c, q⟩ => by
    unfold sCallA at q
    split at q
    · rename_i w1 e1
      obtain ⟨v0, hv0, _⟩ := c.get s w1 e1
      refine ⟨v0, hv0, G, ρ, fp, c, ?_⟩
      cases z : aw ρ with
      | bad => rw [z] at q; exact q.elim
      | exc x1 r1 => rw [z] at q; exact q
      | ok ws r =>
        rw [z] at q
        intro vs H1 G1 fp1 fv pa
        have q2 : ResE X.K X.mg E H G fp σ Q (match r[s]? with | some (some w0) => (match df (w0 :: ws) with | .ok w rp => .ok w (r.set s (rp.getD 0 none)) | .exc x rp => .exc x (r.set s (rp.getD 0 none)) | .bad => .bad) | _ => .bad) := q
        split at q2
        · rename_i w0 e0
          exact callA_core (hlen ρ ws r z) pa e0 hv0 q2
        · exact q2.elim
    · exact q.elim
end
end FW

set_option Elab.async false
set_option linter.all false
set_option maxRecDepth 100000
set_option maxHeartbeats 1000001
namespace FW
open PySem PySem.Spec L2
section
variable {X : Cx} {E : WX} {M : Nat → Bool} {e a b c : Expr} {es : List Expr} {fa : ES} {pos p p2 : Pos} {x y z : Str} {k np : Nat} {f : Addr} {fd : FuncData} {ps ks : List Str} {sp : Sp} {df : DS} {aw : Rho → Out (List Wv)}
/-! ## repr of data -/
def pRepr : List D → Option Wv
  | [d] => if d.showable = true ∧ d.hasDict = false ∧ d.canLay0 = true ∧ d.depth ≤ 60 ∧ d.shown.length ≤ 1000000 then some (.d (.str d.shown)) else none
  | _ => none
theorem cr_repr (hr : Room k X.A) (hgd : X.A.guards = some []) : CallR X (.builtin "repr") (rC X.K X.mg E pRepr) := by
  intro pins s σ H vs us Q I r ⟨G, ρ, fp, σ', ds, cf, dr, q⟩
  unfold pRepr at q
  split at q
  · rename_i d
    split at q
    · rename_i h
      obtain ⟨h1, h2, h3, h4, h5⟩ := h
      obtain ⟨v, e1, hd⟩ := dr.one
      subst e1
      obtain ⟨u, rfl, ru⟩ := vals1 r; have hq : Q (.str d.shown) H := ResE.val cf Dr.str q
      have hun := hr.units
      cases d with
      | none => rw [hd.none_inv] at ru; cases ru; exact PySem.P.repr_of_none ⟨.str _, H, I.tok _, ⟨_, rfl⟩, hq⟩
      | bool b => rw [hd.bool_inv] at ru; cases ru; exact PySem.P.repr_of_bool ⟨.str _, H, I.tok _, ⟨_, rfl⟩, hq⟩
      | int i =>
        rw [hd.int_inv] at ru
        obtain ⟨t, rfl⟩ := ru
        exact PySem.P.repr_of_int (by simpa [PyData.showable] using h1) ⟨.str _, H, I.tok _, ⟨_, rfl⟩, hq⟩
      | str i =>
        rw [hd.str_inv] at ru
        obtain ⟨t, rfl⟩ := ru
        exact PySem.P.repr_of_str ⟨.str _, H, I.tok _, ⟨_, rfl⟩, hq⟩ (Nat.le_trans h5 line6)
      | list ds =>
        obtain ⟨as, rd⟩ := Dp.reads I _ v u (Dr.dp _ v h3 (cf.tr hd)) ru
        obtain ⟨a, xs, ev, _⟩ := hd.lst_inv
        subst ev
        cases ru
        exact repr_of_reads' rd h1 (fun z => by rw [h2] at z; cases z) hgd (by omega) (fun _ _ z => z) (fun h' u tk hk => ⟨.str _, H, I.kept (t' := tk) hk, ⟨_, rfl⟩, hq⟩) (Nat.le_trans h5 line6)
      | tuple ds =>
        obtain ⟨as, rd⟩ := Dp.reads I _ v u (Dr.dp _ v h3 (cf.tr hd)) ru
        obtain ⟨a, xs, ev, _⟩ := hd.tup_inv
        subst ev
        cases ru
        exact repr_of_reads' rd h1 (fun z => by rw [h2] at z; cases z) hgd (by omega) (fun _ _ z => z) (fun h' u tk hk => ⟨.str _, H, I.kept (t' := tk) hk, ⟨_, rfl⟩, hq⟩) (Nat.le_trans h5 line6)
      | dict kv => simp [PyData.hasDict] at h2
    · exact q.elim
  · exact q.elim
/-! ## x[lo:hi] of a slot that is not frozen -/
def cutW (w : Wv) (lo hi : Option Int) : Option Wv := match w with
  | .s ns => some (.o ((cutD ns lo hi).map fun i => .d (.int i)))
  | .d (.tuple ds) => some (.d (.tuple (cutD ds lo hi)))
  | .d (.list ds) => some (.o ((cutD ds lo hi).map .d))
  | _ => none
theorem cutV_map {α : Type} (f : α → V) (xs : List α) (lo hi : Option Int) : cutV (xs.map f) lo hi = (cutD xs lo hi).map f := by
  unfold cutV cutD
  rw [List.length_map, List.map_take, List.map_drop]
/-- script[:n] -/
def sCutS (s : Nat) (n : Int) : ES := fun ρ => match ρ[s]? with
  | some (some (.s ns)) => .ok (.o ((cutD ns none (some n)).map fun i => .d (.int i))) ρ
  | _ => .bad
theorem Drs.of_ints {K : Frg} {G : Hp} : ∀ ns : List Int, Drs K G (ns.map V.int) (ns.map .int)
  | [] => Drs.nil
  | n :: ns => Drs.cons Dr.int (Drs.of_ints ns)
theorem se_cutS (s : Nat) {n : Int} {j : Nat} {p1 : Pos} (hN : X.N[s]? = some x := by rfl) (hv : Vis X.env.scope x := by first | exact Or.inl rfl | exact Or.inr (Or.inl rfl) | exact Or.inr (Or.inr rfl)) (hd : (x == ("__debug__" : Str)) = false := by decide)
    (hcd : (x == ("__classdict__" : Str)) = false := by decide) : SE X E (.Subscript (.Name x p) (.Slice none (some (.Constant (.int n) j p1)) none p2) pos) (sCutS s n) :=
  pe_sub (pe_slice sl_list (pe_var hN hv hd hcd) po_none (po_some pe_int)) fun σ H Q ⟨G, ρ, fp, cf, q⟩ => by
    unfold sCutS at q
    split at q
    · rename_i ns e
      obtain ⟨v, hv, hr⟩ := cf.get s _ e
      unfold Rw at hr
      obtain ⟨_, a, ev, hq⟩ := hr
      refine ⟨v, hv, n, rfl, a, ns.map V.int, ev, cf.sg.seq hq, ?_⟩
      rw [cutV_map]
      have q' : ResE X.K X.mg E H G fp σ Q (.ok (.o (((cutD ns none (some n)).map .int).map .d)) ρ) := by rw [List.map_map]; exact q
      exact ResE.lst cf (Drs.of_ints _) q'
    · exact q.elim
/-! ## keywords alone -/
def pick {α : Type} (is : List Nat) (l : List α) : List α := is.filterMap (l[·]?)
theorem Drs.pick {K : Frg} {G : Hp} {vs : List V} {ds : List D} (h : Drs K G vs ds) : ∀ is : List Nat, Drs K G (FW.pick is vs) (FW.pick is ds)
  | [] => Drs.nil
  | i :: is => by
    unfold FW.pick
    cases e : ds[i]? with
    | none =>
      have e2 : vs[i]? = none := by rw [List.getElem?_eq_none_iff] at e ⊢; rw [h.length]; exact e
      rw [List.filterMap_cons, List.filterMap_cons]
      simp only [e, e2]
      exact h.pick is
    | some d =>
      obtain ⟨v, e2, hd⟩ := h.get e
      rw [List.filterMap_cons, List.filterMap_cons]
      simp only [e, e2]
      exact Drs.cons hd (h.pick is)
theorem vals_len {zs : List V} {ws : List Value} (h : Vals zs ws) : zs.length = ws.length := h.length
theorem vals_get : ∀ {zs : List V} {ws : List Value} {i : Nat}, Vals zs ws → (zs[i]? = none ∧ ws[i]? = none) ∨ ∃ z u, zs[i]? = some z ∧ ws[i]? = some u ∧ RelV z u
  | _, _, _, .nil => .inl ⟨rfl, rfl⟩
  | _, _, 0, .cons a r => .inr ⟨_, _, rfl, rfl, a⟩
  | _, _, i + 1, .cons a r => by simpa using vals_get (i := i) r
theorem vals_pick {zs : List V} {ws : List Value} (h : Vals zs ws) : ∀ is : List Nat, Vals (pick is zs) (pick is ws)
  | [] => .nil
  | i :: is => by
    unfold pick
    rw [List.filterMap_cons, List.filterMap_cons]
    rcases vals_get (i := i) h with ⟨e1, e2⟩ | ⟨z, u, e1, e2, r⟩
    · simp only [e1, e2]; exact vals_pick h is
    · simp only [e1, e2]; exact .cons r (vals_pick h is)
structure KB (K : Frg) (fd : FuncData) (ps ks : List Str) (is : List Nat) : Prop where
  to : ∀ (s : Shared) (ws : List Value), K.In s.heap → ws.length = ks.length → BindsTo s fd ⟨[], ks.zip ws⟩ (ps.zip (pick is ws))
structure CalK (P : Program) (w : World) (K : Frg) (mg : Mg) (base : Heap) (k np : Nat) (x : Str) (df : DS) (ks : List Str) (is : List Nat) : Prop where
  ex : ∃ (f : Addr) (fd : FuncData) (ps : List Str), FnG P w K mg base k f fd ps (spD K mg np df) ∧ mg x = some (.ref f) ∧ PySem.W.keepIn K (.ref f) = true ∧ KB K fd ps ks is
theorem pe_callKG {kws : List Keyword} {t : TA} {is : List Nat} {ww : Keyword} (F : FnG X.prog X.w X.K X.mg X.base k f fd ps sp) (hr : Room k X.A) (hgd : X.A.guards = some []) (hg : Gl X x) (hm : X.mg x = some (.ref f)) (hk : PySem.W.keepIn X.K (.ref f) = true) (hb : KB X.K fd ps ks is) (tk : Takes X E)
    (hkw : PK X (ww :: kws) t) (hall : (backToKw pos (keywordEach (ww :: kws) X.env)).all (·.1.isSome) = true := by rfl) (hks : (backToKw pos (keywordEach (ww :: kws) X.env)).filterMap (·.1) = ks := by rfl)
    (hdb : (x == ("__debug__" : Str)) = false := by decide) (hpl : ((backTo pos (starEach [] X.env)).any (·.1) || (backToKw pos (keywordEach (ww :: kws) X.env)).any (·.1.isNone)) = false := by rfl) :
    PE X (.Call (.Name x p) [] (ww :: kws) pos) (fun σ H Q => t σ H fun vs H1 => vs.length = ks.length ∧ sp (pick is vs) H1 Q (fun cls d H' => E cls d σ H')) := by
  refine ⟨fun pins s σ H Q I h => ?_⟩; refine wpAny_Call_Name_kw (ld_glob I hg hm ?_ hdb)
  refine PySem.W.callWith_KW0 (h₀ := X.base) I.ok.mod.kin hk hall (thn (hkw.run pos pins s σ H _ I h) fun ws s2 ⟨zs, H2, I2, rz, hl, q2⟩ => ⟨I2.kIn, ?_⟩) hpl
  rw [hks]
  have hz := vals_pick rz is
  have h2 : ws.length = ks.length := by rw [← rz.length]; exact hl
  refine wpAny_call (codeAny_mono (F.run X.A X.stack s2 H2 ⟨[], ks.zip ws⟩ (pick is ws) (pick is zs) Q _ hr hgd I2.env0 (hb.to s2 ws I2.kIn h2) hz q2) fun res s' hq => ?_)
  cases res with
  | error ev => exact passAt tk σ pins H2 s2 ev s' I2 hq
  | ok fl =>
    cases fl with
    | ret u => exact I2.after hq
    | next => exact hq.elim
    | brk => exact hq.elim
    | cont => exact hq.elim
def SK (X : Cx) (E : WX) (kws : List Keyword) (f : Rho → Out (List D)) : Prop := PK X kws (tA X.K X.mg E f)
theorem sk_nil : SK X E [] aNil := ⟨fun pos pins s σ H Q I ⟨G, ρ, fp, c, q⟩ => (pk_nil (X := X)).run pos pins s σ H Q I (q [] H G fp c .refl Drs.nil)⟩
theorem sk_cons {nm : Option Str} {kpos : Pos} {kws : List Keyword} {g : ES} {fs : Rho → Out (List D)} (ha : SE X E e g) (hr : SK X E kws fs) : SK X E (⟨nm, e, kpos⟩ :: kws) (aCons g fs) :=
  ⟨fun pos pins s σ H Q I ⟨G, ρ, fp, c, q⟩ => (pk_cons ha.D hr).run pos pins s σ H Q I ⟨G, ρ, fp, c, seqD q fun d r v H1 G1 fp1 c1 s1 d1 q1 =>
    ⟨G1, r, fp1, c1, seqA (ResA.rebase s1 c1.sg q1) fun ds r2 vs H2 G2 fp2 c2 s2 d2 q2 => q2 _ _ _ _ c2 s2 (Drs.cons (Dr.mono s2.x.sg d v d1) d2)⟩⟩⟩
/-- f(k = e, ..) -/
def sCallK (df : DS) (n : Nat) (is : List Nat) (aw : Rho → Out (List D)) : ES := fun ρ => (aw ρ).bind fun ds r => if ds.length = n then (match df ((pick is ds).map .d) with
  | .ok w _ => .ok w r
  | .exc x _ => .exc x r
  | .bad => .bad) else .bad
theorem se_callK {kws : List Keyword} {is : List Nat} {ww : Keyword} {aw : Rho → Out (List D)} (C : CalK X.prog X.w X.K X.mg X.base k np x df ks is) (hr : Room k X.A) (hgd : X.A.guards = some []) (tk : Takes X E) (ha : SK X E (ww :: kws) aw) (hnp : ∀ ds : List D, ds.length = ks.length → (pick is ds).length = np) (hg : Gl X x := by rfl)
    (hall : (backToKw pos (keywordEach (ww :: kws) X.env)).all (·.1.isSome) = true := by rfl) (hks : (backToKw pos (keywordEach (ww :: kws) X.env)).filterMap (·.1) = ks := by rfl)
    (hdb : (x == ("__debug__" : Str)) = false := by decide) (hpl : ((backTo pos (starEach [] X.env)).any (·.1) || (backToKw pos (keywordEach (ww :: kws) X.env)).any (·.1.isNone)) = false := by rfl) : SE X E (.Call (.Name x p) [] (ww :: kws) pos) (sCallK df ks.length is aw) := by
  obtain ⟨f, fd, ps, F, hm, hk, hb⟩ := C.ex
  exact pe_sub (pe_callKG F hr hgd hg hm hk hb tk ha hall hks hdb hpl) fun σ H Q ⟨G, ρ, fp, c, q⟩ => ⟨G, ρ, fp, c, seqA q fun ds r vs H1 G1 fp1 c1 s1 d1 q1 => by
    split at q1
    · rename_i hl
      refine ⟨by rw [d1.length]; exact hl, callW_core (fv := []) (by rw [List.length_map]; exact hnp ds hl) ⟨c1, s1, Rws.of_drs (d1.pick is), List.nodup_nil, (fun _ z => nomatch z), (fun _ z => nomatch z)⟩ q1⟩
    · exact q1.elim⟩
/-! ## code that is not reached; module constants; what a def's frame grants -/
def sBad : SSem := fun _ => .bad
theorem s1_never {st : Stmt} : S1 X E M st sBad := ps_sub ps_never fun _ _ _ ⟨_, _, _, _, q⟩ => q
def eBad : ES := fun _ => .bad
def GlobD (K : Frg) (mg : Mg) (x : Str) (d : D) : Prop := ∃ u v, mg x = some u ∧ RelV v u ∧ ∀ G, Dr K G v d
theorem se_cst {d : D} (h : GlobD X.K X.mg x d) (hg : Gl X x := by rfl) (hd : (x == ("__debug__" : Str)) = false := by decide) : SE X E (.Name x pos) (sK d) := by
  obtain ⟨u, v, hm, r, dr⟩ := h
  exact se_glob hm r dr hg hd
def m0 : Nat → Bool
  | 0 => true
  | _ => false
def mF : Nat → Bool := fun _ => false
theorem tk_EF : Takes X EF := fun u s' ⟨_, _, _, _, _, _, _, _, _, _, _, _, _, _, _, _, w⟩ => w.elim
theorem tk_def {P : Program} {w : World} {K : Frg} {mg : Mg} {base : Heap} {N : List Str} {qual : Str} {scope : Scope} {f : Addr} {cd : Value} {A : Around} {outer : List Env} {s : Shared} {H : Hp} {E : XK} : Takes (cxOf (L2.CX P w) P w K mg base N qual scope f cd A outer s H E) (fun cls d _ H => E cls d H) := takes_of rfl rfl rfl rfl
theorem ps_def {P : Program} {w : World} {K : Frg} {mg : Mg} {base : Heap} {N : List Str} {qual : Str} {scope : Scope} {f : Addr} {cd : Value} {A : Around} {outer : List Env} {s : Shared} {H : Hp} {E : XK} : PassesOwn (model P w) (A.deeper (PyProof.Rows.envOfC qual scope s.heap.objs.size f cd)) (PyProof.Rows.envOfC qual scope s.heap.objs.size f cd) (cxOf (L2.CX P w) P w K mg base N qual scope f cd A outer s H E).xe := passes_of (X := cxOf (L2.CX P w) P w K mg base N qual scope f cd A outer s H E) rfl
end
end FW

set_option Elab.async false
set_option linter.all false
set_option maxRecDepth 100000
set_option maxHeartbeats 1000001
namespace FW
open PySem PySem.Spec L2
section
variable {X : Cx} {E : WX} {M : Nat → Bool} {e a b c : Expr} {f fi : ES} {pos p2 : Pos} {x : Str}
/-- x[i] = e, i any expression -/
def sSetE (s : Nat) (fi f : ES) : SSem := fun ρ => (fz (f ρ)).bind fun d r => match r[s]? with
  | some (some _) => (fz (fi r)).bind fun i r2 => match i, r2[s]? with
    | .int k, some (some w0) => (match setW w0 k (.d d) with
      | some w1 => .ok .nx (r2.set s (some w1))
      | none => .bad)
    | _, _ => .bad
  | _ => .bad
theorem s1_setE (s : Nat) (he : SE X E e f) (hi : SE X E a fi) (hN : X.N[s]? = some x := by rfl) (hv : Vis X.env.scope x := by first | exact Or.inl rfl | exact Or.inr (Or.inl rfl) | exact Or.inr (Or.inr rfl)) (hd : (x == ("__debug__" : Str)) = false := by decide)
    (hcd : (x == ("__classdict__" : Str)) = false := by decide)
    (hg : ∀ v, assign (.Subscript (.Name x p2) a pos) X.env v = (do
      let ov ← holding [v] (eval (.Name x p2) X.env)
      let iv ← holding [v, ov] (eval a X.env)
      standAt pos
      (holding [v, ov, iv] (setItem ov iv v))
      release [v, ov, iv] []) := by intro _; rfl) {pos' : Pos} (hs : swapsWithSole [.Subscript (.Name x p2) a pos] e pos'.line X.env = pure false := by rfl) (hw : swappedStores [.Subscript (.Name x p2) a pos] e X.env = pure none := by rfl) (h1 : (assignEach [.Subscript (.Name x p2) a pos] X.env).map (·.2) = [assign (.Subscript (.Name x p2) a pos) X.env] := by rfl) :
    S1 X E M (.Assign [.Subscript (.Name x p2) a pos] e pos') (sSetE s fi f) :=
  ps_sub (ps_asg he.D (L2.pg_sub (pe_var hN hv hd hcd) hi.D set_list hg) hs hw h1) fun D σ H ⟨G, ρ, fp, c, q⟩ => ⟨G, ρ, fp, c, seqDS q fun d r v H1 G1 fp1 c1 s1 d1 q1 => by
    split at q1
    · rename_i w1 e1
      obtain ⟨vs, hvs, _⟩ := c1.get s w1 e1
      refine ⟨vs, hvs, G1, r, fp1, c1, seqDS (ResS.rebase s1 .refl c1.sg q1) fun i r2 vi H2 G2 fp2 c2 s2 d2 q2 => ?_⟩
      split at q2
      · rename_i k w0 e0
        split at q2
        · rename_i w2 z
          obtain ⟨p, xs, j, fp', hp, hh, hj, c3, x3, n3⟩ := set_core c2 e0 z (show Rw X.K H2 G2 v (.d d) [] by unfold Rw; exact ⟨rfl, Dr.mono s2.x.sg d v d1⟩) List.nodup_nil (fun _ z => nomatch z)
          rw [hvs] at hp
          cases hp
          have no : ∀ y, Own fp2 y ∨ y ∈ ([] : List Addr) → Own fp2 y := fun y h => h.elim id fun z => nomatch z
          refine ⟨p, xs, k, j, rfl, d2.int_inv, hh, hj, q2 σ _ G2 fp' c3 ⟨⟨s2.x.sg, fun y o h g np => ?_, fun y h => s2.x.dom y (x3.dom y h)⟩, fun y h => ?_⟩ .refl⟩
          · obtain ⟨h1, g1⟩ := s2.x.oth y o h g np
            refine x3.oth y o h1 g1 fun hy => ?_
            rcases s2.nw y (no y hy) with q | q
            · exact np q
            · rw [h] at q; cases q
          · exact s2.nw y (no y (n3 y h))
        · exact q2.elim
      · exact q2.elim
    · exact q1.elim⟩
/-- a slot's value with all it owns: the slot's content is known no more -/
def sMove (i : Nat) : ES := fun ρ => match ρ[i]? with
  | some (some w) => .ok w (ρ.set i none)
  | _ => .bad
theorem se_move (i : Nat) (hN : X.N[i]? = some x := by rfl) (hv : Vis X.env.scope x := by first | exact Or.inl rfl | exact Or.inr (Or.inl rfl) | exact Or.inr (Or.inr rfl)) (hd : (x == ("__debug__" : Str)) = false := by decide)
    (hcd : (x == ("__classdict__" : Str)) = false := by decide) : SE X E (.Name x pos) (sMove i) :=
  pe_sub (pe_var hN hv hd hcd) fun σ H Q ⟨G, ρ, fp, c, q⟩ => by
    unfold sMove at q
    split at q
    · rename_i w e
      obtain ⟨v, e1, r⟩ := c.get i w e
      have hi : i < ρ.length := (List.getElem?_eq_some_iff.mp e).1
      have c1 : Cfg X.K H G (σ.set i (some v)) (ρ.set i Option.none) (upF fp i []) := c.put (fun w e => nomatch e) (fun _ => rfl) List.nodup_nil (fun _ z => nomatch z) hi
      rw [set_same e1] at c1
      refine ⟨v, e1, q v H G (upF fp i []) (fp i) ⟨c1, Step.less, r, c.nd i, fun a ha h => ?_, fun a ha => .inl ⟨i, ha⟩⟩⟩
      rcases h.up with z | ⟨j, hj, z⟩
      · cases z
      · exact hj (c.dis j i a z ha)
    · exact q.elim
/-- targets = a value of data -/
def sAsgD (t : TgF) (f : ES) : SSem := fun ρ => (fz (f ρ)).bind fun d r => (ofO (t d r) r).bind fun r' _ => .ok .nx r'
theorem s1_asgD {tg : Expr} {t : TgF} (he : SE X E e f) (ht : SG X M tg t) (hs : swapsWithSole [tg] e pos.line X.env = pure false := by rfl) (hw : swappedStores [tg] e X.env = pure none := by rfl) (h1 : (assignEach [tg] X.env).map (·.2) = [assign tg X.env] := by rfl) : S1 X E M (.Assign [tg] e pos) (sAsgD t f) :=
  ps_sub (ps_asg he.D ht hs hw h1) fun D σ H ⟨G, ρ, fp, c, q⟩ => ⟨G, ρ, fp, c, seqDS q fun d r v H1 G1 fp1 c1 s1 d1 q1 => by
    cases z : t d r with
    | none => rw [z] at q1; exact q1.elim
    | some ρ' =>
      rw [z] at q1
      exact ⟨G1, r, fp1, d, ρ', c1, d1, z, fun σ' fp' c' s' k' => q1 σ' H1 G1 fp' c' (s1.trans s' c1.sg) k'⟩⟩
end
end FW
namespace FW
open PySem PySem.Spec L2
theorem room64 {k : Nat} {A : Around} (h : Room k A) : A.units + 64 < cLine := by have := h.un; omega
theorem room65 {k : Nat} {A : Around} (h : Room k A) : A.units + 65 < cLine := by have := h.un; omega
theorem bt_len : bootBuiltins "len" = some (.builtin "len") := by decide +kernel
theorem bt_int : bootBuiltins "int" = some (.type "int") := by decide +kernel
theorem bt_bool : bootBuiltins "bool" = some (.type "bool") := by decide +kernel
theorem bt_str : bootBuiltins "str" = some (.type "str") := by decide +kernel
theorem bt_tuple : bootBuiltins "tuple" = some (.type "tuple") := by decide +kernel
theorem bt_list : bootBuiltins "list" = some (.type "list") := by decide +kernel
theorem bt_dict : bootBuiltins "dict" = some (.type "dict") := by decide +kernel
theorem bt_set : bootBuiltins "set" = some (.type "set") := by decide +kernel
theorem bt_range : bootBuiltins "range" = some (.type "range") := by decide +kernel
theorem bt_all : bootBuiltins "all" = some (.builtin "all") := by decide +kernel
theorem bt_any : bootBuiltins "any" = some (.builtin "any") := by decide +kernel
theorem bt_sum : bootBuiltins "sum" = some (.builtin "sum") := by decide +kernel
theorem bt_abs : bootBuiltins "abs" = some (.builtin "abs") := by decide +kernel
theorem bt_max : bootBuiltins "max" = some (.builtin "max") := by decide +kernel
theorem bt_min : bootBuiltins "min" = some (.builtin "min") := by decide +kernel
theorem bt_repr : bootBuiltins "repr" = some (.builtin "repr") := by decide +kernel
theorem bt_isinstance : bootBuiltins "isinstance" = some (.builtin "isinstance") := by decide +kernel
theorem bt_sorted : bootBuiltins "sorted" = some (.builtin "sorted") := by decide +kernel
end FW

set_option Elab.async false
set_option linter.all false
set_option maxRecDepth 100000
set_option maxHeartbeats 1000001
namespace FW
open PySem PySem.Spec L2 PyProof.Rows 
/-! ## the end of a law -/
/-- a def that answers True on this script, run by the caller -/
theorem law_runG {P : Program} {w : World} {K : Frg} {mg mb : Mg} {k : Nat} {fa a : Addr} {fd : FuncData} {x : Str} {df : DS} {sh : Shared} {vals : List Value} {ns : List Int} {rr : Rho}
    (inK : K.In sh.heap) (nsg : sh.heap.Ns mainGlobals mg) (nsb : sh.heap.Ns builtinsNs mb) (bb : ∀ x : Str, x ≠ "__name__" → mb x = bootBuiltins x) (nl : sh.heap.NoLimit) (gz : sh.gens = #[])
    (at_a : sh.heap.get? a = some { cls := .type "list", data := .seq vals.toArray }) (ii : IntsAre vals ns) (le : ns.length ≤ sizeLine) (rm : Room k callerA)
    (F : ∀ base : Heap, K.In base → base.Ns mainGlobals mg → FnG P w K mg base k fa fd [x] (spD K mg 1 df)) (bnd : ∀ (s : Shared) (u : Value), BindsTo s fd ⟨[u], []⟩ [(x, u)])
    (ans : df [.s ns] = .ok (.d (.bool true)) rr) :
    codeAny (model P w) callerA (.call (.ref fa) ⟨[.ref a], []⟩) (fun r t => r = .ok (.ret (.bool true)) ∧ OldK sh.heap t.heap ∧ t.os = sh.os ∧ AllBare t.gens) sh := by
  have rel := vals_ints ii
  have ll := ii.length
  suffices go : ∀ T : Hp, Only T → SqL K T a (ns.map V.int) → HOk P w T sh.heap → (∀ b, T b ≠ none → b = a) → (T a ≠ none → K.lookup a = none) →
      codeAny (model P w) callerA (.call (.ref fa) ⟨[.ref a], []⟩) (fun r t => r = .ok (.ret (.bool true)) ∧ OldK sh.heap t.heap ∧ t.os = sh.os ∧ AllBare t.gens) sh by
    cases look : K.lookup a with
    | some ob =>
      have same := inK a ob look
      rw [at_a] at same
      cases same
      refine go (fun _ => none) (fun _ => .inl rfl) (.inr ⟨_, vals.toArray, _, look, rfl, rfl, rfl, ?_, by simpa using rel⟩) (fun b u z => nomatch (show (none : Option HO) = some u from z)) (fun b z => (z rfl).elim) fun z => (z rfl).elim
      rw [List.size_toArray, ll]; exact le
    | none =>
      let T : Hp := fun b => if b = a then some (.frz { cls := .type "list", data := .seq vals.toArray } (.lst (ns.map V.int))) else none
      have ta : T a = some (.frz { cls := .type "list", data := .seq vals.toArray } (.lst (ns.map V.int))) := if_pos rfl
      have tn : ∀ b, b ≠ a → T b = none := fun b n => if_neg n
      refine go T (fun b => ?_) (.inl (.inr ⟨_, ta⟩)) (fun b u z => ?_) (fun b z => ?_) fun _ => look
      · by_cases e : b = a
        · subst e; exact .inr ⟨_, _, ta⟩
        · exact .inl (tn b e)
      · by_cases e : b = a
        · subst e
          rw [ta] at z
          cases z
          exact ⟨at_a, by rw [List.length_map]; exact le, vals, _, rel, at_a⟩
        · rw [tn b e] at z; cases z
      · by_cases e : b = a
        · exact e
        · exact (z (tn b e)).elim
  intro T only seq ok single outside
  have free : ∀ b : Addr, b ≠ a → T b = none := fun b n => by
    cases q : T b with
    | none => rfl
    | some u => exact (n (single b (by rw [q]; exact Option.some_ne_none u))).elim
  have dicts : ∀ {b : Addr} {m : Str → Option Value}, sh.heap.Ns b m → (hidT sh.heap T).Ns b m := fun {b m} ⟨o, es, ep, g, d, r⟩ => by
    refine ⟨o, es, ep, hidT_get g (free b fun e => ?_), d, r⟩
    subst e
    rw [at_a] at g
    cases g
    exact nomatch (show Data.seq vals.toArray _ = Data.dict es ep from d)
  have inB : K.In (hidT sh.heap T) := fun b o l => by
    refine hidT_get (inK b o l) ?_
    cases q : T b with
    | none => rfl
    | some u =>
      have e : b = a := single b (by rw [q]; exact Option.some_ne_none u)
      subst e
      have no := outside (by rw [q]; exact Option.some_ne_none u)
      rw [no] at l; cases l
  obtain ⟨mc, c1, c2⟩ := nl
  have md : Mod K mg (hidT sh.heap T) := ⟨inB, dicts nsg, ⟨mb, dicts nsb, bb⟩, ⟨mc, dicts c1, c2⟩⟩
  have start : Env0 P w K mg (hidT sh.heap T) callerA [] sh T := ⟨rfl, md, fun b o e => of_hidT e, Nat.le_of_eq (hidT_size _ _), trivial, (fun _ z => nomatch z), ok, .of_eq gz⟩
  have prm : spD K mg 1 df [.ref a] T (fun v _ => v = .bl true) fun _ _ _ => False := by
    refine ⟨T, [.s ns], [], Same.refl T, ?_, List.nodup_nil, rfl, ?_⟩
    · unfold Rws
      refine ⟨.ref a, [], [], [], rfl, rfl, ?_, ?_⟩
      · unfold Rw; exact ⟨rfl, a, rfl, seq⟩
      · unfold Rws; exact ⟨rfl, rfl⟩
    · rw [ans]
      intro v H' G' fp' fr _ _ r _ _ _
      unfold Rw at r
      exact r.2.bool_inv
  refine codeAny_mono ((F _ inB (dicts nsg)).run callerA [] sh T ⟨[.ref a], []⟩ [.ref a] [.ref a] _ _ rm rfl start (bnd sh (.ref a)) (.cons rfl .nil) prm) fun r t got => ?_
  cases r with
  | error e =>
    obtain ⟨_, _, _, _, _, _, _, _, _, _, _, _, no⟩ := got
    exact no.elim
  | ok fl =>
    cases fl with
    | next => exact got.elim
    | brk => exact got.elim
    | cont => exact got.elim
    | ret u =>
      obtain ⟨v, T', o1, b1, un, ok', rv, ev⟩ := got
      have ev : v = .bl true := ev
      subst ev
      obtain rfl : u = Value.bool true := rv
      refine ⟨rfl, OldK.of_keep fun b o g => ?_, o1, b1⟩
      rcases only b with q | ⟨ob, xs, q⟩
      · exact un.keep b o g q (fun z => nomatch z) (fun z => nomatch z)
      · obtain ⟨g1, _⟩ := ok b _ q
        obtain ⟨g2, _⟩ := ok' b _ (un.frzs b ob _ q)
        rw [g] at g1; cases g1
        exact g2
theorem walk_G {l : PySem.W.OpenLaw} {n k : Nat} {q : Program} {loose : List Str} {XP : (Str → Option Value) → Heap → Prop} {YP : World → Heap → Prop} {d : DefRec} {K : Params → Frg} {df : DS} {x : Str}
    (most : l.most = some n) (small : n ≤ sizeLine) (plain : d.params.defaults = []) (rm : Room k callerA) (inY : ∀ (w : World) (h : Heap), YP w h → (K w.params).In h)
    (F : ∀ (w : World) (mg : Mg) (fa : Addr) (h : Heap), (K w.params).In h → h.Ns mainGlobals mg → mg d.name = some (.ref fa) →
      ∃ fd : FuncData, (∀ (s : Shared) (u : Value), BindsTo s fd ⟨[u], []⟩ [(x, u)]) ∧ ∀ base : Heap, (K w.params).In base → base.Ns mainGlobals mg → FnG l.prog w (K w.params) mg base k fa fd [x] (spD (K w.params) mg 1 df))
    (ans : ∀ ns : List Int, ns.length ≤ n → ∃ rr, df [.s ns] = .ok (.d (.bool true)) rr) : PySem.W.WalkO q loose XP YP l.row.toRowW d [] (fun f vs => PySem.call f vs) := by
  refine Att.attach_call most plain fun w t0 t1 mg mb fa o pm cd doc a vs ns G Y ho hd hcd hmg hobj hints hlen hg => ?_
  obtain ⟨fd, hb, hF⟩ := F w mg fa _ (inY w _ Y) G.T.g hmg
  obtain ⟨rr, e⟩ := ans ns hlen
  exact law_runG (inY w _ Y) G.T.g G.T.b G.T.builtins G.T.nolimit hg hobj hints (Nat.le_trans hlen small) rm hF hb e
end FW
namespace FW
open PySem PySem.Spec L2
section
variable {K : Frg} {h : Heap} {mg : Mg} {x : Str}
theorem gd_int {i : Int} {t : Tok} (X : K.In h) (G : h.Ns mainGlobals mg) (a : PySem.W.nsIn K mainGlobals x = some (some (.int i t))) : GlobD K mg x (.int i) := ⟨_, .int i, PySem.W.mg_of X G a, ⟨t, rfl⟩, fun _ => Dr.int⟩
theorem gd_str {i : Str} {t : Tok} (X : K.In h) (G : h.Ns mainGlobals mg) (a : PySem.W.nsIn K mainGlobals x = some (some (.str i t))) : GlobD K mg x (.str i) := ⟨_, .str i, PySem.W.mg_of X G a, ⟨t, rfl⟩, fun _ => Dr.str⟩
theorem gd_two {f : Addr} {i j : Int} {t u : Tok} {n : Nat} {dd : Option Addr} {sl : Array (Option Value)} (X : K.In h) (G : h.Ns mainGlobals mg) (a : PySem.W.nsIn K mainGlobals x = some (some (.ref f))) (l : K.lookup f = some ⟨.type "tuple", dd, .seq #[.int i t, .int j u] n, sl⟩) : GlobD K mg x (.tuple [.int i, .int j]) :=
  ⟨_, .ref f, PySem.W.mg_of X G a, rfl, fun _ => Dr.tup (xs := [.int i, .int j]) (.inr ⟨_, _, _, l, rfl, rfl, (by rw [sizeLine_eq]; show 2 ≤ _; decide), .cons ⟨t, rfl⟩ (.cons ⟨u, rfl⟩ .nil)⟩) (Drs.cons Dr.int (Drs.cons Dr.int Drs.nil))⟩
end
end FW

set_option Elab.async false
set_option linter.all false
set_option maxRecDepth 100000
set_option maxHeartbeats 1000001
namespace FW
open PySem PySem.Spec L2
section
variable {X : Cx} {E : WX} {M : Nat → Bool} {e a b c : Expr} {f fi : ES} {pos p2 : Pos} {x : Str}
/-! ## dicts as data -/
theorem ResE.dct {K : Frg} {mg : Mg} {H G : Hp} {σ : St} {ρ : Rho} {fp : Fp} {Q : VK} {ks : List (Key × V)} {kvs : List (D × D)} (c : Cfg K H G σ ρ fp) (dr : Drk K G ks kvs) (h : ResE K mg E H G fp σ Q (.ok (.d (.dict kvs)) ρ)) (p : Addr) (hp : H p = none) : Q (.ref p) (upd H p (.dK ks)) := by
  have gp : G p = none := by
    cases e : G p with
    | none => rfl
    | some o => rw [c.sg p o e] at hp; cases hp
  have ne : ∀ a u, H a = some u → a ≠ p := fun a u h e => by rw [e, hp] at h; cases h
  have sg1 : Same G (upd G p (.dK ks)) := fun a u q => by rw [upd_ne (ne a u (c.sg a u q))]; exact q
  refine h (.ref p) (upd H p (.dK ks)) (upd G p (.dK ks)) fp [] ⟨c.grow (fun a u q => ?_) sg1 fun a q => ?_, ⟨⟨sg1, fun a u q g _ => ?_, fun a q => ?_⟩, fun _ z => .inl z⟩, ?_, List.nodup_nil, (fun _ z => nomatch z), (fun _ z => nomatch z)⟩
  · by_cases e : a = p
    · subst e; rw [upd_same] at q ⊢; exact q
    · rw [upd_ne e] at q ⊢; exact c.sg a u q
  · obtain ⟨ws, h1, h2⟩ := c.own q
    have e := ne a _ h1
    rw [upd_ne e, upd_ne e]
    exact ⟨rfl, h2⟩
  · have e := ne a u q
    rw [upd_ne e, upd_ne e]
    exact ⟨q, g⟩
  · by_cases e : a = p
    · rw [e]; exact hp
    · rw [upd_ne e] at q; exact q
  · unfold Rw
    refine ⟨rfl, ?_⟩
    unfold Dr
    exact ⟨p, ks, rfl, upd_same, Drk.mono sg1 kvs ks dr⟩
theorem se_dict0 : SE X E (.Dict [] [] pos) (sK (.dict [])) := pe_sub pe_dnewK fun σ H Q ⟨G, ρ, fp, c, q⟩ => fun p hp => ResE.dct c (by unfold Drk; rfl) q p hp
theorem upd2 {H : Hp} {p : Addr} {o o' : HO} : upd (upd H p o) p o' = upd H p o' := by
  funext b
  by_cases h : b = p
  · subst h; rw [upd_same, upd_same]
  · rw [upd_ne h, upd_ne h, upd_ne h]
theorem se_dict1 {z : Str} {i : Int} {j k : Nat} {p1 p2 : Pos} : SE X E (.Dict [some (.Constant (.str z) j p1)] [.Constant (.int i) k p2] pos) (sK (.dict [(.str z, .int i)])) :=
  pe_sub (pe_disp (pps_cons pe_str pe_int pps_nil) rfl rfl (fun z => nomatch z) (show 1 ≤ 15 by decide)) fun σ H Q ⟨G, ρ, fp, c, q⟩ => fun p hp => by
    refine ⟨upd_same, [(.inr z, .int i)], rfl, (show 1 ≤ 15 by decide), ?_⟩
    rw [upd2]
    exact ResE.dct c (by unfold Drk; exact ⟨.inr z, .int i, [], rfl, rfl, Dr.int, by unfold Drk; rfl⟩) q p hp
/-! ## x, y, z = a, b, c for plain locals -/
theorem s1_par3 {i j l : Nat} {y z : Str} {px py pz pt p3 : Pos} {k1 k2 : Nat} {aw : Rho → Out (List Wv)} (hc : X.calm = true) (ha : SAW X E [a, b, c] aw) (hN : X.N.Nodup) (hij : i ≠ j := by decide) (hil : i ≠ l := by decide) (hjl : j ≠ l := by decide) (hM : M i = false := by rfl) (hM2 : M j = false := by rfl) (hM3 : M l = false := by rfl) (hi : X.N[i]? = some x := by rfl) (hj : X.N[j]? = some y := by rfl) (hl : X.N[l]? = some z := by rfl)
    (hx : X.env.scope.names.lookup x = some .local := by rfl) (hy : X.env.scope.names.lookup y = some .local := by rfl) (hz : X.env.scope.names.lookup z = some .local := by rfl)
    (hw : swappedStores [.Tuple [.Name x px, .Name y py, .Name z pz] k1 pt] (.Tuple [a, b, c] k2 p3) X.env = pure (some [x, y, z]) := by rfl)
    (hs : swapsWithSole [.Tuple [.Name x px, .Name y py, .Name z pz] k1 pt] (.Tuple [a, b, c] k2 p3) pos.line X.env = pure false := by rfl) : S1 X E M (.Assign [.Tuple [.Name x px, .Name y py, .Name z pz] k1 pt] (.Tuple [a, b, c] k2 p3) pos) (sTupW 3 (wsCons (wN i) (wsCons (wN j) (wsCons (wN l) wsNil))) aw) :=
  ps_sub (ps_par3 hc hN hi hj hl hij hil hjl hx hy hz ha hw hs) fun D σ H ⟨G, ρ, fp, c, q⟩ => ⟨G, ρ, fp, c, seqWS q fun ws r vs H1 G1 fp1 fv p q1 => by
    split at q1
    · cases z : wT 3 (wsCons (wN i) (wsCons (wN j) (wsCons (wN l) wsNil))) ws r with
      | none => rw [z] at q1; exact q1.elim
      | some ρ' =>
        rw [z] at q1
        have q1 : PokS X.K M D H G fp σ .nx ρ' := q1
        unfold wT at z
        split at z
        · rename_i hn
          match ws, hn, z, p with
          | [w1, w2, w3], _, z, p =>
            have pr := p.r
            unfold Rws at pr
            obtain ⟨v1, r1, f, g, ev, ef, k1, k2⟩ := pr
            unfold Rws at k2
            obtain ⟨v2, r2, f2, g2, ev2, ef2, k3, k4⟩ := k2
            unfold Rws at k4
            obtain ⟨v3, r3, f3, g3, ev3, ef3, k5, k6⟩ := k4
            unfold Rws at k6
            obtain ⟨e5, e6⟩ := k6
            subst e5 e6
            rw [List.append_nil] at ef3
            subst ef3 ef2 ef ev3 ev2 ev
            refine ⟨v1, v2, v3, rfl, ?_⟩
            have nd := List.nodup_append.mp p.nd
            have nd2 := List.nodup_append.mp nd.2.1
            have z' : (wN i w1 r).bind (wsCons (wN j) (wsCons (wN l) wsNil) [w2, w3]) = some ρ' := z
            unfold wN at z'
            split at z'
            · rename_i hir
              have z2 : (wN j w2 (r.set i (some w1))).bind (wsCons (wN l) wsNil [w3]) = some ρ' := z'
              unfold wN at z2
              split at z2
              · rename_i hjr
                have z3 : (wN l w3 ((r.set i (some w1)).set j (some w2))).bind (wsNil []) = some ρ' := z2
                unfold wN at z3
                split at z3
                · rename_i hlr
                  have e : ((r.set i (some w1)).set j (some w2)).set l (some w3) = ρ' := Option.some.inj z3
                  subst e
                  have c1 : Cfg X.K H1 G1 (σ.set i (some v1)) (r.set i (some w1)) (upF fp1 i f) := p.c.put (fun w' e => ⟨v1, rfl, by cases e; exact k1⟩) (fun e => nomatch e) nd.1 (fun a ha j _ h => p.sep a (List.mem_append_left _ ha) ⟨j, h⟩) hir
                  have o1 : ∀ a, Own (upF fp1 i f) a → a ∈ f ∨ Own fp1 a := fun a h => by
                    rcases h.up with y | ⟨m, _, y⟩
                    · exact .inl y
                    · exact .inr ⟨m, y⟩
                  have c2 : Cfg X.K H1 G1 ((σ.set i (some v1)).set j (some v2)) ((r.set i (some w1)).set j (some w2)) (upF (upF fp1 i f) j f2) := c1.put (fun w' e => ⟨v2, rfl, by cases e; exact k3⟩) (fun e => nomatch e) nd2.1 (fun a ha l _ h => by
                    rcases o1 a ⟨l, h⟩ with y | y
                    · exact nd.2.2 a y a (List.mem_append_left _ ha) rfl
                    · exact p.sep a (List.mem_append_right _ (List.mem_append_left _ ha)) y) hjr
                  have o2 : ∀ a, Own (upF (upF fp1 i f) j f2) a → a ∈ f2 ∨ a ∈ f ∨ Own fp1 a := fun a h => by
                    rcases h.up with y | ⟨m, _, y⟩
                    · exact .inl y
                    · exact .inr (o1 a ⟨m, y⟩)
                  have c3 : Cfg X.K H1 G1 (((σ.set i (some v1)).set j (some v2)).set l (some v3)) (((r.set i (some w1)).set j (some w2)).set l (some w3)) (upF (upF (upF fp1 i f) j f2) l g2) := c2.put (fun w' e => ⟨v3, rfl, by cases e; exact k5⟩) (fun e => nomatch e) nd2.2.1 (fun a ha l _ h => by
                    rcases o2 a ⟨l, h⟩ with y | y | y
                    · exact nd2.2.2 a y a ha rfl
                    · exact nd.2.2 a y a (List.mem_append_right _ ha) rfl
                    · exact p.sep a (List.mem_append_right _ (List.mem_append_right _ ha)) y) hlr
                  refine q1 _ H1 G1 _ c3 ⟨p.st.x, fun a h => ?_⟩ (((Keep.set hM).trans (Keep.set hM2)).trans (Keep.set hM3))
                  rcases h.up with y | ⟨m, _, y⟩
                  · exact p.nwv a (List.mem_append_right _ (List.mem_append_right _ y))
                  · rcases o2 a ⟨m, y⟩ with y | y | y
                    · exact p.nwv a (List.mem_append_right _ (List.mem_append_left _ y))
                    · exact p.nwv a (List.mem_append_left _ y)
                    · exact p.st.nw a y
                · cases z3
              · cases z2
            · cases z'
        · cases z
    · exact q1.elim⟩
end
end FW

set_option Elab.async false
set_option linter.all false
set_option maxRecDepth 100000
set_option maxHeartbeats 1000001
namespace FW
open PySem PySem.Spec L2
/-! ## what a meaning gives: o ends well, with P -/
def Gs {α : Type} (o : Out α) (P : α → Rho → Prop) : Prop := match o with
  | .ok a r => P a r
  | _ => False
@[simp] theorem Gs_ok {α : Type} {a : α} {r : Rho} {P : α → Rho → Prop} : Gs (.ok a r) P = P a r := rfl
@[simp] theorem Gs_bad {α : Type} {P : α → Rho → Prop} : Gs .bad P = False := rfl
@[simp] theorem Gs_exc {α : Type} {x : Xn} {r : Rho} {P : α → Rho → Prop} : Gs (.exc x r) P = False := rfl
@[simp] theorem Gs_bind {α β : Type} {o : Out α} {k : α → Rho → Out β} {P : β → Rho → Prop} : Gs (o.bind k) P = Gs o fun a r => Gs (k a r) P := by cases o <;> rfl
theorem Gs.mono {α : Type} {o : Out α} {P Q : α → Rho → Prop} (h : Gs o P) (f : ∀ a r, P a r → Q a r) : Gs o Q := by
  cases o with
  | ok a r => exact f a r h
  | exc _ _ => exact h
  | bad => exact h
theorem Gs.ex {α : Type} {o : Out α} {P : α → Rho → Prop} (h : Gs o P) : ∃ a r, o = .ok a r ∧ P a r := by
  cases o with
  | ok a r => exact ⟨a, r, rfl, h⟩
  | exc _ _ => exact h.elim
  | bad => exact h.elim
theorem Gs.of {α : Type} {o : Out α} {a : α} {r : Rho} {P : α → Rho → Prop} (e : o = .ok a r) (h : P a r) : Gs o P := by rw [e]; exact h
@[simp] theorem Gs_ite {α : Type} {c : Prop} [Decidable c] {a b : Out α} {P : α → Rho → Prop} : Gs (if c then a else b) P = if c then Gs a P else Gs b P := by split <;> rfl
@[simp] theorem Gs_ofO {α : Type} {o : Option α} {r : Rho} {P : α → Rho → Prop} : Gs (ofO o r) P = ∃ a, o = some a ∧ P a r := by cases o <;> simp
@[simp] theorem Gs_fz {o : Out Wv} {P : D → Rho → Prop} : Gs (fz o) P = Gs o fun w r => w.nos = true ∧ P w.dat r := by
  cases o with
  | ok w r =>
    unfold fz
    rw [Out.bind_ok]
    by_cases h : w.nos = true
    · rw [if_pos h]; simp [h]
    · rw [if_neg h]; simp [h]
  | exc _ _ => rfl
  | bad => rfl
@[simp] theorem nos_d {d : D} : (Wv.d d).nos = true := by unfold Wv.nos; rfl
@[simp] theorem dat_d {d : D} : (Wv.d d).dat = d := by unfold Wv.dat; rfl
theorem nos_o_ds {ds : List D} : (Wv.o (ds.map .d)).nos = true := by
  unfold Wv.nos
  induction ds with
  | nil => simp [Wv.noss]
  | cons d ds ih => simp [Wv.noss, ih]
theorem dat_o_ds {ds : List D} : (Wv.o (ds.map .d)).dat = .list ds := by
  unfold Wv.dat
  congr 1
  induction ds with
  | nil => simp [Wv.dats]
  | cons d ds ih => simp [Wv.dats, ih]
@[simp] theorem nos_o {ws : List Wv} : (Wv.o ws).nos = Wv.noss ws := by rw [Wv.nos]
@[simp] theorem dat_o {ws : List Wv} : (Wv.o ws).dat = .list (Wv.dats ws) := by rw [Wv.dat]
@[simp] theorem noss_nil : Wv.noss [] = true := by rw [Wv.noss]
@[simp] theorem noss_cons {w : Wv} {ws : List Wv} : Wv.noss (w :: ws) = (w.nos && Wv.noss ws) := by rw [Wv.noss]
@[simp] theorem dats_nil : Wv.dats [] = [] := by rw [Wv.dats]
@[simp] theorem dats_cons {w : Wv} {ws : List Wv} : Wv.dats (w :: ws) = w.dat :: Wv.dats ws := by rw [Wv.dats]
@[simp] theorem noss_map {ds : List D} : Wv.noss (ds.map .d) = true := by induction ds <;> simp_all
@[simp] theorem dats_map {ds : List D} : Wv.dats (ds.map .d) = ds := by induction ds <;> simp_all
@[simp] theorem noss_mapf {α : Type} {f : α → D} {ds : List α} : Wv.noss (ds.map fun x => .d (f x)) = true := by induction ds <;> simp_all
@[simp] theorem dats_mapf {α : Type} {f : α → D} {ds : List α} : Wv.dats (ds.map fun x => .d (f x)) = ds.map f := by induction ds <;> simp_all
section
variable {f fa fb fc fi : ES} {g h : Rho → Out Bool} {fs : Rho → Out (List D)} {aw : Rho → Out (List Wv)} {ρ : Rho} {P : Wv → Rho → Prop} {PB : Bool → Rho → Prop} {PD : List D → Rho → Prop} {PL : List Wv → Rho → Prop} {PF : Fl → Rho → Prop} {p : D → D → Option Wv} {i n s : Nat} {d : D}
@[simp] theorem w_sK : Gs (sK d ρ) P = P (.d d) ρ := rfl
@[simp] theorem w_sVar : Gs (sVar i ρ) P = ∃ w, ρ[i]? = some (some w) ∧ w.nos = true ∧ P (.d w.dat) (ρ.set i (some (.d w.dat))) := by
  unfold sVar
  split
  · rename_i w e; rw [Gs_ite]; simp [e]
  · rename_i h; simp; exact fun w e => (h w e).elim
@[simp] theorem w_move : Gs (sMove i ρ) P = ∃ w, ρ[i]? = some (some w) ∧ P w (ρ.set i none) := by
  unfold sMove
  split
  · rename_i w e; simp [e]
  · rename_i h; simp; exact fun w e => (h w e).elim
@[simp] theorem w_sBin : Gs (sBin p fa fb ρ) P = Gs (fa ρ) fun x r => x.nos = true ∧ Gs (fb r) fun y r => y.nos = true ∧ ∃ a, p x.dat y.dat = some a ∧ P a r := by
  unfold sBin; simp
@[simp] theorem w_sT : Gs (sT f ρ) PB = Gs (f ρ) fun x r => x.nos = true ∧ ∃ b, boolD x.dat = some b ∧ PB b r := by unfold sT; simp
@[simp] theorem w_and : Gs (tAndB g h ρ) PB = Gs (g ρ) fun b r => if b = true then Gs (h r) PB else PB false r := by unfold tAndB; simp
@[simp] theorem w_or : Gs (tOrB g h ρ) PB = Gs (g ρ) fun b r => if b = true then PB true r else Gs (h r) PB := by unfold tOrB; simp
@[simp] theorem w_not : Gs (tNotB g ρ) PB = Gs (g ρ) fun b r => PB (!b) r := by unfold tNotB; simp
@[simp] theorem w_yes : Gs (tYesB ρ) PB = PB true ρ := rfl
@[simp] theorem w_andV : Gs (sAndV fa fb ρ) P = Gs (fa ρ) fun x r => x.nos = true ∧ ∃ b, x.dat = .bool b ∧ if b = true then Gs (fb r) P else P (.d (.bool false)) r := by
  unfold sAndV
  rw [Gs_bind, Gs_fz]
  congr 1; funext x r; congr 1
  split <;> simp_all
@[simp] theorem w_orV : Gs (sOrV fa fb ρ) P = Gs (fa ρ) fun x r => x.nos = true ∧ ∃ b, x.dat = .bool b ∧ if b = true then P (.d (.bool true)) r else Gs (fb r) P := by
  unfold sOrV
  rw [Gs_bind, Gs_fz]
  congr 1; funext x r; congr 1
  split <;> simp_all
@[simp] theorem w_notV : Gs (sNotV fa ρ) P = Gs (fa ρ) fun x r => x.nos = true ∧ ∃ b, x.dat = .bool b ∧ P (.d (.bool (!b))) r := by
  unfold sNotV
  rw [Gs_bind, Gs_fz]
  congr 1; funext x r; congr 1
  split <;> simp_all
@[simp] theorem w_if : Gs (sIf g fa fb ρ) P = Gs (g ρ) fun b r => if b = true then Gs (fa r) P else Gs (fb r) P := by unfold sIf; simp
@[simp] theorem w_neg : Gs (sNeg fa ρ) P = Gs (fa ρ) fun x r => x.nos = true ∧ ∃ i, x.dat = .int i ∧ P (.d (.int (-i))) r := by
  unfold sNeg
  rw [Gs_bind, Gs_fz]
  congr 1; funext x r; congr 1
  split <;> simp_all
@[simp] theorem w_chain {p p' : Int → Int → Bool} : Gs (sChain p p' fa fb fc ρ) P = Gs (fa ρ) fun x r => x.nos = true ∧ Gs (fb r) fun y r => y.nos = true ∧ ∃ k, intB p x.dat y.dat = some k ∧ if k = true then Gs (fc r) (fun z r => z.nos = true ∧ ∃ k, intB p' y.dat z.dat = some k ∧ P (.d (.bool k)) r) else P (.d (.bool false)) r := by unfold sChain; simp
@[simp] theorem w_sTup : Gs (sTup fs ρ) P = Gs (fs ρ) fun ds r => ds.length ≤ 1000000 ∧ P (.d (.tuple ds)) r := by
  unfold sTup; simp
@[simp] theorem w_sLst : Gs (sLst fs ρ) P = Gs (fs ρ) fun ds r => ds.length ≤ 1000000 ∧ P (.o (ds.map .d)) r := by
  unfold sLst; simp
@[simp] theorem w_aNil : Gs (aNil ρ) PD = PD [] ρ := rfl
@[simp] theorem w_aCons : Gs (aCons f fs ρ) PD = Gs (f ρ) fun w r => w.nos = true ∧ Gs (fs r) fun ds r => PD (w.dat :: ds) r := by unfold aCons; simp
@[simp] theorem w_aStar : Gs (aStar f fs ρ) PD = Gs (f ρ) fun w r => w.nos = true ∧ ∃ xs, itemsD w.dat = some xs ∧ Gs (fs r) fun ds r => PD (xs ++ ds) r := by unfold aStar; simp
@[simp] theorem w_wNil : Gs (wNil ρ) PL = PL [] ρ := rfl
@[simp] theorem w_wCons : Gs (wCons f aw ρ) PL = Gs (f ρ) fun w r => Gs (aw r) fun ws r => PL (w :: ws) r := by unfold wCons; simp
@[simp] theorem w_sCall {pr : List D → Option Wv} : Gs (sCall pr fs ρ) P = Gs (fs ρ) fun ds r => ∃ a, pr ds = some a ∧ P a r := by unfold sCall; simp
@[simp] theorem w_isi {T : String} : Gs (sIsi T f ρ) P = Gs (f ρ) fun w r => w.nos = true ∧ P (.d (.bool (isiD T w.dat))) r := by unfold sIsi; simp
@[simp] theorem w_lenAt : Gs (sLenAt i ρ) P = ∃ w, ρ[i]? = some (some w) ∧ ∃ n, lenW w = some n ∧ P (.d (.int n)) ρ := by
  unfold sLenAt
  split
  · rename_i w e; simp [e]
  · rename_i h; simp; exact fun w e => (h w e).elim
@[simp] theorem w_cut {lo hi : Rho → Out (Option Int)} : Gs (sCut f lo hi ρ) P = Gs (f ρ) fun w r => w.nos = true ∧ Gs (lo r) fun l r => Gs (hi r) fun h r => ∃ a, pCut w.dat l h = some a ∧ P a r := by unfold sCut; simp
@[simp] theorem w_partN {PO : Option Int → Rho → Prop} : Gs (sPartN ρ) PO = PO none ρ := rfl
@[simp] theorem w_part {PO : Option Int → Rho → Prop} : Gs (sPart f ρ) PO = Gs (f ρ) fun w r => w.nos = true ∧ ∃ i, w.dat = .int i ∧ PO (some i) r := by
  unfold sPart
  rw [Gs_bind, Gs_fz]
  congr 1; funext x r; congr 1
  split <;> simp_all
@[simp] theorem w_callW {df : DS} : Gs (sCallW df aw ρ) P = Gs (aw ρ) fun ws r => Gs (df ws) fun w _ => P w r := by
  unfold sCallW
  rw [Gs_bind]
  congr 1; funext ws r
  split <;> simp_all
@[simp] theorem w_callK {df : DS} {is : List Nat} : Gs (sCallK df n is fs ρ) P = Gs (fs ρ) fun ds r => ds.length = n ∧ Gs (df ((pick is ds).map .d)) fun w _ => P w r := by
  unfold sCallK
  rw [Gs_bind]
  congr 1; funext ws r
  rw [Gs_ite]
  by_cases e : ws.length = n
  · rw [if_pos e]
    split <;> simp_all
  · rw [if_neg e]; simp [e]
@[simp] theorem w_callA {df : DS} : Gs (sCallA df s aw ρ) P = ∃ w1, ρ[s]? = some (some w1) ∧ Gs (aw ρ) fun ws r => ∃ w0, r[s]? = some (some w0) ∧ Gs (df (w0 :: ws)) fun w rp => P w (r.set s (rp.getD 0 none)) := by
  unfold sCallA
  split
  · rename_i w1 e
    rw [Gs_bind]
    simp only [e, Option.some.injEq, exists_eq_left']
    congr 1; funext ws r
    split
    · rename_i w0 e0
      simp only [e0, Option.some.injEq, exists_eq_left']
      split <;> simp_all
    · rename_i h; simp; exact fun w e => (h w e).elim
  · rename_i h; simp; exact fun w e => (h w e).elim
theorem ex_map {α : Type} {o : Option D} {Q : Wv → Prop} : (∃ a, o.map .d = some a ∧ Q a) = ∃ a, o = some a ∧ Q (.d a) := by cases o <;> simp
@[simp] theorem w_at : Gs (sAt s fi ρ) P = ∃ w1, ρ[s]? = some (some w1) ∧ Gs (fi ρ) fun x r => x.nos = true ∧ ∃ k, x.dat = .int k ∧ ∃ w, r[s]? = some (some w) ∧ ∃ a, (atW w k).bind datW = some a ∧ P (.d a) r := by
  unfold sAt
  split
  · rename_i w1 e
    rw [Gs_bind, Gs_fz]
    simp only [e, Option.some.injEq, exists_eq_left']
    congr 1; funext x r; congr 1
    split
    · rename_i k w e1 e2
      rw [Gs_ofO, ex_map (α := D)]
      simp only [e1, e2, PyData.int.injEq, Option.some.injEq, exists_eq_left', exists_eq_left]
    · rename_i h
      simp
      exact fun k e1 w e2 => (h k w e1 e2).elim
  · rename_i h; simp; exact fun w e => (h w e).elim
@[simp] theorem w_at2 {ga gb : IxF} : Gs (sAt2 s ga gb ρ) P = ∃ w, ρ[s]? = some (some w) ∧ ∃ i, ga ρ = some i ∧ ∃ j, gb ρ = some j ∧ ∃ a, (((atW w i).bind (atW · j)).bind datW) = some a ∧ P (.d a) ρ := by
  unfold sAt2
  split
  · rename_i w i j e1 e2 e3
    rw [Gs_ofO, ex_map (α := D)]
    simp only [e1, e2, e3, Option.some.injEq, exists_eq_left']
  · rename_i h; simp; exact fun w e1 i e2 j e3 => (h w i j e1 e2 e3).elim
@[simp] theorem w_cutS {n : Int} : Gs (sCutS s n ρ) P = ∃ ns, ρ[s]? = some (some (.s ns)) ∧ P (.o ((cutD ns none (some n)).map fun i => .d (.int i))) ρ := by
  unfold sCutS
  split
  · rename_i w e; simp [e]
  · rename_i h; simp; exact fun w e => (h w e).elim
/-! ### statements -/
variable {q1 q2 bd : SSem} {it : ISem} {t : TgF} {u : TwsF} {tw : TwF}
@[simp] theorem w_nil : Gs (sNil ρ) PF = PF .nx ρ := rfl
@[simp] theorem w_pass : Gs (sPass ρ) PF = PF .nx ρ := rfl
@[simp] theorem w_break : Gs (sBreak ρ) PF = PF .bk ρ := rfl
@[simp] theorem w_cont : Gs (sCont ρ) PF = PF .ct ρ := rfl
@[simp] theorem w_sBad : Gs (sBad ρ) PF = False := rfl
def nxt (q : SSem) (PF : Fl → Rho → Prop) : Fl → Rho → Prop := fun fl r => match fl with
  | .nx => Gs (q r) PF
  | fl => PF fl r
@[simp] theorem nxt_nx {q : SSem} : nxt q PF .nx ρ = Gs (q ρ) PF := rfl
@[simp] theorem nxt_bk {q : SSem} : nxt q PF .bk ρ = PF .bk ρ := rfl
@[simp] theorem nxt_ct {q : SSem} : nxt q PF .ct ρ = PF .ct ρ := rfl
@[simp] theorem nxt_ret {q : SSem} {w : Wv} : nxt q PF (.ret w) ρ = PF (.ret w) ρ := rfl
@[simp] theorem w_cons : Gs (sCons q1 q2 ρ) PF = Gs (q1 ρ) (nxt q2 PF) := by
  unfold sCons
  rw [Gs_bind]
  congr 1; funext fl r
  cases fl <;> rfl
@[simp] theorem w_drop : Gs (sDrop f ρ) PF = Gs (f ρ) fun _ r => PF .nx r := by unfold sDrop; simp
@[simp] theorem w_ret : Gs (sRet f ρ) PF = Gs (f ρ) fun w r => PF (.ret w) r := by unfold sRet; simp
@[simp] theorem w_retN : Gs (sRetN ρ) PF = PF (.ret (.d .none)) ρ := rfl
@[simp] theorem w_ite : Gs (sIte g q1 q2 ρ) PF = Gs (g ρ) fun b r => if b = true then Gs (q1 r) PF else Gs (q2 r) PF := by unfold sIte; simp
@[simp] theorem w_set : Gs (sSet i f ρ) PF = Gs (f ρ) fun w r => i < r.length ∧ PF .nx (r.set i (some w)) := by unfold sSet; simp
@[simp] theorem w_tupW : Gs (sTupW n u aw ρ) PF = Gs (aw ρ) fun ws r => ws.length ≤ 1000000 ∧ ∃ r', wT n u ws r = some r' ∧ PF .nx r' := by unfold sTupW; simp
@[simp] theorem w_asgW : Gs (sAsgW tw f ρ) PF = Gs (f ρ) fun w r => ∃ r', tw w r = some r' ∧ PF .nx r' := by unfold sAsgW; simp
@[simp] theorem w_asgD : Gs (sAsgD t f ρ) PF = Gs (f ρ) fun w r => w.nos = true ∧ ∃ r', t w.dat r = some r' ∧ PF .nx r' := by unfold sAsgD; simp
@[simp] theorem w_app : Gs (sApp s f ρ) PF = ∃ ws0, ρ[s]? = some (some (.o ws0)) ∧ Gs (f ρ) fun w r => ∃ ws, r[s]? = some (some (.o ws)) ∧ ws.length < 1000000 ∧ PF .nx (r.set s (some (.o (ws ++ [w])))) := by
  unfold sApp
  split
  · rename_i w1 e
    rw [Gs_bind]
    simp only [e, Option.some.injEq, Wv.o.injEq, exists_eq_left']
    congr 1; funext w r
    split
    · rename_i w0 e0
      rw [Gs_ite]
      simp [e0]
    · rename_i h; simp; exact fun w e => (h w e).elim
  · rename_i h; simp; exact fun w e => (h w e).elim
@[simp] theorem w_setE : Gs (sSetE s fi f ρ) PF = Gs (f ρ) fun w r => w.nos = true ∧ ∃ w1, r[s]? = some (some w1) ∧ Gs (fi r) fun x r2 => x.nos = true ∧ ∃ k, x.dat = .int k ∧ ∃ w0, r2[s]? = some (some w0) ∧ ∃ w2, setW w0 k (.d w.dat) = some w2 ∧ PF .nx (r2.set s (some w2)) := by
  unfold sSetE
  rw [Gs_bind, Gs_fz]
  congr 1; funext w r; congr 1
  split
  · rename_i w1 e1
    rw [Gs_bind, Gs_fz]
    simp only [e1, Option.some.injEq, exists_eq_left']
    congr 1; funext x r2; congr 1
    split
    · rename_i k w0 e2 e3
      simp only [e2, e3, PyData.int.injEq, Option.some.injEq, exists_eq_left']
      split <;> simp_all
    · rename_i h
      simp
      exact fun k e1 w e2 => (h k w e1 e2).elim
  · rename_i h; simp; exact fun w e => (h w e).elim
@[simp] theorem w_iSeq : Gs (iSeq f ρ) PD = Gs (f ρ) fun w r => w.nos = true ∧ ∃ xs, itemsD w.dat = some xs ∧ PD xs r := by unfold iSeq; simp
@[simp] theorem w_range1 : Gs (iRange1 fs ρ) PD = Gs (fs ρ) fun ds r => ∃ j, ds = [.int j] ∧ (j ≤ 1000000 ∧ -1000000 ≤ j) ∧ PD (rngD 0 j.toNat) r := by
  unfold iRange1
  rw [Gs_bind]
  congr 1; funext ds r
  split
  · rw [Gs_ite]; simp
  · rename_i h; simp; exact fun j e => (h j e).elim
def rngP (ds : List D) (k : Int → Int → Prop) : Prop := match ds with
  | [.int i, .int j] => k i j
  | _ => False
def zipP (ds : List D) (k : D → D → Prop) : Prop := match ds with
  | [i, j] => k i j
  | _ => False
@[simp] theorem rngP_e {a b : Int} {k : Int → Int → Prop} : rngP [.int a, .int b] k = k a b := rfl
@[simp] theorem zipP_e {a b : D} {k : D → D → Prop} : zipP [a, b] k = k a b := rfl
@[simp] theorem w_range2 : Gs (iRange2 fs ρ) PD = Gs (fs ρ) fun ds r => rngP ds fun i j => ((i ≤ 1000000 ∧ -1000000 ≤ i) ∧ j ≤ 1000000 ∧ -1000000 ≤ j) ∧ PD (rngD i (j - i).toNat) r := by
  unfold iRange2
  rw [Gs_bind]
  congr 1; funext ds r
  unfold rngP
  split
  · rename_i i j
    rw [Gs_ite]
    apply propext
    constructor
    · intro h
      split at h
      · rename_i c; exact ⟨c, h⟩
      · exact h.elim
    · rintro ⟨c, h⟩
      rw [if_pos c]; exact h
  · rename_i h
    first
    | rfl
    | (split
       · exact (h _ _ rfl).elim
       · rfl)
@[simp] theorem w_zip : Gs (iZip2 fs ρ) PD = Gs (fs ρ) fun ds r => zipP ds fun x y => ∃ xs, itemsD x = some xs ∧ ∃ ys, itemsD y = some ys ∧ PD (zipD xs ys) r := by
  unfold iZip2
  rw [Gs_bind]
  congr 1; funext ds r
  unfold zipP
  split
  · rename_i x y
    apply propext
    constructor
    · intro h
      split at h
      · rename_i xs ys e1 e2; exact ⟨xs, e1, ys, e2, h⟩
      · exact h.elim
    · rintro ⟨xs, e1, ys, e2, h⟩
      rw [e1, e2]; exact h
  · rename_i h
    first
    | rfl
    | (split
       · exact (h _ _ rfl).elim
       · rfl)
@[simp] theorem w_enum : Gs (iEnum1 fs ρ) PD = Gs (fs ρ) fun ds r => ∃ x, ds = [x] ∧ ∃ xs, itemsD x = some xs ∧ PD (enumD 0 xs) r := by
  unfold iEnum1
  rw [Gs_bind]
  congr 1; funext ds r
  split
  · rename_i x
    apply propext
    constructor
    · intro h
      split at h
      · rename_i xs e1; exact ⟨x, rfl, xs, e1, h⟩
      · exact h.elim
    · rintro ⟨x', e, xs, e1, h⟩
      cases e
      rw [e1]; exact h
  · rename_i h; simp; exact fun x e => (h x e).elim
@[simp] theorem w_for : Gs (sFor it t bd ρ) PF = Gs (it ρ) fun xs r => Gs (forL t bd xs r) PF := by unfold sFor; simp
theorem forL_nil : Gs (forL t bd [] ρ) PF = PF .nx ρ := rfl
theorem forL_cons {x : D} {xs : List D} : Gs (forL t bd (x :: xs) ρ) PF = ∃ ρ1, t x ρ = some ρ1 ∧ Gs (bd ρ1) fun fl r => (match fl with
  | .nx => Gs (forL t bd xs r) PF
  | .ct => Gs (forL t bd xs r) PF
  | .bk => PF .nx r
  | .ret w => PF (.ret w) r) := by
  have u : forL t bd (x :: xs) ρ = (match t x ρ with
    | none => .bad
    | some ρ1 => (bd ρ1).bind fun fl r => match fl with
      | .nx => forL t bd xs r
      | .ct => forL t bd xs r
      | .bk => .ok .nx r
      | .ret w => .ok (.ret w) r) := rfl
  rw [u]
  cases e : t x ρ with
  | none => simp
  | some ρ1 =>
    simp only [Gs_bind, Option.some.injEq, exists_eq_left']
    congr 1; funext fl r
    cases fl <;> rfl
/-- a loop with an invariant over the items that are left; it ends by its end -/
theorem for_inv {I : List D → Rho → Prop} (hend : ∀ r, I [] r → PF .nx r) (hstep : ∀ x xs r, I (x :: xs) r → ∃ r1, t x r = some r1 ∧ Gs (bd r1) fun fl r2 => (match fl with
  | .nx => I xs r2
  | .ct => I xs r2
  | .bk => PF .nx r2
  | .ret w => PF (.ret w) r2)) : ∀ (xs : List D) (r : Rho), I xs r → Gs (forL t bd xs r) PF
  | [], r, h => hend r h
  | x :: xs, r, h => by
    rw [forL_cons]
    obtain ⟨r1, e, q⟩ := hstep x xs r h
    refine ⟨r1, e, q.mono fun fl r2 k => ?_⟩
    cases fl with
    | nx => exact for_inv hend hstep xs r2 k
    | ct => exact for_inv hend hstep xs r2 k
    | bk => exact k
    | ret w => exact k
/-- range(n) -/
theorem for_rng {I : Nat → Rho → Prop} {lo : Int} {m : Nat} (hend : ∀ r, I m r → PF .nx r) (hstep : ∀ j r, j < m → I j r → ∃ r1, t (.int (lo + (j : Int))) r = some r1 ∧ Gs (bd r1) fun fl r2 => (match fl with
  | .nx => I (j + 1) r2
  | .ct => I (j + 1) r2
  | .bk => PF .nx r2
  | .ret w => PF (.ret w) r2)) {r : Rho} (h0 : I 0 r) : Gs (forL t bd (rngD lo m) r) PF := by
  have go : ∀ (k j : Nat), j + k = m → ∀ r, I j r → Gs (forL t bd ((List.range' j k).map fun (i : Nat) => .int (lo + (i : Int))) r) PF := by
    intro k
    induction k with
    | zero => intro j e r h; exact hend r (by rw [← e]; exact h)
    | succ k ih =>
      intro j e r h
      rw [List.range'_succ, List.map_cons, forL_cons]
      obtain ⟨r1, e1, q⟩ := hstep j r (by omega) h
      refine ⟨r1, e1, q.mono fun fl r2 z => ?_⟩
      cases fl with
      | nx => exact ih (j + 1) (by omega) r2 z
      | ct => exact ih (j + 1) (by omega) r2 z
      | bk => exact z
      | ret w => exact z
  have := go m 0 (by omega) r h0
  unfold rngD
  rw [List.range_eq_range']
  exact this
theorem whileL_step {m : Nat} : Gs (whileL g bd (m + 1) ρ) PF = Gs (g ρ) fun b r => if b = true then Gs (bd r) fun fl r => (match fl with
  | .nx => Gs (whileL g bd m r) PF
  | .ct => Gs (whileL g bd m r) PF
  | .bk => PF .nx r
  | .ret w => PF (.ret w) r) else PF .nx r := by
  have u : whileL g bd (m + 1) ρ = ((g ρ).bind fun b r => if b = true then (bd r).bind fun fl r => match fl with
      | .nx => whileL g bd m r
      | .ct => whileL g bd m r
      | .bk => .ok .nx r
      | .ret w => .ok (.ret w) r
    else .ok .nx r) := rfl
  rw [u, Gs_bind]
  congr 1; funext b r
  rw [Gs_ite, Gs_bind]
  congr 1; congr 1; funext fl r
  cases fl <;> rfl
/-- a while with an invariant and a measure -/
theorem while_inv {I : Nat → Rho → Prop} (hstep : ∀ m r, I m r → Gs (g r) fun b r1 => if b = true then Gs (bd r1) fun fl r2 => (match fl with
  | .nx => ∃ m', m' < m ∧ I m' r2
  | .ct => ∃ m', m' < m ∧ I m' r2
  | .bk => PF .nx r2
  | .ret w => PF (.ret w) r2) else PF .nx r1) (m : Nat) (r : Rho) (h0 : I m r) : Gs (sWhile g bd r) PF := by
  have go : ∀ (k m : Nat), m < k → ∀ r, I m r → Gs (whileL g bd k r) PF := by
    intro k
    induction k with
    | zero => intro m hm; exact absurd hm (Nat.not_lt_zero _)
    | succ k ih =>
      intro m hm r h
      rw [whileL_step]
      refine (hstep m r h).mono fun b r1 z => ?_
      by_cases hb : b = true
      · rw [if_pos hb] at z ⊢
        refine z.mono fun fl r2 y => ?_
        cases fl with
        | nx => obtain ⟨m', l, i'⟩ := y; exact ih m' (by omega) r2 i'
        | ct => obtain ⟨m', l, i'⟩ := y; exact ih m' (by omega) r2 i'
        | bk => exact y
        | ret w => exact y
      · rw [if_neg hb] at z ⊢
        exact z
  have q := go (m + 1) m (Nat.lt_succ_self m) r h0
  obtain ⟨fl, r', e, p⟩ := q.ex
  rw [sWhile_eq (m + 1) e (fun z => nomatch z)]
  exact p
/-! ### comprehensions -/
variable {tt : Rho → Out Bool} {el : ES} {vs : List Nat}
theorem Gs_nox {α : Type} {o : Out α} {Q : α → Rho → Prop} (h : Gs o Q) : Gs (nox o) Q := by cases o <;> exact h
@[simp] theorem Gs_nox_eq {α : Type} {o : Out α} {Q : α → Rho → Prop} : Gs (nox o) Q = Gs o Q := by cases o <;> rfl
@[simp] theorem w_comp : Gs (sComp vs it t tt el ρ) P = Gs (it ρ) fun xs r => xs.length ≤ 1000000 ∧ Gs (compL vs t tt el xs r) fun ws r' => P (.o ws) (restR r vs r') := by unfold sComp; simp
theorem compL_cons {x : D} {xs : List D} : Gs (compL vs t tt el (x :: xs) ρ) PL = ∃ ρ1, t x (wipeR ρ vs) = some ρ1 ∧ Gs (tt ρ1) fun b r => if b = true then Gs (el r) fun w r => Gs (compL vs t tt el xs r) fun ws r => PL (w :: ws) r else Gs (compL vs t tt el xs r) PL := by
  have u : compL vs t tt el (x :: xs) ρ = (match t x (wipeR ρ vs) with
    | none => .bad
    | some ρ1 => (nox (tt ρ1)).bind fun b r => if b = true then (nox (el r)).bind fun w r => (compL vs t tt el xs r).bind fun ws r => .ok (w :: ws) r else compL vs t tt el xs r) := rfl
  rw [u]
  cases e : t x (wipeR ρ vs) with
  | none => simp
  | some ρ1 => simp
/-- items of a comprehension, made one after the other; what is made so far and the state keep I -/
theorem comp_inv {I : List D → List Wv → Rho → Prop} (hend : ∀ acc r, I [] acc r → PL acc r) (hstep : ∀ x xs acc r, I (x :: xs) acc r → ∃ r1, t x (wipeR r vs) = some r1 ∧ Gs (tt r1) fun b r2 => if b = true then Gs (el r2) fun w r3 => I xs (acc ++ [w]) r3 else I xs acc r2) {xs : List D} {r : Rho} (h0 : I xs [] r) : Gs (compL vs t tt el xs r) PL := by
  have go : ∀ (xs : List D) (acc : List Wv) (r : Rho), I xs acc r → Gs (compL vs t tt el xs r) fun ws r' => PL (acc ++ ws) r' := by
    intro xs
    induction xs with
    | nil => intro acc r h; rw [compL]; simpa using hend acc r h
    | cons x xs ih =>
      intro acc r h
      rw [compL_cons]
      obtain ⟨r1, e1, q⟩ := hstep x xs acc r h
      refine ⟨r1, e1, q.mono fun b r2 z => ?_⟩
      cases b with
      | true =>
        rw [if_pos rfl] at z ⊢
        refine z.mono fun w r3 y => (ih (acc ++ [w]) r3 y).mono fun ws r4 p => ?_
        rw [List.append_assoc] at p
        exact p
      | false =>
        rw [if_neg (Bool.false_ne_true)] at z ⊢
        exact ih acc r2 z
  simpa using go xs [] r h0
/-- a comprehension without a test whose items are told by a function -/
theorem comp_map (F : D → D) {S : Rho → Prop} {xs : List D} {r : Rho} (h0 : S r) (hstep : ∀ x ∈ xs, ∀ r, S r → ∃ r1, t x (wipeR r vs) = some r1 ∧ Gs (tt r1) fun b r2 => b = true ∧ Gs (el r2) fun w r3 => w = .d (F x) ∧ S r3) (hend : ∀ r, S r → PL (xs.map fun x => .d (F x)) r) : Gs (compL vs t tt el xs r) PL := by
  refine comp_inv (I := fun todo acc r => S r ∧ ∃ don, don ++ todo = xs ∧ acc = don.map fun x => .d (F x)) ?_ ?_ ⟨h0, [], rfl, rfl⟩
  · rintro acc r ⟨h, don, e, rfl⟩
    rw [List.append_nil] at e
    subst e
    exact hend r h
  · rintro x todo acc r ⟨h, don, e, rfl⟩
    obtain ⟨r1, e1, q⟩ := hstep x (by rw [← e]; simp) r h
    refine ⟨r1, e1, q.mono fun b r2 z => ?_⟩
    rw [if_pos z.1]
    refine z.2.mono fun w r3 y => ⟨y.2, don ++ [x], by rw [← e]; simp, ?_⟩
    rw [y.1]; simp
/-- a comprehension with a test or not: each item has Φ -/
theorem comp_pred (Φ : Wv → Prop) {S : Rho → Prop} {xs : List D} {r : Rho} (h0 : S r) (hstep : ∀ x ∈ xs, ∀ r, S r → ∃ r1, t x (wipeR r vs) = some r1 ∧ Gs (tt r1) fun b r2 => if b = true then Gs (el r2) fun w r3 => Φ w ∧ S r3 else S r2) (hend : ∀ ws r, (∀ w ∈ ws, Φ w) → S r → PL ws r) : Gs (compL vs t tt el xs r) PL := by
  refine comp_inv (I := fun todo acc r => S r ∧ (∀ w ∈ acc, Φ w) ∧ ∀ x ∈ todo, x ∈ xs) ?_ ?_ ⟨h0, (fun _ z => nomatch z), fun _ z => z⟩
  · rintro acc r ⟨h, ha, _⟩
    exact hend acc r ha h
  · rintro x todo acc r ⟨h, ha, ht⟩
    obtain ⟨r1, e1, q⟩ := hstep x (ht x (by simp)) r h
    refine ⟨r1, e1, q.mono fun b r2 z => ?_⟩
    cases b with
    | true =>
      rw [if_pos rfl] at z ⊢
      refine z.mono fun w r3 y => ⟨y.2, fun u hu => ?_, fun u hu => ht u (by simp [hu])⟩
      rcases List.mem_append.mp hu with k | k
      · exact ha u k
      · rw [List.mem_singleton.mp k]; exact y.1
    | false =>
      rw [if_neg (Bool.false_ne_true)] at z ⊢
      exact ⟨z, ha, fun u hu => ht u (by simp [hu])⟩
variable {it1 : ISem} {t1 : TgF} {tt1 : Rho → Out Bool} {vs1 : List Nat}
@[simp] theorem w_comp2 : Gs (sComp2 vs vs1 it t tt it1 t1 tt1 el ρ) P = Gs (it ρ) fun xs r => xs.length ≤ 1000 ∧ Gs (compL2 vs vs1 t tt it1 t1 tt1 el xs r) fun ws r' => P (.o ws) (restR r vs r') := by unfold sComp2; simp
theorem compL2_cons {x : D} {xs : List D} : Gs (compL2 vs vs1 t tt it1 t1 tt1 el (x :: xs) ρ) PL = ∃ ρ1, t x (wipeR ρ vs) = some ρ1 ∧ Gs (tt ρ1) fun b r => if b = true then Gs (it1 r) fun ys r => ys.length ≤ 1000 ∧ Gs (compL vs1 t1 tt1 el ys r) fun us r => Gs (compL2 vs vs1 t tt it1 t1 tt1 el xs r) fun ws r => PL (us ++ ws) r else Gs (compL2 vs vs1 t tt it1 t1 tt1 el xs r) PL := by
  have u : compL2 vs vs1 t tt it1 t1 tt1 el (x :: xs) ρ = (match t x (wipeR ρ vs) with
    | none => .bad
    | some ρ1 => (nox (tt ρ1)).bind fun b r => if b = true then
        (nox (it1 r)).bind fun ys r => if ys.length ≤ 1000 then (compL vs1 t1 tt1 el ys r).bind fun us r => (compL2 vs vs1 t tt it1 t1 tt1 el xs r).bind fun ws r => .ok (us ++ ws) r else .bad
      else compL2 vs vs1 t tt it1 t1 tt1 el xs r) := rfl
  rw [u]
  cases e : t x (wipeR ρ vs) with
  | none => simp
  | some ρ1 => simp
theorem comp2_inv {I : List D → List Wv → Rho → Prop} (hend : ∀ acc r, I [] acc r → PL acc r) (hstep : ∀ x xs acc r, I (x :: xs) acc r → ∃ r1, t x (wipeR r vs) = some r1 ∧ Gs (tt r1) fun b r2 => if b = true then Gs (it1 r2) fun ys r3 => ys.length ≤ 1000 ∧ Gs (compL vs1 t1 tt1 el ys r3) fun us r4 => I xs (acc ++ us) r4 else I xs acc r2) {xs : List D} {r : Rho} (h0 : I xs [] r) : Gs (compL2 vs vs1 t tt it1 t1 tt1 el xs r) PL := by
  have go : ∀ (xs : List D) (acc : List Wv) (r : Rho), I xs acc r → Gs (compL2 vs vs1 t tt it1 t1 tt1 el xs r) fun ws r' => PL (acc ++ ws) r' := by
    intro xs
    induction xs with
    | nil => intro acc r h; rw [compL2]; simpa using hend acc r h
    | cons x xs ih =>
      intro acc r h
      rw [compL2_cons]
      obtain ⟨r1, e1, q⟩ := hstep x xs acc r h
      refine ⟨r1, e1, q.mono fun b r2 z => ?_⟩
      cases b with
      | true =>
        rw [if_pos rfl] at z ⊢
        refine z.mono fun ys r3 y => ⟨y.1, y.2.mono fun us r4 k => (ih (acc ++ us) r4 k).mono fun ws r5 p => ?_⟩
        rw [List.append_assoc] at p
        exact p
      | false =>
        rw [if_neg (Bool.false_ne_true)] at z ⊢
        exact ih acc r2 z
  simpa using go xs [] r h0
theorem comp2_pred (Φ : Wv → Prop) {S : Rho → Prop} {xs : List D} {r : Rho} (h0 : S r) (hstep : ∀ x ∈ xs, ∀ r, S r → ∃ r1, t x (wipeR r vs) = some r1 ∧ Gs (tt r1) fun b r2 => if b = true then Gs (it1 r2) fun ys r3 => ys.length ≤ 1000 ∧ Gs (compL vs1 t1 tt1 el ys r3) fun us r4 => (∀ w ∈ us, Φ w) ∧ S r4 else S r2) (hend : ∀ ws r, (∀ w ∈ ws, Φ w) → S r → PL ws r) : Gs (compL2 vs vs1 t tt it1 t1 tt1 el xs r) PL := by
  refine comp2_inv (I := fun todo acc r => S r ∧ (∀ w ∈ acc, Φ w) ∧ ∀ x ∈ todo, x ∈ xs) ?_ ?_ ⟨h0, (fun _ z => nomatch z), fun _ z => z⟩
  · rintro acc r ⟨h, ha, _⟩
    exact hend acc r ha h
  · rintro x todo acc r ⟨h, ha, ht⟩
    obtain ⟨r1, e1, q⟩ := hstep x (ht x (by simp)) r h
    refine ⟨r1, e1, q.mono fun b r2 z => ?_⟩
    cases b with
    | true =>
      rw [if_pos rfl] at z ⊢
      refine z.mono fun ys r3 y => ⟨y.1, y.2.mono fun us r4 k => ⟨k.2, fun u hu => ?_, fun u hu => ht u (by simp [hu])⟩⟩
      rcases List.mem_append.mp hu with e | e
      · exact ha u e
      · exact k.1 u e
    | false =>
      rw [if_neg (Bool.false_ne_true)] at z ⊢
      exact ⟨z, ha, fun u hu => ht u (by simp [hu])⟩
theorem all_true {ws : List Wv} (h : ∀ w ∈ ws, w = .d (.bool true)) : Wv.noss ws = true ∧ pAll [.list (Wv.dats ws)] = some (.d (.bool true)) := by
  have e : ws = (List.replicate ws.length (PyData.bool true)).map .d := by
    rw [List.map_replicate]
    exact List.eq_replicate_iff.mpr ⟨rfl, h⟩
  rw [e]
  refine ⟨noss_map, ?_⟩
  rw [dats_map, pAll]
  have : ∀ n : Nat, boolsD (List.replicate n (PyData.bool true)) = some (List.replicate n true) := by
    intro n
    induction n with
    | zero => rfl
    | succ n ih => rw [List.replicate_succ, boolsD, ih]; rfl
  rw [this]
  simp
theorem comp_rows {n : Nat} {F : Nat → D} (Gf : Nat → D) (S : Rho → Prop) {ρ0 : Rho} (h0 : S ρ0) (hstep : ∀ i < n, ∀ r, S r → ∃ r1, t (F i) (wipeR r vs) = some r1 ∧ Gs (el r1) fun w r3 => w = .d (Gf i) ∧ S r3)
    (hend : ∀ r, S r → PL ((List.range n).map fun i => .d (Gf i)) r) : Gs (compL vs t tYesB el ((List.range n).map F) ρ0) PL := by
  refine comp_inv (I := fun xs acc r => S r ∧ ∃ j, j ≤ n ∧ xs = ((List.range n).map F).drop j ∧ acc = (List.range j).map (fun i => .d (Gf i))) ?_ ?_ ⟨h0, 0, by omega, by simp, rfl⟩
  · rintro acc r ⟨hS, j, hj, e, rfl⟩
    have ej : j = n := by
      have := congrArg List.length e
      simp at this
      omega
    subst ej
    exact hend r hS
  · rintro x xs acc r ⟨hS, j, hj, e, rfl⟩
    have hlt : j < n := by
      have := congrArg List.length e
      simp at this
      omega
    have ex : ((List.range n).map F).drop j = F j :: ((List.range n).map F).drop (j + 1) := by
      rw [List.drop_eq_getElem_cons (by simp; omega)]
      simp
    rw [ex] at e
    cases e
    obtain ⟨r1, e1, q⟩ := hstep j hlt r hS
    refine ⟨r1, e1, ?_⟩
    rw [w_yes, if_pos rfl]
    exact q.mono fun w r3 ⟨e2, s3⟩ => ⟨s3, j + 1, by omega, by simp, by rw [e2]; simp [List.range_succ]⟩
/-! ### defs -/
def defP (np : Nat) (M : Nat → Bool) (P : Wv → Rho → Prop) : Fl → Rho → Prop := fun fl r => match fl with
  | .ret w => P w (finR np M r)
  | .nx => P (.d .none) (finR np M r)
  | _ => False
@[simp] theorem defP_ret {np : Nat} {M : Nat → Bool} {w : Wv} : defP np M P (.ret w) ρ = P w (finR np M ρ) := rfl
@[simp] theorem defP_nx {np : Nat} {M : Nat → Bool} : defP np M P .nx ρ = P (.d .none) (finR np M ρ) := rfl
theorem w_def {m np : Nat} {M : Nat → Bool} {body : SSem} {ws : List Wv} : Gs (mkDef m np M body ws) P = (ws.length = np ∧ Gs (body (ws.map some ++ List.replicate (m - np) none)) (defP np M P)) := by
  unfold mkDef
  rw [Gs_ite]
  by_cases h : ws.length = np
  · rw [if_pos h]
    simp only [h, true_and]
    cases z : body (ws.map some ++ List.replicate (m - np) none) with
    | bad => rfl
    | exc _ _ => rfl
    | ok fl r => cases fl <;> rfl
  · rw [if_neg h]; simp [h]
end
end FW

set_option Elab.async false
set_option linter.all false
set_option maxRecDepth 100000
set_option maxHeartbeats 1000001
namespace FW
open PySem PySem.Spec L2
/-! ## the primitives at ints -/
section
variable {a b : Int} {ds es : List D} {i j : Nat}
@[simp] theorem pAdd_i : pAdd (.int a) (.int b) = some (.d (.int (a + b))) := rfl
@[simp] theorem pAdd_t : pAdd (.tuple ds) (.tuple es) = if ds.length + es.length ≤ 1000000 then some (.d (.tuple (ds ++ es))) else none := rfl
@[simp] theorem pAdd_l : pAdd (.list ds) (.list es) = if ds.length + es.length ≤ 1000000 then some (.o ((ds ++ es).map .d)) else none := rfl
@[simp] theorem pSub_i : pSub (.int a) (.int b) = some (.d (.int (a - b))) := rfl
@[simp] theorem pMul_i : pMul (.int a) (.int b) = if big a + big b < 100000000 then some (.d (.int (a * b))) else none := rfl
@[simp] theorem pMul_l : pMul (.list ds) (.int b) = if 0 ≤ b ∧ b ≤ 1000 ∧ ds.length ≤ 1000 then some (.o ((List.replicate b.toNat ds).flatten.map .d)) else none := rfl
@[simp] theorem pMul_t : pMul (.tuple ds) (.int b) = if 1 ≤ b ∧ b ≤ 1000 ∧ ds.length ≤ 1000 ∧ ds ≠ [] then some (.d (.tuple (List.replicate b.toNat ds).flatten)) else none := rfl
@[simp] theorem pDiv_i : pDiv (.int a) (.int b) = if b ≠ 0 ∧ (big b < 9000 ∨ big a < 13500) then some (.d (.int (a.fdiv b))) else none := rfl
@[simp] theorem pMod_i : pMod (.int a) (.int b) = if b ≠ 0 then some (.d (.int (a.fmod b))) else none := rfl
@[simp] theorem pPow_i : pPow (.int a) (.int b) = if 0 ≤ b ∧ b ≤ 1000 ∧ a.natAbs < 1000000 then some (.d (.int (a ^ b.toNat))) else none := rfl
@[simp] theorem eqv_i : PyData.eqv (.int a) (.int b) = decide (a = b) := by
  show (a == b) = decide (a = b)
  by_cases h : a = b <;> simp [h]
@[simp] theorem pEq_i : pEq (.int a) (.int b) = some (.d (.bool (decide (a = b)))) := by
  unfold pEq
  rw [show strP (.int a) (.int b) = none from rfl]
  show (if SeqAt.shaped (.int a) = true ∧ SeqAt.shaped (.int b) = true then _ else _) = _
  rw [if_pos ⟨rfl, rfl⟩, eqv_i]
@[simp] theorem pNe_i : pNe (.int a) (.int b) = some (.d (.bool (!decide (a = b)))) := by
  unfold pNe
  rw [show strP (.int a) (.int b) = none from rfl]
  show (if SeqAt.shaped (.int a) = true ∧ SeqAt.shaped (.int b) = true then _ else _) = _
  rw [if_pos ⟨rfl, rfl⟩, eqv_i]
theorem pEq_same {d : D} (h : SeqAt.shaped d = true) : pEq d d = some (.d (.bool true)) := by
  unfold pEq
  cases e : strP d d with
  | some z => 
    obtain ⟨h1, h2⟩ := strP_some e
    have h3 : z.1 = z.2 := PyData.str.inj (h1.symm.trans h2)
    show some (Wv.d (.bool (decide (z.1 = z.2)))) = _
    rw [decide_eq_true h3]
  | none =>
    show (if SeqAt.shaped d = true ∧ SeqAt.shaped d = true then _ else _) = _
    rw [if_pos ⟨h, h⟩, SeqAt.eqv_refl d (canLay_of h)]
@[simp] theorem pEq_s {x y : Str} : pEq (.str x) (.str y) = some (.d (.bool (decide (x = y)))) := rfl
@[simp] theorem pNe_s {x y : Str} : pNe (.str x) (.str y) = some (.d (.bool (!decide (x = y)))) := rfl
@[simp] theorem pLt_i : pLt (.int a) (.int b) = some (.d (.bool (decide (a < b)))) := rfl
@[simp] theorem pLe_i : pLe (.int a) (.int b) = some (.d (.bool (decide (a ≤ b)))) := rfl
@[simp] theorem pGt_i : pGt (.int a) (.int b) = some (.d (.bool (decide (b < a)))) := rfl
@[simp] theorem pGe_i : pGe (.int a) (.int b) = some (.d (.bool (decide (b ≤ a)))) := rfl
@[simp] theorem boolD_b {c : Bool} : boolD (.bool c) = some c := rfl
@[simp] theorem intB_i {p : Int → Int → Bool} : intB p (.int a) (.int b) = some (p a b) := rfl
@[simp] theorem itemsD_t : itemsD (.tuple ds) = some ds := rfl
@[simp] theorem itemsD_l : itemsD (.list ds) = some ds := rfl
@[simp] theorem pIs_n {d : D} : pIs d .none = some (.d (.bool (isN d))) := rfl
@[simp] theorem pIsNot_n {d : D} : pIsNot d .none = some (.d (.bool (!isN d))) := rfl
@[simp] theorem isN_i : isN (.int a) = false := rfl
@[simp] theorem isN_t : isN (.tuple ds) = false := rfl
@[simp] theorem isN_n : isN .none = true := rfl
@[simp] theorem pIx_t : pIx (.tuple ds) (.int a) = (atI ds a).map .d := rfl
@[simp] theorem pIx_l : pIx (.list ds) (.int a) = (atI ds a).map .d := rfl
@[simp] theorem atW_t : atW (.d (.tuple ds)) a = (atI ds a).map .d := rfl
@[simp] theorem atW_l : atW (.d (.list ds)) a = (atI ds a).map .d := rfl
@[simp] theorem atW_o {ws : List Wv} : atW (.o ws) a = atI ws a := rfl
@[simp] theorem atW_s {ns : List Int} : atW (.s ns) a = (atI ns a).map fun i => .d (.int i) := rfl
@[simp] theorem datW_d {d : D} : datW (.d d) = some d := rfl
@[simp] theorem intW_d : intW (.d (.int a)) = some a := rfl
@[simp] theorem bind_map_dat {o : Option D} : (o.map Wv.d).bind datW = o := by cases o <;> rfl
@[simp] theorem pLen_t : pLen [.tuple ds] = some (.d (.int ds.length)) := rfl
@[simp] theorem pLen_l : pLen [.list ds] = some (.d (.int ds.length)) := rfl
@[simp] theorem pTuple_t : pTuple [.tuple ds] = some (.d (.tuple ds)) := rfl
@[simp] theorem pTuple_l : pTuple [.list ds] = some (.d (.tuple ds)) := rfl
@[simp] theorem pList_t : pList [.tuple ds] = some (.o (ds.map .d)) := rfl
@[simp] theorem pList_l : pList [.list ds] = some (.o (ds.map .d)) := rfl
theorem boolsD_map {α : Type} {f : α → Bool} : ∀ xs : List α, boolsD (xs.map fun x => .bool (f x)) = some (xs.map f)
  | [] => rfl
  | x :: xs => by rw [List.map_cons, boolsD, boolsD_map xs]; rfl
@[simp] theorem pAll_map {α : Type} {f : α → Bool} {xs : List α} : pAll [.list (xs.map fun x => .bool (f x))] = some (.d (.bool (xs.all f))) := by
  rw [pAll, boolsD_map]; simp [Function.comp_def]
@[simp] theorem pAny_map {α : Type} {f : α → Bool} {xs : List α} : pAny [.list (xs.map fun x => .bool (f x))] = some (.d (.bool (xs.any f))) := by
  rw [pAny, boolsD_map]; simp [Function.comp_def]
@[simp] theorem pAbs_i : pAbs [.int a] = some (.d (.int (if a < 0 then -a else a))) := rfl
@[simp] theorem pInt_i : pInt [.int a] = some (.d (.int a)) := rfl
@[simp] theorem pMax2_i : pMax2 [.int a, .int b] = some (.d (.int (if b > a then b else a))) := rfl
@[simp] theorem pMin2_i : pMin2 [.int a, .int b] = some (.d (.int (if b < a then b else a))) := rfl
@[simp] theorem pGcd_i : pGcd [.int a, .int b] = some (.d (.int ((Nat.gcd a.natAbs b.natAbs : Nat) : Int))) := rfl
@[simp] theorem isi_int_i : isiD "int" (.int a) = true := rfl
@[simp] theorem isi_bool_i : isiD "bool" (.int a) = false := rfl
@[simp] theorem isi_tuple_t : isiD "tuple" (.tuple ds) = true := rfl
@[simp] theorem lenW_t : lenW (.d (.tuple ds)) = some (ds.length : Int) := rfl
@[simp] theorem lenW_l : lenW (.d (.list ds)) = some (ds.length : Int) := rfl
@[simp] theorem lenW_o {ws : List Wv} : lenW (.o ws) = some (ws.length : Int) := rfl
@[simp] theorem lenW_s {ns : List Int} : lenW (.s ns) = some (ns.length : Int) := rfl
@[simp] theorem gN_e {d : D} {ρ : Rho} : gN i d ρ = if i < ρ.length then some (ρ.set i (some (.d d))) else none := rfl
@[simp] theorem gsNil_e {ρ : Rho} : gsNil [] ρ = some ρ := rfl
@[simp] theorem gsCons_e {t : TgF} {u : TgsF} {d : D} {ρ : Rho} : gsCons t u (d :: ds) ρ = (t d ρ).bind (u ds) := rfl
@[simp] theorem gT_e {u : TgsF} {ρ : Rho} : gT i u (.tuple ds) ρ = if ds.length = i then u ds ρ else none := rfl
@[simp] theorem wN_e {w : Wv} {ρ : Rho} : wN i w ρ = if i < ρ.length then some (ρ.set i (some w)) else none := rfl
@[simp] theorem wsNil_e {ρ : Rho} : wsNil [] ρ = some ρ := rfl
@[simp] theorem wsCons_e {t : TwF} {u : TwsF} {w : Wv} {ws : List Wv} {ρ : Rho} : wsCons t u (w :: ws) ρ = (t w ρ).bind (u ws) := rfl
@[simp] theorem wT_e {u : TwsF} {ws : List Wv} {ρ : Rho} : wT i u ws ρ = if ws.length = i then u ws ρ else none := rfl
@[simp] theorem wAt_e {ga : IxF} {w : Wv} {ρ : Rho} : wAt i ga w ρ = (match ρ[i]?, ga ρ with
  | some (some w0), some k => (setW w0 k w).map fun w1 => ρ.set i (some w1)
  | _, _ => none) := rfl
@[simp] theorem wAt2_e {ga gb : IxF} {w : Wv} {ρ : Rho} : wAt2 i ga gb w ρ = (match ρ[i]?, ga ρ, gb ρ with
  | some (some w0), some k, some l => (set2W w0 k l w).map fun w1 => ρ.set i (some w1)
  | _, _, _ => none) := rfl
@[simp] theorem slotI_e {ρ : Rho} : slotI ρ i = (match ρ[i]? with
  | some (some (.d (.int k))) => some k
  | _ => none) := rfl
@[simp] theorem gAdd_e {ga gb : IxF} {ρ : Rho} : gAdd ga gb ρ = (ga ρ).bind fun i => (gb ρ).map fun j => i + j := rfl
@[simp] theorem gSub_e {ga gb : IxF} {ρ : Rho} : gSubI ga gb ρ = (ga ρ).bind fun i => (gb ρ).map fun j => i - j := rfl
@[simp] theorem gNeg_e {ga : IxF} {ρ : Rho} : gNeg ga ρ = (ga ρ).map fun i => -i := rfl
@[simp] theorem gAt_e {ga : IxF} {ρ : Rho} : gAt i ga ρ = (ga ρ).bind fun k => (match ρ[i]? with
  | some (some w) => (atW w k).bind intW
  | _ => none) := rfl
@[simp] theorem wipeR_nil {ρ : Rho} : wipeR ρ [] = ρ := rfl
@[simp] theorem wipeR_cons {ρ : Rho} {vs : List Nat} : wipeR ρ (i :: vs) = (wipeR ρ vs).set i none := rfl
@[simp] theorem restR_nil {ρ r : Rho} : restR ρ [] r = r := rfl
@[simp] theorem restR_cons {ρ r : Rho} {vs : List Nat} : restR ρ (i :: vs) r = (restR ρ vs r).set i (match ρ[i]? with
  | some (some (.d x)) => some (.d x)
  | _ => none) := rfl
@[simp] theorem finR1F {x : Option Wv} {r : Rho} : finR 1 mF (x :: r) = [none] := rfl
@[simp] theorem finR2F {x y : Option Wv} {r : Rho} : finR 2 mF (x :: y :: r) = [none, none] := rfl
@[simp] theorem finR3F {x y z : Option Wv} {r : Rho} : finR 3 mF (x :: y :: z :: r) = [none, none, none] := rfl
@[simp] theorem finR4F {x y z u : Option Wv} {r : Rho} : finR 4 mF (x :: y :: z :: u :: r) = [none, none, none, none] := rfl
@[simp] theorem finR1T {x : Option Wv} {r : Rho} : finR 1 m0 (x :: r) = [x] := rfl
@[simp] theorem finR2T {x y : Option Wv} {r : Rho} : finR 2 m0 (x :: y :: r) = [x, none] := rfl
@[simp] theorem finR3T {x y z : Option Wv} {r : Rho} : finR 3 m0 (x :: y :: z :: r) = [x, none, none] := rfl
@[simp] theorem finR4T {x y z u : Option Wv} {r : Rho} : finR 4 m0 (x :: y :: z :: u :: r) = [x, none, none, none] := rfl
@[simp] theorem pick_nil {α : Type} {l : List α} : pick [] l = [] := rfl
@[simp] theorem pick_cons {α : Type} {l : List α} {is : List Nat} : pick (i :: is) l = (match l[i]? with
  | some x => x :: pick is l
  | none => pick is l) := by
  unfold pick
  rw [List.filterMap_cons]
  cases l[i]? <;> rfl
end
end FW

set_option Elab.async false
set_option linter.all false
set_option maxRecDepth 100000
set_option maxHeartbeats 1000001
namespace FW
open PySem PySem.Spec L2
/-! ## fractions in lowest terms -/
def rq (q : Rat) : D := .tuple [.int q.num, .int q.den]
def rowD (v : List Rat) : D := .tuple (v.map rq)
def formD (m : List (List Rat)) : D := .tuple (m.map rowD)
theorem fdiv_gcd_l (a b : Int) : a.fdiv (Nat.gcd a.natAbs b.natAbs : Nat) = a / (Nat.gcd a.natAbs b.natAbs : Nat) := Int.fdiv_eq_ediv_of_nonneg _ (Int.natCast_nonneg _)
theorem gcd_dvd_l (a b : Int) : ((Nat.gcd a.natAbs b.natAbs : Nat) : Int) ∣ a := Int.ofNat_dvd_left.mpr (Nat.gcd_dvd_left _ _)
theorem gcd_dvd_r (a b : Int) : ((Nat.gcd a.natAbs b.natAbs : Nat) : Int) ∣ b := Int.ofNat_dvd_left.mpr (Nat.gcd_dvd_right _ _)
theorem gcd_ne {a b : Int} (h : b ≠ 0) : ((Nat.gcd a.natAbs b.natAbs : Nat) : Int) ≠ 0 := by
  have : 0 < Nat.gcd a.natAbs b.natAbs := Nat.gcd_pos_of_pos_right _ (Int.natAbs_pos.mpr h)
  omega
theorem frac_num {a b : Int} (h : b ≠ 0) : (a.sign.natAbs : Int) = a.sign.natAbs → (Rat.divInt a b).num = (b.sign * a) / (Nat.gcd a.natAbs b.natAbs : Nat) := fun _ => by
  rw [Rat.num_divInt]
  congr 1
  rw [Int.gcd_comm]
  rfl
theorem frac_den {a b : Int} (h : b ≠ 0) : ((Rat.divInt a b).den : Int) = (b.natAbs : Int) / (Nat.gcd a.natAbs b.natAbs : Nat) := by
  rw [Rat.den_divInt, if_neg h, Int.gcd_comm]
  rfl
/-- number // part, part the divisor with the sign of under -/
theorem frac1 {a b : Int} (h : b ≠ 0) : a.fdiv (if 0 < b then (Nat.gcd a.natAbs b.natAbs : Nat) else -((Nat.gcd a.natAbs b.natAbs : Nat) : Int)) = (Rat.divInt a b).num ∧
    b.fdiv (if 0 < b then (Nat.gcd a.natAbs b.natAbs : Nat) else -((Nat.gcd a.natAbs b.natAbs : Nat) : Int)) = (Rat.divInt a b).den := by
  have g0 := gcd_ne (a := a) h
  obtain ⟨u, hu⟩ := gcd_dvd_l a b
  obtain ⟨v, hv⟩ := gcd_dvd_r a b
  rw [frac_num h rfl, frac_den h]
  generalize hg : ((Nat.gcd a.natAbs b.natAbs : Nat) : Int) = g at *
  have gp : 0 < g := by
    have : 0 ≤ g := by rw [← hg]; exact Int.natCast_nonneg _
    omega
  have ea : a.fdiv g = u := by rw [hu]; exact Int.mul_fdiv_cancel_left _ g0
  have eb : b.fdiv g = v := by rw [hv]; exact Int.mul_fdiv_cancel_left _ g0
  have ea2 : a.fdiv (-g) = -u := by
    have : a = (-g) * (-u) := by rw [hu]; grind
    rw [this]; exact Int.mul_fdiv_cancel_left _ (by omega)
  have eb2 : b.fdiv (-g) = -v := by
    have : b = (-g) * (-v) := by rw [hv]; grind
    rw [this]; exact Int.mul_fdiv_cancel_left _ (by omega)
  by_cases hb : 0 < b
  · rw [if_pos hb, ea, eb, Int.sign_eq_one_of_pos hb]
    constructor
    · rw [Int.one_mul, hu, Int.mul_ediv_cancel_left _ g0]
    · rw [Int.natAbs_of_nonneg (by omega), hv, Int.mul_ediv_cancel_left _ g0]
  · have hn : b < 0 := by omega
    rw [if_neg hb, ea2, eb2, Int.sign_eq_neg_one_of_neg hn]
    constructor
    · have : -1 * a = g * (-u) := by rw [hu]; grind
      rw [this, Int.mul_ediv_cancel_left _ g0]
    · have : (b.natAbs : Int) = g * (-v) := by
        have : (b.natAbs : Int) = -b := by omega
        rw [this, hv]; grind
      rw [this, Int.mul_ediv_cancel_left _ g0]
/-- sign * top // common -/
theorem frac2 {a b : Int} (h : b ≠ 0) : ((if b < 0 then (-1 : Int) else 1) * a).fdiv (Nat.gcd a.natAbs b.natAbs : Nat) = (Rat.divInt a b).num ∧
    ((if b < 0 then (-1 : Int) else 1) * b).fdiv (Nat.gcd a.natAbs b.natAbs : Nat) = (Rat.divInt a b).den := by
  have g0 := gcd_ne (a := a) h
  rw [frac_num h rfl, frac_den h]
  have gp : (0 : Int) ≤ (Nat.gcd a.natAbs b.natAbs : Nat) := Int.natCast_nonneg _
  rw [Int.fdiv_eq_ediv_of_nonneg _ gp, Int.fdiv_eq_ediv_of_nonneg _ gp]
  by_cases hn : b < 0
  · rw [if_pos hn, Int.sign_eq_neg_one_of_neg hn]
    refine ⟨rfl, ?_⟩
    congr 1; omega
  · rw [if_neg hn, Int.sign_eq_one_of_pos (by omega)]
    refine ⟨rfl, ?_⟩
    congr 1; omega
theorem divInt_add (p q : Rat) : Rat.divInt (p.num * q.den + q.num * p.den) (p.den * q.den) = p + q := by
  rw [Rat.add_def', ← Rat.divInt_ofNat]
  congr 1
theorem divInt_sub (p q : Rat) : Rat.divInt (p.num * q.den - q.num * p.den) (p.den * q.den) = p - q := by
  rw [Rat.sub_def', ← Rat.divInt_ofNat]
  congr 1
theorem divInt_mul (p q : Rat) : Rat.divInt (p.num * q.num) (p.den * q.den) = p * q := by
  rw [Rat.mul_def', ← Rat.divInt_ofNat]
  congr 1
theorem den_ne (q : Rat) : (q.den : Int) ≠ 0 := by have := q.den_pos; omega
theorem den_mul_ne (p q : Rat) : (p.den : Int) * q.den ≠ 0 := Int.mul_ne_zero (den_ne p) (den_ne q)
/-! ## how great the parts are -/
def Sz (n : Nat) (q : Rat) : Prop := q.num.natAbs < 2 ^ n ∧ q.den < 2 ^ n
theorem big_lt {i : Int} {n : Nat} (h : i.natAbs < 2 ^ n) (hn : 0 < n) : big i < n := by
  unfold big
  by_cases e : i.natAbs = 0
  · rw [e]; simpa using hn
  · exact (Nat.log2_lt e).mpr h
theorem natAbs_divInt_num (a b : Int) : (Rat.divInt a b).num.natAbs ≤ a.natAbs := by
  by_cases h : b = 0
  · subst h; simp
  · rw [frac_num h rfl]
    have e : ((b.sign * a) / ((Nat.gcd a.natAbs b.natAbs : Nat) : Int)).natAbs ≤ (b.sign * a).natAbs := Int.natAbs_ediv_le_natAbs _ _
    refine Nat.le_trans e ?_
    rw [Int.natAbs_mul]
    have : b.sign.natAbs ≤ 1 := by
      rcases Int.lt_trichotomy b 0 with z | z | z
      · rw [Int.sign_eq_neg_one_of_neg z]; decide
      · rw [z]; decide
      · rw [Int.sign_eq_one_of_pos z]; decide
    calc b.sign.natAbs * a.natAbs ≤ 1 * a.natAbs := Nat.mul_le_mul_right _ this
      _ = a.natAbs := Nat.one_mul _
theorem divInt_den_le {a b : Int} (h : b ≠ 0) : (Rat.divInt a b).den ≤ b.natAbs := by
  rw [Rat.den_divInt, if_neg h]
  exact Nat.div_le_self _ _
theorem sz_divInt {a b : Int} {n : Nat} (h : b ≠ 0) (ha : a.natAbs < 2 ^ n) (hb : b.natAbs < 2 ^ n) : Sz n (Rat.divInt a b) :=
  ⟨Nat.lt_of_le_of_lt (natAbs_divInt_num a b) ha, Nat.lt_of_le_of_lt (divInt_den_le h) hb⟩
theorem Sz.mono {m n : Nat} {q : Rat} (h : Sz m q) (l : m ≤ n) : Sz n q := ⟨Nat.lt_of_lt_of_le h.1 (Nat.pow_le_pow_right (by decide) l), Nat.lt_of_lt_of_le h.2 (Nat.pow_le_pow_right (by decide) l)⟩
theorem mul_lt_pow {a b m n : Nat} (h : a < 2 ^ m) (k : b < 2 ^ n) : a * b < 2 ^ (m + n) := by
  rw [Nat.pow_add]
  exact Nat.mul_lt_mul'' h k
theorem Sz.mul {m n : Nat} {p q : Rat} (h : Sz m p) (k : Sz n q) : Sz (m + n) (p * q) := by
  rw [← divInt_mul]
  refine sz_divInt (den_mul_ne p q) ?_ ?_
  · rw [Int.natAbs_mul]; exact mul_lt_pow h.1 k.1
  · rw [Int.natAbs_mul]; exact mul_lt_pow h.2 k.2
theorem Sz.add {m n : Nat} {p q : Rat} (h : Sz m p) (k : Sz n q) : Sz (m + n + 1) (p + q) := by
  rw [← divInt_add]
  refine sz_divInt (den_mul_ne p q) ?_ ?_
  · have h1 := mul_lt_pow h.1 k.2
    have h2 := mul_lt_pow k.1 h.2
    have h3 : (p.num * q.den + q.num * p.den).natAbs ≤ p.num.natAbs * q.den + q.num.natAbs * p.den := by
      refine Nat.le_trans (Int.natAbs_add_le _ _) ?_
      rw [Int.natAbs_mul, Int.natAbs_mul]
      exact Nat.le_refl _
    rw [Nat.pow_succ]
    rw [Nat.add_comm n m] at h2
    omega
  · rw [Int.natAbs_mul]
    exact Nat.lt_of_lt_of_le (mul_lt_pow h.2 k.2) (Nat.pow_le_pow_right (by decide) (by omega))
theorem sz_zero : Sz 1 0 := ⟨by decide, by decide⟩
theorem eq_of {α : Type} {o : Out α} {a : α} {r : Rho} (h : Gs o fun x y => x = a ∧ y = r) : o = .ok a r := by
  obtain ⟨x, y, e, e1, e2⟩ := h.ex
  rw [e, e1, e2]
theorem atI_n {α : Type} {xs : List α} {j : Nat} : atI xs (j : Int) = xs[j]? := by
  unfold atI ixN
  by_cases h : j < xs.length
  · rw [if_pos (by omega), if_pos (by omega)]; simp
  · rw [if_pos (by omega), if_neg (by omega)]; simp; omega
@[simp] theorem atI_0 {α : Type} {xs : List α} : atI xs 0 = xs[0]? := atI_n (j := 0)
@[simp] theorem atI_1 {α : Type} {xs : List α} : atI xs 1 = xs[1]? := atI_n (j := 1)
@[simp] theorem atI_2 {α : Type} {xs : List α} : atI xs 2 = xs[2]? := atI_n (j := 2)
@[simp] theorem atI_3 {α : Type} {xs : List α} : atI xs 3 = xs[3]? := atI_n (j := 3)
@[simp] theorem atI_c {α : Type} {xs : List α} {j : Nat} : atI xs (j : Int) = xs[j]? := atI_n
/-! ## rows and forms by functions -/
def rowF (n : Nat) (g : Nat → Rat) : D := .tuple ((List.range n).map fun j => rq (g j))
def formF (n : Nat) (f : Nat → Nat → Rat) : D := .tuple ((List.range n).map fun i => rowF n (f i))
def sumR : Nat → (Nat → Rat) → Rat
  | 0, _ => 0
  | n + 1, f => sumR n f + f n
theorem sumR_congr {f g : Nat → Rat} : ∀ {n : Nat}, (∀ i < n, f i = g i) → sumR n f = sumR n g
  | 0, _ => rfl
  | n + 1, h => by rw [sumR, sumR, sumR_congr fun i hi => h i (by omega), h n (by omega)]
theorem sumR_add {f g : Nat → Rat} : ∀ {n : Nat}, sumR n (fun i => f i + g i) = sumR n f + sumR n g
  | 0 => by simp only [sumR]; grind
  | n + 1 => by simp only [sumR]; rw [sumR_add (n := n)]; grind
theorem sumR_mul {c : Rat} {f : Nat → Rat} : ∀ {n : Nat}, sumR n (fun i => c * f i) = c * sumR n f
  | 0 => by simp only [sumR]; grind
  | n + 1 => by simp only [sumR]; rw [sumR_mul (n := n)]; grind
theorem sumR_zero : ∀ {n : Nat}, sumR n (fun _ => 0) = 0
  | 0 => rfl
  | n + 1 => by rw [sumR, sumR_zero (n := n)]; grind
theorem sumR_swap {f : Nat → Nat → Rat} {m : Nat} : ∀ {n : Nat}, sumR n (fun i => sumR m (f i)) = sumR m (fun j => sumR n fun i => f i j)
  | 0 => by simp only [sumR]; exact sumR_zero.symm
  | n + 1 => by simp only [sumR]; rw [sumR_swap (n := n), ← sumR_add]
theorem sz_sumR {k : Nat} {f : Nat → Rat} : ∀ {n : Nat}, (∀ i < n, Sz k (f i)) → Sz (n * (k + 1) + 1) (sumR n f)
  | 0, _ => sz_zero.mono (by omega)
  | n + 1, h => by
    rw [sumR]
    refine ((sz_sumR fun i hi => h i (by omega)).add (h n (by omega))).mono ?_
    rw [Nat.succ_mul]; omega
theorem rq_shaped (q : Rat) : SeqAt.shaped (rq q) = true := rfl
@[simp] theorem rowF_len {n : Nat} {g : Nat → Rat} : ((List.range n).map fun j => rq (g j)).length = n := by simp
theorem rng_get {α : Type} {n j : Nat} {F : Nat → α} (h : j < n) : ((List.range n).map F)[j]? = some (F j) := by
  rw [List.getElem?_map, List.getElem?_range h]; rfl
theorem rngD_mem {x : D} {m : Nat} (h : x ∈ rngD 0 m) : ∃ j, j < m ∧ x = .int (j : Int) := by
  unfold rngD at h
  obtain ⟨j, hj, e⟩ := List.mem_map.mp h
  exact ⟨j, List.mem_range.mp hj, by rw [← e]; simp⟩
theorem rngD_eq {m : Nat} : rngD 0 m = (List.range m).map fun (j : Nat) => .int (j : Int) := by unfold rngD; simp
theorem zipD_map {α : Type} {f g : α → D} {xs : List α} : zipD (xs.map f) (xs.map g) = xs.map fun x => .tuple [f x, g x] := by
  unfold zipD
  induction xs with
  | nil => rfl
  | cons x xs ih => simp [ih]
end FW

set_option Elab.async false
set_option linter.all false
set_option maxRecDepth 100000
set_option maxHeartbeats 1000001
namespace FW
open PySem PySem.Spec L2
/-! ## data that repr tells -/
structure Rp (dp bk : Nat) (d : D) : Prop where
  sh : d.showable = true
  cl : d.canLay0 = true
  dh : d.depth ≤ dp
  ls : d.leavesShort 641 = true
  bk : d.bulk ≤ bk
theorem Rp.mono {a b c e : Nat} {d : D} (h : Rp a b d) (h1 : a ≤ c) (h2 : b ≤ e) : Rp c e d := ⟨h.sh, h.cl, Nat.le_trans h.dh h1, h.ls, Nat.le_trans h.bk h2⟩
theorem Rp.int {i : Int} (h : i.natAbs < 2 ^ 1900) : Rp 0 0 (.int i) := by
  refine ⟨?_, rfl, Nat.le_refl _, ?_, Nat.le_refl _⟩
  · show decide (i.natAbs.log2 < 1920) = true
    exact decide_eq_true (Nat.lt_trans (big_lt h (by decide)) (by decide))
  · show decide ((PyData.shown (.int i)).length ≤ 641) = true
    refine decide_eq_true ?_
    have e : i.natAbs < 10 ^ 640 := by
      refine Nat.lt_of_lt_of_le h (Nat.le_trans (Nat.pow_le_pow_right (by decide) (show 1900 ≤ 3 * 640 by decide)) ?_)
      rw [Nat.pow_mul]
      exact Nat.pow_le_pow_left (by decide) 640
    have := int_text_length_le10 (k := 640) (by decide) e
    show (Str.ofString (toString i)).length ≤ 641
    rw [ofString_length]; exact this
theorem Rp.all {dp bk n : Nat} : ∀ {xs : List D}, (∀ x ∈ xs, Rp dp bk x) → xs.length ≤ n → PyData.showableAll xs = true ∧ PyData.canLayAll0 xs = true ∧ PyData.depthAll xs ≤ dp ∧ PyData.leavesShortAll 641 xs = true ∧ PyData.bulkAll xs ≤ xs.length * (bk + 1)
  | [], _, _ => ⟨rfl, rfl, Nat.zero_le _, rfl, by simp [PyData.bulkAll]⟩
  | x :: xs, h, hl => by
    have r := h x (by simp)
    obtain ⟨h1, h2, h3, h4, h5⟩ := Rp.all (n := xs.length) (fun y hy => h y (by simp [hy])) (Nat.le_refl _)
    have hb := r.bk
    refine ⟨?_, ?_, ?_, ?_, ?_⟩
    · rw [PyData.showableAll, r.sh, h1]; rfl
    · rw [PyData.canLayAll0, r.cl, h2]; rfl
    · rw [PyData.depthAll]; exact Nat.max_le.mpr ⟨r.dh, h3⟩
    · rw [PyData.leavesShortAll, r.ls, h4]; rfl
    · rw [PyData.bulkAll, List.length_cons, Nat.succ_mul]; omega
theorem Rp.tuple {dp bk n : Nat} {xs : List D} (h : ∀ x ∈ xs, Rp dp bk x) (hl : xs.length ≤ n) : Rp (dp + 1) (n * (bk + 1)) (.tuple xs) := by
  obtain ⟨h1, h2, h3, h4, h5⟩ := Rp.all h hl
  exact ⟨h1, h2, by rw [PyData.depth]; omega, h4, by rw [PyData.bulk]; exact Nat.le_trans h5 (Nat.mul_le_mul_right _ hl)⟩
theorem Rp.list {dp bk n : Nat} {xs : List D} (h : ∀ x ∈ xs, Rp dp bk x) (hl : xs.length ≤ n) : Rp (dp + 1) (n * (bk + 1)) (.list xs) := by
  obtain ⟨h1, h2, h3, h4, h5⟩ := Rp.all h hl
  exact ⟨h1, h2, by rw [PyData.depth]; omega, h4, by rw [PyData.bulk]; exact Nat.le_trans h5 (Nat.mul_le_mul_right _ hl)⟩
theorem pRepr_ok {d : D} (h : Rp 60 1500 d) : pRepr [d] = some (.d (.str d.shown)) := by
  rw [pRepr, if_pos]
  refine ⟨h.sh, PyData.hasDict_of_canLay d h.cl, h.cl, h.dh, ?_⟩
  have := PyData.shown_le_bulk 641 (by decide) d h.ls
  have h2 := Nat.mul_le_mul_left (641 + 2) h.bk
  omega
theorem Rp.rq {n : Nat} {q : Rat} (h : Sz n q) (hn : n ≤ 1900) : Rp 1 2 (rq q) := by
  have h' := h.mono hn
  refine Rp.tuple (dp := 0) (bk := 0) (n := 2) (xs := [.int q.num, .int q.den]) (fun x hx => ?_) (Nat.le_refl _)
  simp at hx
  rcases hx with rfl | rfl
  · exact Rp.int h'.1
  · exact Rp.int h'.2
theorem Rp.rowF {n k : Nat} {g : Nat → Rat} (h : ∀ i < n, Sz k (g i)) (hk : k ≤ 1900) : Rp 2 (n * 3) (rowF n g) := by
  refine Rp.tuple (dp := 1) (bk := 2) (n := n) (fun x hx => ?_) (by simp)
  obtain ⟨i, hi, rfl⟩ := List.mem_map.mp hx
  exact Rp.rq (h i (List.mem_range.mp hi)) hk
end FW

set_option Elab.async false
set_option linter.all false
set_option maxRecDepth 100000
set_option maxHeartbeats 1000001
namespace FW
open PySem PySem.Spec L2
section
variable {X : Cx} {E : WX} {M : Nat → Bool} {elt tg iter tg1 iter1 : Expr} {ifs ifs1 : List Expr} {scope : Scope} {own : List (Str × Nat)} {pos spos : Pos} {it it1 : ISem} {t t1 : TgF} {tt tt1 : Rho → Out Bool} {el : ES}
theorem fz_rd {K : Frg} {mg : Mg} {f : ES} {σ : St} {H : Hp} {Q : VK} (h : tS K mg E (sFz f) σ H Q) : tS K mg E f σ H Q := by
  obtain ⟨G, ρ, fp, c, q⟩ := h
  exact ⟨G, ρ, fp, c, ResE.frz (seqD q fun d r v H1 G1 fp1 c1 s1 d1 q1 => ResE.val c1 d1 (ResE.rebase s1 c1.sg q1))⟩
theorem s1_setLcF {i : Nat} {y : Str} {py : Pos} (hc : X.calm = true) (hN : X.N.Nodup) (hsw : swapsWith (.ListComp elt [⟨tg, iter, ifs, 0⟩] scope pos) (some (.Name y py)) spos.line X.env = pure true) (hi : SI X E tg iter it) (ok : BlkOk X.N X.env.scope scope own)
    (hg : ∀ (s : Shared) (H : Hp) (C : Addr) (cl : List (Str × Addr)) (fp : List Addr), SG (X.blk s H scope (compEnvC scope cl C X.env) fp) (notIn (own.map (·.2))) tg t) (ht : ∀ (s : Shared) (H : Hp) (C : Addr) (cl : List (Str × Addr)) (fp : List Addr), STs (X.blk s H scope (compEnvC scope cl C X.env) fp) EF ifs tt)
    (he : ∀ (s : Shared) (H : Hp) (C : Addr) (cl : List (Str × Addr)) (fp : List Addr), SE (X.blk s H scope (compEnvC scope cl C X.env) fp) EF elt el) (hM : M i = false := by rfl) (hy : X.N[i]? = some y := by rfl) (hyl : X.env.scope.names.lookup y = some .local := by rfl) (hs : ∀ x, foldedSetIterable iter X.env x = pure x := by intro _; rfl) :
    S1 X E M (.Assign [.Name y py] (.ListComp elt [⟨tg, iter, ifs, 0⟩] scope pos) spos) (sSet i (sFz (sComp (own.map (·.2)) it t tt el))) :=
  ps_sub (ps_setLc (g := tgt X.K (notIn (List.map (fun (p : Str × Nat) => p.2) own)) t) (tt := tT X.K X.mg EF tt) (te := tS X.K X.mg EF el) hc hN hy hyl hsw hi ok hg ht he hs) fun D σ H h => comp_rd (fz_rd (set_rd hM h))
theorem s1_setLc2F {i : Nat} {y : Str} {py : Pos} {vs1 : List Nat} (hc : X.calm = true) (hN : X.N.Nodup) (hsw : swapsWith (.ListComp elt [⟨tg, iter, ifs, 0⟩, ⟨tg1, iter1, ifs1, 0⟩] scope pos) (some (.Name y py)) spos.line X.env = pure true) (hi : SI X E tg iter it) (ok : BlkOk X.N X.env.scope scope own) (hv : ∀ i ∈ vs1, i ∈ own.map (·.2))
    (hg : ∀ (s : Shared) (H : Hp) (C : Addr) (cl : List (Str × Addr)) (fp : List Addr), SG (X.blk s H scope (compEnvC scope cl C X.env) fp) (notIn (own.map (·.2))) tg t) (ht : ∀ (s : Shared) (H : Hp) (C : Addr) (cl : List (Str × Addr)) (fp : List Addr), STs (X.blk s H scope (compEnvC scope cl C X.env) fp) EF ifs tt)
    (hi1 : ∀ (s : Shared) (H : Hp) (C : Addr) (cl : List (Str × Addr)) (fp : List Addr), SI (X.blk s H scope (compEnvC scope cl C X.env) fp) EF tg1 iter1 it1)
    (hg1 : ∀ (s : Shared) (H : Hp) (C : Addr) (cl : List (Str × Addr)) (fp : List Addr), SG (X.blk s H scope (compEnvC scope cl C X.env) fp) (notIn vs1) tg1 t1) (ht1 : ∀ (s : Shared) (H : Hp) (C : Addr) (cl : List (Str × Addr)) (fp : List Addr), STs (X.blk s H scope (compEnvC scope cl C X.env) fp) EF ifs1 tt1)
    (he : ∀ (s : Shared) (H : Hp) (C : Addr) (cl : List (Str × Addr)) (fp : List Addr), SE (X.blk s H scope (compEnvC scope cl C X.env) fp) EF elt el) (hM : M i = false := by rfl) (hy : X.N[i]? = some y := by rfl) (hyl : X.env.scope.names.lookup y = some .local := by rfl)
    (hs : ∀ x, foldedSetIterable iter X.env x = pure x := by intro _; rfl) (hs1 : ∀ env x, foldedSetIterable iter1 env x = pure x := by intro _ _; rfl) :
    S1 X E M (.Assign [.Name y py] (.ListComp elt [⟨tg, iter, ifs, 0⟩, ⟨tg1, iter1, ifs1, 0⟩] scope pos) spos) (sSet i (sFz (sComp2 (own.map (·.2)) vs1 it t tt it1 t1 tt1 el))) :=
  ps_sub (ps_setLc2 (g := tgt X.K (notIn (List.map (fun (p : Str × Nat) => p.2) own)) t) (tt := tT X.K X.mg EF tt) (wi1 := tIt X.K X.mg EF it1) (g1 := tgt X.K (notIn vs1) t1) (tt1 := tT X.K X.mg EF tt1) (te := tS X.K X.mg EF el) hc hN hy hyl hsw hi ok hv hg ht hi1 hg1 ht1 he hs hs1) fun D σ H h => comp2_rd hv (fz_rd (set_rd hM h))
end
end FW

set_option Elab.async false
set_option linter.all false
set_option maxRecDepth 100000
set_option maxHeartbeats 1000001
namespace FW
open PySem PySem.Spec L2
/-! ## any data -/
structure Okd (k : Nat) (d : D) : Prop where
  cl : d.canLay0 = true
  dh : d.depth ≤ k
theorem Okd.mono {a b : Nat} {d : D} (h : Okd a d) (l : a ≤ b) : Okd b d := ⟨h.cl, Nat.le_trans h.dh l⟩
theorem Okd.int {i : Int} : Okd 0 (.int i) := ⟨rfl, Nat.le_refl _⟩
theorem Okd.bool {i : Bool} : Okd 0 (.bool i) := ⟨rfl, Nat.le_refl _⟩
theorem Okd.none : Okd 0 .none := ⟨rfl, Nat.le_refl _⟩
theorem Okd.all {k : Nat} : ∀ {xs : List D}, (∀ x ∈ xs, Okd k x) → PyData.canLayAll0 xs = true ∧ PyData.depthAll xs ≤ k
  | [], _ => ⟨rfl, Nat.zero_le _⟩
  | x :: xs, h => by
    have r := h x (by simp)
    obtain ⟨h2, h3⟩ := Okd.all (xs := xs) fun y hy => h y (List.mem_cons_of_mem _ hy)
    refine ⟨?_, ?_⟩
    · rw [PyData.canLayAll0, r.cl, h2]; rfl
    · rw [PyData.depthAll]; exact Nat.max_le.mpr ⟨r.dh, h3⟩
theorem Okd.tuple {k : Nat} {xs : List D} (h : ∀ x ∈ xs, Okd k x) : Okd (k + 1) (.tuple xs) := by
  obtain ⟨h2, h3⟩ := Okd.all h
  exact ⟨h2, by rw [PyData.depth]; omega⟩
theorem Okd.list {k : Nat} {xs : List D} (h : ∀ x ∈ xs, Okd k x) : Okd (k + 1) (.list xs) := by
  obtain ⟨h2, h3⟩ := Okd.all h
  exact ⟨h2, by rw [PyData.depth]; omega⟩
theorem Okd.shaped {d : D} (h : Okd 60 d) : SeqAt.shaped d = true := by
  unfold SeqAt.shaped
  rw [h.cl, Bool.true_and]
  exact decide_eq_true (Nat.le_trans h.dh (by decide))
theorem depthAll_mem : ∀ {xs : List D} {x : D}, x ∈ xs → x.depth ≤ PyData.depthAll xs
  | y :: xs, x, h => by
    rw [PyData.depthAll]
    rcases (List.mem_cons.mp h) with rfl | h'
    · exact Nat.le_max_left _ _
    · exact Nat.le_trans (depthAll_mem h') (Nat.le_max_right _ _)
theorem canLay_mem : ∀ {xs : List D} {x : D}, PyData.canLayAll0 xs = true → x ∈ xs → x.canLay0 = true
  | y :: xs, x, h, hx => by
    rw [PyData.canLayAll0, Bool.and_eq_true] at h
    rcases List.mem_cons.mp hx with rfl | h'
    · exact h.1
    · exact canLay_mem h.2 h'
theorem Okd.of_tuple {k : Nat} {xs : List D} (h : Okd (k + 1) (.tuple xs)) : ∀ x ∈ xs, Okd k x := fun x hx =>
  ⟨canLay_mem (by have := h.cl; rwa [PyData.canLay0] at this) hx, by have := h.dh; rw [PyData.depth] at this; have := depthAll_mem hx; omega⟩
theorem pEq_nil {xs : List D} (h : ∀ x ∈ xs, Okd 50 x) : pEq (.list xs) (.list []) = some (.d (.bool xs.isEmpty)) := by
  have s := ((Okd.list h).mono (show 51 ≤ 60 by decide)).shaped
  show (if SeqAt.shaped (.list xs) = true ∧ SeqAt.shaped (.list []) = true then _ else _) = _
  rw [if_pos ⟨s, rfl⟩]
  cases xs with
  | nil => rw [PyData.eqv, PyData.eqvAll]; rfl
  | cons x xs => rw [PyData.eqv, PyData.eqvAll]; rfl
theorem pNe_nil {xs : List D} (h : ∀ x ∈ xs, Okd 50 x) : pNe (.list xs) (.list []) = some (.d (.bool (!xs.isEmpty))) := by
  have s := ((Okd.list h).mono (show 51 ≤ 60 by decide)).shaped
  show (if SeqAt.shaped (.list xs) = true ∧ SeqAt.shaped (.list []) = true then _ else _) = _
  rw [if_pos ⟨s, rfl⟩]
  cases xs with
  | nil => rw [PyData.eqv, PyData.eqvAll]; rfl
  | cons x xs => rw [PyData.eqv, PyData.eqvAll]; rfl
theorem pEq_ok {x y : D} (h : Okd 60 x) (k : Okd 60 y) : ∃ b, pEq x y = some (.d (.bool b)) := by
  unfold pEq
  cases strP x y with
  | some z => exact ⟨_, rfl⟩
  | none => exact ⟨_, if_pos ⟨h.shaped, k.shaped⟩⟩
/-- what == tells of data -/
def eqD (x y : D) : Bool := match strP x y with
  | some z => decide (z.1 = z.2)
  | none => PyData.eqv x y
theorem pEq_eqD {x y : D} (h : Okd 60 x) (k : Okd 60 y) : pEq x y = some (.d (.bool (eqD x y))) := by
  unfold pEq eqD
  cases strP x y with
  | some z => rfl
  | none => exact if_pos ⟨h.shaped, k.shaped⟩
theorem pNe_eqD {x y : D} (h : Okd 60 x) (k : Okd 60 y) : pNe x y = some (.d (.bool (!eqD x y))) := by
  unfold pNe eqD
  cases strP x y with
  | some z => rfl
  | none => exact if_pos ⟨h.shaped, k.shaped⟩
/-! ## slices -/
theorem cut_take {α : Type} {xs : List α} {n : Nat} (h : n ≤ xs.length) : cutD xs none (some (n : Int)) = xs.take n := by
  unfold cutD
  rw [HT.sIx_none, HT.sIx_nat, Nat.min_eq_left h]
  simp
theorem cut_drop {α : Type} {xs : List α} {n : Nat} (h : n ≤ xs.length) : cutD xs (some (n : Int)) none = xs.drop n := by
  unfold cutD
  rw [HT.sIx_none, HT.sIx_nat, Nat.min_eq_left h]
  rw [List.take_of_length_le]
  simp
section
variable {t : TgF} {tt : Rho → Out Bool} {el : ES} {vs : List Nat} {PL : List Wv → Rho → Prop} {ρ0 : Rho}
/-- [Gf x for x in L if p x] -/
theorem comp_filt {α : Type} {L : List α} {F : α → D} (p : α → Bool) (Gf : α → D) (S : Rho → Prop) (h0 : S ρ0) (hstep : ∀ i ∈ L, ∀ r, S r → ∃ r1, t (F i) (wipeR r vs) = some r1 ∧ Gs (tt r1) fun b r2 => b = p i ∧ if b = true then Gs (el r2) fun w r3 => w = .d (Gf i) ∧ S r3 else S r2)
    (hend : ∀ r, S r → PL ((L.filter p).map fun i => .d (Gf i)) r) : Gs (compL vs t tt el (L.map F) ρ0) PL := by
  refine comp_inv (I := fun xs acc r => S r ∧ ∃ A B, L = A ++ B ∧ xs = B.map F ∧ acc = (A.filter p).map (fun i => .d (Gf i))) ?_ ?_ ⟨h0, [], L, rfl, rfl, rfl⟩
  · rintro acc r ⟨hS, A, B, e, e2, rfl⟩
    have : B = [] := by simpa using e2.symm
    subst this
    rw [List.append_nil] at e
    subst e
    exact hend r hS
  · rintro x xs acc r ⟨hS, A, B, e, e2, rfl⟩
    cases B with
    | nil => simp at e2
    | cons y B =>
      rw [List.map_cons] at e2
      cases e2
      obtain ⟨r1, e1, q⟩ := hstep y (by rw [e]; simp) r hS
      refine ⟨r1, e1, q.mono fun b r2 ⟨eb, z⟩ => ?_⟩
      subst eb
      cases hp : p y with
      | true =>
        rw [hp, if_pos rfl] at z
        rw [if_pos rfl]
        exact z.mono fun w r3 ⟨e2, s3⟩ => ⟨s3, A ++ [y], B, by rw [e]; simp, rfl, by rw [e2, List.filter_append]; simp [hp]⟩
      | false =>
        rw [hp, if_neg Bool.false_ne_true] at z
        rw [if_neg (Bool.false_ne_true)]
        exact ⟨z, A ++ [y], B, by rw [e]; simp, rfl, by rw [List.filter_append]; simp [hp]⟩
/-- [Gf i j for i in range(n) for j in range(m i)] -/
def prs (n : Nat) (m : Nat → Nat) : List (Nat × Nat) := (List.range n).flatMap fun i => (List.range (m i)).map fun j => (i, j)
theorem prs_succ {n : Nat} {m : Nat → Nat} : prs (n + 1) m = prs n m ++ (List.range (m n)).map fun j => (n, j) := by
  unfold prs
  rw [List.range_succ, List.flatMap_append]
  simp
theorem comp2_rng {it1 : ISem} {t1 : TgF} {tt1 : Rho → Out Bool} {vs1 : List Nat} {n : Nat} {m : Nat → Nat} (Gf : Nat → Nat → D) (S : Rho → Prop) (h0 : S ρ0)
    (hstep : ∀ i < n, ∀ r, S r → ∃ r1, t (.int (i : Int)) (wipeR r vs) = some r1 ∧ Gs (tt r1) fun b r2 => b = true ∧ Gs (it1 r2) fun ys r3 => ys.length ≤ 1000 ∧ Gs (compL vs1 t1 tt1 el ys r3) fun us r4 => us = ((List.range (m i)).map fun j => .d (Gf i j)) ∧ S r4)
    (hend : ∀ r, S r → PL ((prs n m).map fun p => .d (Gf p.1 p.2)) r) : Gs (compL2 vs vs1 t tt it1 t1 tt1 el (rngD 0 n) ρ0) PL := by
  rw [rngD_eq]
  refine comp2_inv (I := fun xs acc r => S r ∧ ∃ j, j ≤ n ∧ xs = ((List.range n).map fun (j : Nat) => PyData.int (j : Int)).drop j ∧ acc = (prs j m).map fun p => .d (Gf p.1 p.2)) ?_ ?_ ⟨h0, 0, by omega, by simp, rfl⟩
  · rintro acc r ⟨hS, j, hj, e, rfl⟩
    have ej : j = n := by
      have := congrArg List.length e
      simp at this
      omega
    subst ej
    exact hend r hS
  · rintro x xs acc r ⟨hS, j, hj, e, rfl⟩
    have hlt : j < n := by
      have := congrArg List.length e
      simp at this
      omega
    have ex : ((List.range n).map fun (j : Nat) => PyData.int (j : Int)).drop j = PyData.int (j : Int) :: ((List.range n).map fun (j : Nat) => PyData.int (j : Int)).drop (j + 1) := by
      rw [List.drop_eq_getElem_cons (by simp; omega)]
      simp
    rw [ex] at e
    cases e
    obtain ⟨r1, e1, q⟩ := hstep j hlt r hS
    refine ⟨r1, e1, q.mono fun b r2 ⟨eb, z⟩ => ?_⟩
    rw [if_pos eb]
    exact z.mono fun ys r3 ⟨hy, y⟩ => ⟨hy, y.mono fun us r4 ⟨eu, s4⟩ => ⟨s4, j + 1, by omega, by simp, by rw [eu, prs_succ]; simp [Function.comp_def]⟩⟩
theorem prs_all {n : Nat} {m : Nat → Nat} {f : Nat → Nat → Bool} : (prs n m).all (fun p => f p.1 p.2) = (List.range n).all fun i => (List.range (m i)).all fun j => f i j := by
  unfold prs
  simp [List.all_flatMap, List.all_map, Function.comp_def]
end
end FW

set_option Elab.async false
set_option linter.all false
set_option maxRecDepth 100000
set_option maxHeartbeats 1000001
namespace FW
open PySem PySem.Spec L2
/-! # The plain layer: what a def computes, as a function on data -/
inductive R (α : Type) where
  | ok (a : α)
  | exc (x : Xn)
  | bad
def R.bind {α β : Type} (m : R α) (k : α → R β) : R β := match m with
  | .ok a => k a
  | .exc x => .exc x
  | .bad => .bad
@[simp] theorem R.bind_ok {α β : Type} (a : α) (k : α → R β) : (R.ok a).bind k = k a := rfl
@[simp] theorem R.bind_exc {α β : Type} (x : Xn) (k : α → R β) : (R.exc x : R α).bind k = .exc x := rfl
@[simp] theorem R.bind_bad {α β : Type} (k : α → R β) : (R.bad : R α).bind k = .bad := rfl
@[simp] theorem R.bind_assoc {α β γ : Type} (m : R α) (k : α → R β) (l : β → R γ) : (m.bind k).bind l = m.bind fun a => (k a).bind l := by cases m <;> rfl
theorem R.bind_pure {α : Type} (m : R α) : m.bind .ok = m := by cases m <;> rfl
def R.ofO {α : Type} : Option α → R α
  | some a => .ok a
  | none => .bad
@[simp] theorem R.ofO_some {α : Type} (a : α) : R.ofO (some a) = .ok a := rfl
@[simp] theorem R.ofO_none {α : Type} : R.ofO (none : Option α) = .bad := rfl
def R.ofW : Option Wv → R D
  | some w => if w.nos = true then .ok w.dat else .bad
  | none => .bad
@[simp] theorem R.ofW_some (w : Wv) : R.ofW (some w) = if w.nos = true then .ok w.dat else .bad := rfl
@[simp] theorem R.ofW_none : R.ofW none = .bad := rfl
def R.nox {α : Type} : R α → R α
  | .exc _ => .bad
  | r => r
@[simp] theorem R.nox_ok {α : Type} (a : α) : (R.ok a).nox = .ok a := rfl
@[simp] theorem R.nox_bad {α : Type} : (R.bad : R α).nox = .bad := rfl
/-- a computation, maybe with a list of one's own that is changed (where draws come from) -/
def S (α : Type) : Type := List D → R (α × List D)
class Mo (m : Type → Type) where
  lift : {α : Type} → R α → m α
  bind : {α β : Type} → m α → (α → m β) → m β
  run : {α : Type} → m α → List D → R (α × List D)
  run_lift : ∀ {α : Type} (r : R α) (dk : List D), run (lift r) dk = r.bind fun a => .ok (a, dk)
  run_bind : ∀ {α β : Type} (a : m α) (k : α → m β) (dk : List D), run (bind a k) dk = (run a dk).bind fun p => run (k p.1) p.2
  nx : {α : Type} → m α → m α
  run_nx : ∀ {α : Type} (a : m α) (dk : List D), run (nx a) dk = (run a dk).nox
instance : Mo R where
  lift r := r
  bind a k := a.bind k
  run r dk := r.bind fun a => .ok (a, dk)
  run_lift _ _ := rfl
  run_bind a k dk := by cases a <;> rfl
  nx r := r.nox
  run_nx a dk := by cases a <;> rfl
instance : Mo S where
  lift r := fun dk => r.bind fun a => .ok (a, dk)
  bind a k := fun dk => (a dk).bind fun p => k p.1 p.2
  run a dk := a dk
  run_lift _ _ := rfl
  run_bind _ _ _ := rfl
  nx a := fun dk => (a dk).nox
  run_nx _ _ := rfl
@[simp] theorem liftR {α : Type} (r : R α) : (Mo.lift r : R α) = r := rfl
@[simp] theorem bindR {α β : Type} (a : R α) (k : α → R β) : (Mo.bind a k : R β) = a.bind k := rfl
@[simp] theorem liftS {α : Type} (r : R α) (dk : List D) : (Mo.lift r : S α) dk = r.bind fun a => .ok (a, dk) := rfl
@[simp] theorem bindS {α β : Type} (a : S α) (k : α → S β) (dk : List D) : (Mo.bind a k : S β) dk = (a dk).bind fun p => k p.1 p.2 := rfl
/-! ## the text's operations -/
section
variable {m : Type → Type} [Mo m] {α β τ μ : Type}
def pur (a : α) : m α := Mo.lift (.ok a)
abbrev bnd (a : m α) (k : α → m β) : m β := Mo.bind a k
@[simp] theorem purR (a : α) : (pur a : R α) = .ok a := rfl
@[simp] theorem purS (a : α) (dk : List D) : (pur a : S α) dk = .ok (a, dk) := rfl
@[simp] theorem run_pur (a : α) (dk : List D) : Mo.run (pur a : m α) dk = .ok (a, dk) := by unfold pur; rw [Mo.run_lift]; rfl
def bin (p : D → D → Option Wv) (a b : m D) : m D := Mo.bind a fun x => Mo.bind b fun y => Mo.lift (R.ofW (p x y))
def chn (p p' : Int → Int → Bool) (a b c : m D) : m D := Mo.bind a fun x => Mo.bind b fun y => Mo.bind (Mo.lift (R.ofO (intB p x y))) fun k => if k = true then Mo.bind c fun z => Mo.bind (Mo.lift (R.ofO (intB p' y z))) fun k => pur (.bool k) else pur (.bool false)
def onB (d : D) (t f : m α) : m α := match d with
  | .bool true => t
  | .bool false => f
  | _ => Mo.lift .bad
@[simp] theorem onB_t (t f : m α) : onB (.bool true) t f = t := rfl
@[simp] theorem onB_f (t f : m α) : onB (.bool false) t f = f := rfl
theorem onB_b (b : Bool) (t f : m α) : onB (.bool b) t f = if b = true then t else f := by cases b <;> rfl
def andV (a b : m D) : m D := Mo.bind a fun d => onB d b (pur (.bool false))
def orV (a b : m D) : m D := Mo.bind a fun d => onB d (pur (.bool true)) b
def notV (a : m D) : m D := Mo.bind a fun d => onB d (pur (.bool false)) (pur (.bool true))
def negV (a : m D) : m D := Mo.bind a fun d => Mo.lift (R.ofO ((intD d).map fun i => .int (-i)))
def tst (a : m D) : m Bool := Mo.bind a fun d => Mo.lift (R.ofO (boolD d))
def tand (a b : m Bool) : m Bool := Mo.bind a fun k => if k = true then b else pur false
def tor (a b : m Bool) : m Bool := Mo.bind a fun k => if k = true then pur true else b
def tnot (a : m Bool) : m Bool := Mo.bind a fun k => pur (!k)
def ifE (t : m Bool) (a b : m α) : m α := Mo.bind t fun k => if k = true then a else b
def acons (a : m D) (as : m (List D)) : m (List D) := Mo.bind a fun d => Mo.bind as fun ds => pur (d :: ds)
def astar (a : m D) (as : m (List D)) : m (List D) := Mo.bind a fun d => Mo.bind (Mo.lift (R.ofO (itemsD d))) fun xs => Mo.bind as fun ds => pur (xs ++ ds)
def capd (as : m (List D)) : m (List D) := Mo.bind as fun ds => if ds.length ≤ 1000000 then pur ds else Mo.lift .bad
def tupE (as : m (List D)) : m D := Mo.bind (capd as) fun ds => pur (.tuple ds)
def lstD (as : m (List D)) : m D := Mo.bind as fun ds => pur (.list ds)
def prim (pr : List D → Option Wv) (as : m (List D)) : m D := Mo.bind as fun ds => Mo.lift (R.ofW (pr ds))
def isiE (T : String) (a : m D) : m D := Mo.bind a fun d => pur (.bool (isiD T d))
def lenE (v : D) : m D := Mo.lift (R.ofO ((lenW (.d v)).map .int))
def cutE (a : m D) (lo hi : m (Option Int)) : m D := Mo.bind a fun d => Mo.bind lo fun l => Mo.bind hi fun h => Mo.lift (R.ofW (pCut d l h))
def partE (a : m D) : m (Option Int) := Mo.bind a fun d => Mo.lift (R.ofO ((intD d).map some))
def call (p : List D → R D) (as : m (List D)) : m D := Mo.bind as fun ds => Mo.lift (p ds)
def callK (p : List D → R D) (n : Nat) (is : List Nat) (as : m (List D)) : m D := Mo.bind as fun ds => if ds.length = n then Mo.lift (p (pick is ds)) else Mo.lift .bad
def atE (v : D) (i : m D) : m D := Mo.bind i fun d => Mo.lift (R.ofO ((intD d).bind fun k => (atW (.d v) k).bind datW))
def at2E (vss : List (List D)) (i j : Option Int) : m D := Mo.lift (R.ofO (i.bind fun i => j.bind fun j => (atI vss i).bind fun vs => atI vs j))
def items (a : m D) : m (List D) := Mo.bind a fun d => Mo.lift (R.ofO (itemsD d))
def rng1O : List D → Option (List D)
  | [.int j] => if j ≤ 1000000 ∧ -1000000 ≤ j then some (rngD 0 j.toNat) else none
  | _ => none
def rng2O : List D → Option (List D)
  | [.int i, .int j] => if (i ≤ 1000000 ∧ -1000000 ≤ i) ∧ j ≤ 1000000 ∧ -1000000 ≤ j then some (rngD i (j - i).toNat) else none
  | _ => none
def zipO : List D → Option (List D)
  | [x, y] => (itemsD x).bind fun xs => (itemsD y).map fun ys => zipD xs ys
  | _ => none
def enuO : List D → Option (List D)
  | [x] => (itemsD x).map fun xs => enumD 0 xs
  | _ => none
def rng1 (as : m (List D)) : m (List D) := Mo.bind as fun ds => Mo.lift (R.ofO (rng1O ds))
def rng2 (as : m (List D)) : m (List D) := Mo.bind as fun ds => Mo.lift (R.ofO (rng2O ds))
def zipE (as : m (List D)) : m (List D) := Mo.bind as fun ds => Mo.lift (R.ofO (zipO ds))
def enuE (as : m (List D)) : m (List D) := Mo.bind as fun ds => Mo.lift (R.ofO (enuO ds))
/-! ### things taken apart -/
def un2 (x : D) (k : D → D → m α) : m α := match x with
  | .tuple [a, b] => k a b
  | _ => Mo.lift .bad
def un3 (x : D) (k : D → D → D → m α) : m α := match x with
  | .tuple [a, b, c] => k a b c
  | _ => Mo.lift .bad
def un4 (x : D) (k : D → D → D → D → m α) : m α := match x with
  | .tuple [a, b, c, d] => k a b c d
  | _ => Mo.lift .bad
@[simp] theorem un2_t {a b : D} {k : D → D → m α} : un2 (.tuple [a, b]) k = k a b := rfl
@[simp] theorem un3_t {a b c : D} {k : D → D → D → m α} : un3 (.tuple [a, b, c]) k = k a b c := rfl
@[simp] theorem un4_t {a b c d : D} {k : D → D → D → D → m α} : un4 (.tuple [a, b, c, d]) k = k a b c d := rfl
/-! ### comprehensions, loops -/
@[simp] theorem nxR (r : R α) : (Mo.nx r : R α) = r.nox := rfl
@[simp] theorem nxS (r : S α) (dk : List D) : (Mo.nx r : S α) dk = (r dk).nox := rfl
def mapM' (f : D → m D) : List D → m (List D)
  | [] => pur []
  | x :: xs => Mo.bind (f x) fun y => Mo.bind (mapM' f xs) fun ys => pur (y :: ys)
def optM (f : D → m (Option D)) : List D → m (List D)
  | [] => pur []
  | x :: xs => Mo.bind (f x) fun y => Mo.bind (optM f xs) fun ys => pur (y.toList ++ ys)
def flatM' (f : D → m (List D)) : List D → m (List D)
  | [] => pur []
  | x :: xs => Mo.bind (f x) fun y => Mo.bind (flatM' f xs) fun ys => pur (y ++ ys)
def whenE (t : m Bool) (a : m α) : m (Option α) := Mo.bind t fun k => if k = true then Mo.bind a fun x => pur (some x) else pur none
def whenL (t : m Bool) (a : m (List α)) : m (List α) := Mo.bind t fun k => if k = true then a else pur []
def cap (n : Nat) (it : m (List D)) (k : List D → m α) : m α := Mo.bind it fun xs => if xs.length ≤ n then k xs else Mo.lift .bad
def foldM' (f : D → τ → m τ) : List D → τ → m τ
  | [], t => pur t
  | x :: xs, t => Mo.bind (f x t) fun t => foldM' f xs t
/-- how a turn ends -/
inductive Fb (τ μ : Type) where
  | nx (t : τ)
  | bk (t : τ)
  | ret (v : μ)
inductive Lr (τ μ : Type) where
  | go (t : τ)
  | ret (v : μ)
def forM' (f : D → τ → m (Fb τ μ)) : List D → τ → m (Lr τ μ)
  | [], t => pur (.go t)
  | x :: xs, t => Mo.bind (f x t) fun r => match r with
    | .nx t => forM' f xs t
    | .bk t => pur (.go t)
    | .ret v => pur (.ret v)
def thenL (a : m (Lr τ μ)) (k : τ → m μ) : m μ := Mo.bind a fun r => match r with
  | .go t => k t
  | .ret v => pur v
def thenB {σ : Type} (a : m (Lr σ μ)) (k : σ → m (Fb τ μ)) : m (Fb τ μ) := Mo.bind a fun r => match r with
  | .go t => k t
  | .ret v => pur (.ret v)
def goL (a : m (Lr τ Empty)) : m τ := Mo.bind a fun r => match r with
  | .go t => pur t
  | .ret v => nomatch v
def appE (vs : List D) (a : m D) : m (List D) := Mo.bind a fun v => if vs.length < 1000000 then pur (vs ++ [v]) else Mo.lift .bad
def setL (vs : List D) (i : Option Int) (v : D) : R (List D) := R.ofO (i.bind fun k => (ixN vs.length k).bind fun j => if j < vs.length then some (vs.set j v) else none)
end
def whileN {τ μ : Type} (g : τ → R Bool) (b : τ → R (Fb τ μ)) : Nat → τ → R (Lr τ μ)
  | 0, _ => .bad
  | n + 1, t => (g t).bind fun k => if k = true then (b t).bind fun r => (match r with
      | .nx t => whileN g b n t
      | .bk t => .ok (.go t)
      | .ret v => .ok (.ret v)) else .ok (.go t)
open Classical in
noncomputable def whileR {τ μ : Type} (g : τ → R Bool) (b : τ → R (Fb τ μ)) (t : τ) : R (Lr τ μ) := if h : ∃ n, whileN g b n t ≠ .bad then whileN g b h.choose t else .bad
/-! ## how they stand to the meanings -/
inductive Sl where
  | j
  | d (v : D)
  | a (v : D)
  | o (vs : List D)
  | oo (vs : List (List D))
  | s (ns : List Int)
  | k
abbrev ow (vs : List D) : Wv := .o (vs.map .d)
def SlR (dk : List D) : Sl → Option Wv → Prop
  | .j, _ => True
  | .d v, y => y = some (.d v)
  | .a v, y => ∃ w, y = some w ∧ w.nos = true ∧ w.dat = v
  | .o vs, y => y = some (ow vs)
  | .oo vss, y => y = some (.o (vss.map ow))
  | .s ns, y => y = some (.s ns)
  | .k, y => y = some (ow dk)
def Rel (dk : List D) : List Sl → Rho → Prop
  | [], [] => True
  | a :: A, y :: ρ => SlR dk a y ∧ Rel dk A ρ
  | _, _ => False
section
variable {dk dk' : List D} {A B C : List Sl} {ρ : Rho} {i : Nat} {a b : Sl} {y : Option Wv}
theorem Rel.len : ∀ {A : List Sl} {ρ : Rho}, Rel dk A ρ → A.length = ρ.length
  | [], [], _ => rfl
  | _ :: _, _ :: _, h => congrArg Nat.succ (Rel.len h.2)
  | [], _ :: _, h => h.elim
  | _ :: _, [], h => h.elim
theorem Rel.get : ∀ {A : List Sl} {ρ : Rho} {i : Nat}, Rel dk A ρ → A[i]? = some a → ∃ y, ρ[i]? = some y ∧ SlR dk a y
  | _ :: _, y :: _, 0, h, e => ⟨y, rfl, by cases e; exact h.1⟩
  | _ :: _, _ :: _, i + 1, h, e => Rel.get (i := i) h.2 (by simpa using e)
  | [], _, _, _, e => by simp at e
  | _ :: _, [], _, h, _ => h.elim
theorem Rel.set : ∀ {A : List Sl} {ρ : Rho} {i : Nat}, Rel dk A ρ → SlR dk a y → Rel dk (A.set i a) (ρ.set i y)
  | [], [], _, _, _ => trivial
  | _ :: _, _ :: _, 0, h, s => ⟨s, h.2⟩
  | _ :: _, _ :: _, i + 1, h, s => ⟨h.1, Rel.set h.2 s⟩
  | [], _ :: _, _, h, _ => h.elim
  | _ :: _, [], _, h, _ => h.elim
/-- one's own list replaced -/
theorem Rel.setK : ∀ {A : List Sl} {ρ : Rho} {i : Nat}, Rel dk A ρ → (∀ j, j ≠ i → A[j]? ≠ some Sl.k) → Rel dk' (A.set i .k) (ρ.set i (some (ow dk')))
  | [], [], _, _, _ => trivial
  | a :: A, _ :: _, 0, h, s => by
    refine ⟨rfl, ?_⟩
    have s' : ∀ j, A[j]? ≠ some Sl.k := fun j e => s (j + 1) (by omega) (by simpa using e)
    exact go h.2 s'
  | a :: A, y :: _, i + 1, h, s => by
    refine ⟨?_, Rel.setK h.2 fun j hj e => s (j + 1) (by omega) (by simpa using e)⟩
    have n0 : a ≠ .k := fun e => s 0 (by omega) (by simp [e])
    have h1 := h.1
    cases a with
    | k => exact absurd rfl n0
    | _ => exact h1
  | [], _ :: _, _, h, _ => h.elim
  | _ :: _, [], _, h, _ => h.elim
where
  go : ∀ {A : List Sl} {ρ : Rho}, Rel dk A ρ → (∀ j : Nat, A[j]? ≠ some Sl.k) → Rel dk' A ρ
  | [], [], _, _ => trivial
  | a :: A, _ :: _, h, s => by
    refine ⟨?_, go h.2 fun j e => s (j + 1) (by simpa using e)⟩
    have n0 : a ≠ .k := fun e => s 0 (by simp [e])
    have h1 := h.1
    cases a with
    | k => exact absurd rfl n0
    | _ => exact h1
  | [], _ :: _, h, _ => h.elim
  | _ :: _, [], h, _ => h.elim
/-- told less of the slots -/
def SLe (a b : Sl) : Prop := ∀ dk y, SlR dk a y → SlR dk b y
def Le (A B : List Sl) : Prop := ∀ dk ρ, Rel dk A ρ → Rel dk B ρ
theorem Le.rfl' : Le A A := fun _ _ h => h
theorem Le.trans (h : Le A B) (k : Le B C) : Le A C := fun dk ρ x => k dk ρ (h dk ρ x)
theorem Le.nil : Le [] [] := fun _ _ h => h
theorem Le.cons (h : SLe a b) (k : Le A B) : Le (a :: A) (b :: B) := fun dk ρ x => by
  cases ρ with
  | nil => exact x.elim
  | cons y ρ => exact ⟨h dk y x.1, k dk ρ x.2⟩
theorem SLe.re : SLe a a := fun _ _ h => h
theorem SLe.ju : SLe a .j := fun _ _ _ => trivial
theorem SLe.da {v : D} : SLe (.d v) (.a v) := fun _ _ h => ⟨.d v, h, nos_d, dat_d⟩
theorem SLe.oa {vs : List D} : SLe (.o vs) (.a (.list vs)) := fun _ _ h => ⟨ow vs, h, nos_o_ds, dat_o_ds⟩
theorem Rel.setJ (h : Rel dk A ρ) : Rel dk (A.set i .j) (ρ.set i y) := h.set trivial
/-- slots that are known of nothing -/
def junkAt (A : List Sl) (vs : List Nat) : Bool := vs.all fun v => match A[v]? with
  | some .j => true
  | _ => false
theorem junkAt_get {vs : List Nat} (h : junkAt A vs = true) {v : Nat} (hv : v ∈ vs) : A[v]? = some .j := by
  have := List.all_eq_true.mp h v hv
  revert this
  split <;> simp_all
theorem set_j (h : A[i]? = some .j) : A.set i .j = A := by
  apply List.ext_getElem?
  intro k
  by_cases e : i = k
  · subst e
    rw [List.getElem?_set_self (List.getElem?_eq_some_iff.mp h).1, h]
  · rw [List.getElem?_set_ne e]
theorem Rel.wipe {vs : List Nat} (h : Rel dk A ρ) (hv : junkAt A vs = true) : Rel dk A (wipeR ρ vs) := by
  induction vs with
  | nil => exact h
  | cons v vs ih =>
    have hj : A[v]? = some .j := junkAt_get hv List.mem_cons_self
    have h1 := ih (by
      unfold junkAt at hv ⊢
      rw [List.all_cons, Bool.and_eq_true] at hv
      exact hv.2)
    have := h1.setJ (i := v) (y := none)
    rwa [set_j hj] at this
theorem Rel.rest {vs : List Nat} {ρ0 : Rho} (h : Rel dk A ρ) (hv : junkAt A vs = true) : Rel dk A (restR ρ0 vs ρ) := by
  induction vs with
  | nil => exact h
  | cons v vs ih =>
    have hj : A[v]? = some .j := junkAt_get hv List.mem_cons_self
    have h1 := ih (by
      unfold junkAt at hv ⊢
      rw [List.all_cons, Bool.and_eq_true] at hv
      exact hv.2)
    have := h1.setJ (i := v) (y := match ρ0[v]? with
      | some (some (.d x)) => some (.d x)
      | _ => none)
    rwa [set_j hj] at this
/-- the slots of a comprehension are put back as they were -/
def jset (A : List Sl) : List Nat → List Sl
  | [] => A
  | v :: vs => (jset A vs).set v .j
def backA (A0 A : List Sl) : List Nat → List Sl
  | [] => A
  | v :: vs => (backA A0 A vs).set v (match A0[v]? with
    | some (.d x) => .d x
    | _ => .j)
theorem Rel.jset {vs : List Nat} (h : Rel dk A ρ) : Rel dk (jset A vs) ρ := by
  induction vs with
  | nil => exact h
  | cons v vs ih =>
    have := ih.setJ (i := v) (y := ρ.getD v none)
    rw [show ρ.set v (ρ.getD v none) = ρ from ?_] at this
    · exact this
    · apply List.ext_getElem?
      intro k
      by_cases e : v = k
      · subst e
        by_cases hl : v < ρ.length
        · rw [List.getElem?_set_self hl, List.getD, List.getElem?_eq_getElem hl]; rfl
        · rw [List.getElem?_eq_none (by simpa using hl), List.getElem?_eq_none (by omega)]
      · rw [List.getElem?_set_ne e]
theorem Rel.back {vs : List Nat} {ρ0 : Rho} {dk0 : List D} (h0 : Rel dk0 B ρ0) (h : Rel dk A ρ) : Rel dk (backA B A vs) (restR ρ0 vs ρ) := by
  induction vs with
  | nil => exact h
  | cons v vs ih =>
    refine ih.set ?_
    cases e : B[v]? with
    | none => exact trivial
    | some b =>
      obtain ⟨y, e1, e2⟩ := h0.get e
      rw [e1]
      cases b with
      | d x => rw [show y = some (.d x) from e2]; rfl
      | _ => exact trivial
end
end FW

set_option Elab.async false
set_option linter.all false
set_option maxRecDepth 100000
set_option maxHeartbeats 1000001
namespace FW
open PySem PySem.Spec L2
/-! # The plain layer: a meaning's answer and the plain one's -/
def Sm {α β : Type} (V : β → α → Rho → Prop) (o : Out α) (g : R β) : Prop := match g with
  | .ok b => ∃ a r, o = .ok a r ∧ V b a r
  | .exc x => ∃ r, o = .exc x r
  | .bad => True
theorem Sm.bind {α β α' β' : Type} {V : β → α → Rho → Prop} {W : β' → α' → Rho → Prop} {o : Out α} {g : R β} {F : α → Rho → Out α'} {l : β → R β'} (h : Sm V o g) (k : ∀ b a r, V b a r → Sm W (F a r) (l b)) : Sm W (o.bind F) (g.bind l) := by
  cases g with
  | ok b =>
    obtain ⟨a, r, rfl, hv⟩ := h
    exact k b a r hv
  | exc x =>
    obtain ⟨r, rfl⟩ := h
    exact ⟨r, rfl⟩
  | bad => trivial
theorem Sm.imp {α β : Type} {V W : β → α → Rho → Prop} {o : Out α} {g : R β} (h : Sm V o g) (k : ∀ b a r, V b a r → W b a r) : Sm W o g := by
  cases g with
  | ok b =>
    obtain ⟨a, r, rfl, hv⟩ := h
    exact ⟨a, r, rfl, k b a r hv⟩
  | exc x => exact h
  | bad => trivial
structure J {m : Type → Type} [Mo m] {α β : Type} (A : List Sl) (f : Rho → Out α) (g : m β) (V : List D → β → α → Rho → Prop) : Prop where
  run : ∀ dk ρ, Rel dk A ρ → Sm (fun (p : β × List D) a r => V p.2 p.1 a r) (f ρ) (Mo.run g dk)
instance {m : Type → Type} [Mo m] {α β : Type} {A : List Sl} {f : Rho → Out α} {g : m β} {V : List D → β → α → Rho → Prop} : CoeFun (J A f g V) (fun _ => ∀ dk ρ, Rel dk A ρ → Sm (fun (p : β × List D) a r => V p.2 p.1 a r) (f ρ) (Mo.run g dk)) := ⟨J.run⟩
abbrev EqV {α : Type} (B : List Sl) : List D → α → α → Rho → Prop := fun dk b a r => a = b ∧ Rel dk B r
abbrev RpV {β : Type} (rep : β → Wv) (B : List Sl) : List D → β → Wv → Rho → Prop := fun dk b a r => a = rep b ∧ Rel dk B r
abbrev JE {m : Type → Type} [Mo m] {α : Type} (A : List Sl) (f : Rho → Out α) (g : m α) (B : List Sl) : Prop := J A f g (EqV B)
abbrev JV {m : Type → Type} [Mo m] {β : Type} (rep : β → Wv) (A : List Sl) (f : ES) (g : m β) (B : List Sl) : Prop := J A f g (RpV rep B)
abbrev fzF (f : ES) : Rho → Out D := fun ρ => fz (f ρ)
abbrev oow (vs : List (List D)) : Wv := .o (vs.map ow)
section
variable {m : Type → Type} [Mo m] {α β α' β' τ μ σ : Type} {A B C A1 A2 A3 : List Sl} {f fa fb fc : ES} {g ga gb gc : m D} {i s : Nat} {v : D} {vs : List D}
theorem J.bind {f : Rho → Out α} {F : α → Rho → Out α'} {g : m β} {l : β → m β'} {V : List D → β → α → Rho → Prop} {W : List D → β' → α' → Rho → Prop} (h : J A f g V)
    (k : ∀ b a dk r, V dk b a r → Sm (fun (p : β' × List D) a r => W p.2 p.1 a r) (F a r) (Mo.run (l b) dk)) : J A (fun ρ => (f ρ).bind F) (Mo.bind g l) W := J.mk fun dk ρ hρ => by
  rw [Mo.run_bind]
  exact Sm.bind (h dk ρ hρ) fun p a r hv => k p.1 a p.2 r hv
theorem J.seq {f : Rho → Out α} {F : α → Rho → Out α'} {g : m α} {l : α → m β'} {W : List D → β' → α' → Rho → Prop} (h : JE A f g B)
    (k : ∀ b, J B (F b) (l b) W) : J A (fun ρ => (f ρ).bind F) (Mo.bind g l) W := h.bind fun b a dk r ⟨e, hr⟩ => by subst e; exact k a dk r hr
theorem J.seqV {rep : β → Wv} {f : ES} {F : Wv → Rho → Out α'} {g : m β} {l : β → m β'} {W : List D → β' → α' → Rho → Prop} (h : JV rep A f g B)
    (k : ∀ b, J B (F (rep b)) (l b) W) : J A (fun ρ => (f ρ).bind F) (Mo.bind g l) W := h.bind fun b a dk r ⟨e, hr⟩ => by subst e; exact k b dk r hr
theorem j_pur {b : α} : JE A (fun ρ => .ok b ρ) (pur b : m α) A := J.mk fun dk ρ h => by rw [run_pur]; exact ⟨b, ρ, rfl, rfl, h⟩
theorem j_purV {rep : β → Wv} {b : β} : JV rep A (fun ρ => .ok (rep b) ρ) (pur b : m β) A := J.mk fun dk ρ h => by rw [run_pur]; exact ⟨rep b, ρ, rfl, rfl, h⟩
theorem j_bad {f : Rho → Out α} {V : List D → β → α → Rho → Prop} : J A f (Mo.lift .bad : m β) V := J.mk fun dk ρ h => by rw [Mo.run_lift]; trivial
theorem j_ofO {o : Option α} : JE A (fun ρ => ofO o ρ) (Mo.lift (R.ofO o) : m α) A := by
  cases o with
  | none => exact j_bad
  | some b => exact j_pur
theorem fz_bind {o : Out α} {k : α → Rho → Out Wv} : fz (o.bind k) = o.bind fun a r => fz (k a r) := by cases o <;> rfl
theorem fz_ok {w : Wv} {r : Rho} : fz (.ok w r) = if w.nos = true then .ok w.dat r else .bad := rfl
theorem fz_d {d : D} {r : Rho} : fz (.ok (.d d) r) = .ok d r := rfl
theorem j_ofW {o : Option Wv} : JE A (fun ρ => fz (ofO o ρ)) (Mo.lift (R.ofW o) : m D) A := by
  cases o with
  | none => exact j_bad
  | some w =>
    refine J.mk fun dk ρ h => ?_
    rw [Mo.run_lift, R.ofW_some]
    show Sm _ (fz (.ok w ρ)) _
    rw [fz_ok]
    by_cases e : w.nos = true
    · rw [if_pos e, if_pos e]; exact ⟨_, ρ, rfl, rfl, h⟩
    · rw [if_neg e, if_neg e]; trivial
theorem J.le {f : Rho → Out α} {g : m β} {V : List D → β → α → Rho → Prop} (l : Le A B) (h : J B f g V) : J A f g V := J.mk fun dk ρ hρ => h dk ρ (l dk ρ hρ)
theorem J.imp {f : Rho → Out α} {g : m β} {V W : List D → β → α → Rho → Prop} (h : J A f g V) (k : ∀ dk b a r, V dk b a r → W dk b a r) : J A f g W := J.mk fun dk ρ hρ => (h dk ρ hρ).imp fun p a r => k p.2 p.1 a r
theorem JE.less {f : Rho → Out α} {g : m α} (l : Le B C) (h : JE A f g B) : JE A f g C := h.imp fun dk b a r hv => ⟨hv.1, l dk r hv.2⟩
/-! ## expressions -/
theorem je_var (i : Nat) (h : A[i]? = some (.d v) := by rfl) : JE A (fzF (sVar i)) (pur v : m D) A := J.mk fun dk ρ hρ => by
  obtain ⟨y, e, e2⟩ := hρ.get h
  rw [show y = some (.d v) from e2] at e
  rw [run_pur]
  unfold fzF sVar
  rw [e]
  refine ⟨v, ρ, ?_, rfl, hρ⟩
  show fz (.ok (.d (Wv.dat (.d v))) (ρ.set i (some (.d (Wv.dat (.d v)))))) = _
  rw [dat_d, set_same e]
  rfl
theorem je_varA (i : Nat) (h : A[i]? = some (.a v) := by rfl) : JE A (fzF (sVar i)) (pur v : m D) (A.set i (.d v)) := J.mk fun dk ρ hρ => by
  obtain ⟨y, e, w, e2, e3, e4⟩ := hρ.get h
  rw [e2] at e
  rw [run_pur]
  unfold fzF sVar
  rw [e]
  refine ⟨v, ρ.set i (some (.d v)), ?_, rfl, hρ.set rfl⟩
  show fz (if w.nos = true then .ok (.d w.dat) (ρ.set i (some (.d w.dat))) else .bad) = _
  rw [if_pos e3, e4]
  rfl
theorem nos_ow : (ow vs).nos = true := nos_o_ds
theorem dat_ow : (ow vs).dat = .list vs := dat_o_ds
theorem noss_oow : ∀ vss : List (List D), Wv.noss (vss.map ow) = true
  | [] => noss_nil
  | vs :: vss => by rw [List.map_cons, noss_cons, nos_ow, noss_oow vss]; rfl
theorem dats_oow : ∀ vss : List (List D), Wv.dats (vss.map ow) = vss.map .list
  | [] => dats_nil
  | vs :: vss => by rw [List.map_cons, dats_cons, dat_ow, dats_oow vss]; rfl
theorem je_varO (i : Nat) (h : A[i]? = some (.o vs) := by rfl) : JE A (fzF (sVar i)) (pur (.list vs) : m D) (A.set i (.d (.list vs))) := J.mk fun dk ρ hρ => by
  obtain ⟨y, e, e2⟩ := hρ.get h
  rw [show y = some (ow vs) from e2] at e
  rw [run_pur]
  unfold fzF sVar
  rw [e]
  refine ⟨.list vs, ρ.set i (some (.d (.list vs))), ?_, rfl, hρ.set rfl⟩
  show fz (if (ow vs).nos = true then .ok (.d (ow vs).dat) (ρ.set i (some (.d (ow vs).dat))) else .bad) = _
  rw [if_pos nos_ow, dat_ow]
  rfl
theorem je_varOO (i : Nat) {vss : List (List D)} (h : A[i]? = some (.oo vss) := by rfl) : JE A (fzF (sVar i)) (pur (.list (vss.map .list)) : m D) (A.set i (.d (.list (vss.map .list)))) := J.mk fun dk ρ hρ => by
  obtain ⟨y, e, e2⟩ := hρ.get h
  rw [show y = some (oow vss) from e2] at e
  rw [run_pur]
  unfold fzF sVar
  rw [e]
  refine ⟨.list (vss.map .list), ρ.set i (some (.d (.list (vss.map .list)))), ?_, rfl, hρ.set rfl⟩
  show fz (if (oow vss).nos = true then .ok (.d (oow vss).dat) (ρ.set i (some (.d (oow vss).dat))) else .bad) = _
  rw [nos_o, noss_oow, if_pos rfl, dat_o, dats_oow]
  rfl
theorem je_move (i : Nat) (h : A[i]? = some (.d v) := by rfl) : JE A (fzF (sMove i)) (pur v : m D) (A.set i .j) := J.mk fun dk ρ hρ => by
  obtain ⟨y, e, e2⟩ := hρ.get h
  rw [show y = some (.d v) from e2] at e
  rw [run_pur]
  unfold fzF sMove
  rw [e]
  exact ⟨v, ρ.set i none, rfl, rfl, hρ.setJ⟩
theorem je_moveO (i : Nat) (h : A[i]? = some (.o vs) := by rfl) : JE A (fzF (sMove i)) (pur (.list vs) : m D) (A.set i .j) := J.mk fun dk ρ hρ => by
  obtain ⟨y, e, e2⟩ := hρ.get h
  rw [show y = some (ow vs) from e2] at e
  rw [run_pur]
  unfold fzF sMove
  rw [e]
  refine ⟨.list vs, ρ.set i none, ?_, rfl, hρ.setJ⟩
  show fz (.ok (ow vs) (ρ.set i none)) = _
  rw [fz_ok, if_pos nos_ow, dat_ow]
theorem jo_move (i : Nat) (h : A[i]? = some (.o vs) := by rfl) : JV ow A (sMove i) (pur vs : m (List D)) (A.set i .j) := J.mk fun dk ρ hρ => by
  obtain ⟨y, e, e2⟩ := hρ.get h
  rw [show y = some (ow vs) from e2] at e
  rw [run_pur]
  unfold sMove
  rw [e]
  exact ⟨_, ρ.set i none, rfl, rfl, hρ.setJ⟩
theorem je_k {d : D} : JE A (fzF (sK d)) (pur d : m D) A := j_pur
theorem je_bin {p : D → D → Option Wv} (ha : JE A (fzF fa) ga B) (hb : JE B (fzF fb) gb C) : JE A (fzF (sBin p fa fb)) (bin p ga gb) C := by
  unfold fzF sBin bin
  simp only [fz_bind]
  exact J.seq ha fun x => J.seq hb fun y => j_ofW
theorem je_chn {p p' : Int → Int → Bool} (ha : JE A (fzF fa) ga B) (hb : JE B (fzF fb) gb C) (hc : JE C (fzF fc) gc C) : JE A (fzF (sChain p p' fa fb fc)) (chn p p' ga gb gc) C := by
  unfold fzF sChain chn
  simp only [fz_bind]
  refine J.seq ha fun x => J.seq hb fun y => J.seq j_ofO fun k => ?_
  cases k with
  | true =>
    simp only [↓reduceIte, fz_bind]
    exact J.seq hc fun z => J.seq j_ofO fun k => j_pur
  | false => exact j_pur
theorem onB_bad {d : D} {t e : m α} (h : ∀ b, d ≠ .bool b) : onB d t e = Mo.lift .bad := by
  cases d with
  | bool b => exact absurd rfl (h b)
  | _ => rfl
theorem je_and (ha : JE A (fzF fa) ga B) (hb : JE B (fzF fb) gb B) : JE A (fzF (sAndV fa fb)) (andV ga gb) B := by
  unfold fzF sAndV andV
  simp only [fz_bind]
  refine J.seq ha fun x => ?_
  cases x with
  | bool b =>
    cases b with
    | true => exact hb
    | false => exact j_pur
  | _ => exact j_bad
theorem je_or (ha : JE A (fzF fa) ga B) (hb : JE B (fzF fb) gb B) : JE A (fzF (sOrV fa fb)) (orV ga gb) B := by
  unfold fzF sOrV orV
  simp only [fz_bind]
  refine J.seq ha fun x => ?_
  cases x with
  | bool b =>
    cases b with
    | true => exact j_pur
    | false => exact hb
  | _ => exact j_bad
theorem je_not (ha : JE A (fzF fa) ga B) : JE A (fzF (sNotV fa)) (notV ga) B := by
  unfold fzF sNotV notV
  simp only [fz_bind]
  refine J.seq ha fun x => ?_
  cases x with
  | bool b =>
    cases b with
    | true => exact j_pur
    | false => exact j_pur
  | _ => exact j_bad
theorem je_neg (ha : JE A (fzF fa) ga B) : JE A (fzF (sNeg fa)) (negV ga) B := by
  unfold fzF sNeg negV
  simp only [fz_bind]
  refine J.seq ha fun x => ?_
  cases x with
  | int b => exact j_pur
  | _ => exact j_bad
section
variable {t ta tb : Rho → Out Bool} {gt gu : m Bool}
theorem jt_val (ha : JE A (fzF fa) ga B) : JE A (sT fa) (tst ga) B := by
  unfold sT tst
  exact J.seq ha fun x => j_ofO
theorem jt_and (ha : JE A ta gt B) (hb : JE B tb gu B) : JE A (tAndB ta tb) (tand gt gu) B := by
  unfold tAndB tand
  refine J.seq ha fun x => ?_
  cases x with
  | true => exact hb
  | false => exact j_pur
theorem jt_or (ha : JE A ta gt B) (hb : JE B tb gu B) : JE A (tOrB ta tb) (tor gt gu) B := by
  unfold tOrB tor
  refine J.seq ha fun x => ?_
  cases x with
  | true => exact j_pur
  | false => exact hb
theorem jt_not (ha : JE A ta gt B) : JE A (tNotB ta) (tnot gt) B := by
  unfold tNotB tnot
  exact J.seq ha fun x => j_pur
theorem jt_yes : JE A tYesB (pur true : m Bool) A := j_pur
theorem je_if (ht : JE A t gt B) (ha : JE B (fzF fa) ga C) (hb : JE B (fzF fb) gb C) : JE A (fzF (sIf t fa fb)) (ifE gt ga gb) C := by
  unfold fzF sIf ifE
  simp only [fz_bind]
  refine J.seq ht fun x => ?_
  cases x with
  | true => exact ha
  | false => exact hb
end
section
variable {fs : Rho → Out (List D)} {gs : m (List D)}
theorem ja_nil : JE A aNil (pur [] : m (List D)) A := j_pur
theorem ja_cons (ha : JE A (fzF fa) ga B) (hs : JE B fs gs C) : JE A (aCons fa fs) (acons ga gs) C := by
  unfold aCons acons
  exact J.seq ha fun x => J.seq hs fun xs => j_pur
theorem ja_star (ha : JE A (fzF fa) ga B) (hs : JE B fs gs C) : JE A (aStar fa fs) (astar ga gs) C := by
  unfold aStar astar
  exact J.seq ha fun x => J.seq j_ofO fun xs => J.seq hs fun ys => j_pur
theorem ja_capd (hs : JE A fs gs B) : JE A (fun ρ => (fs ρ).bind fun ds r => if ds.length ≤ 1000000 then .ok ds r else .bad) (capd gs) B := by
  unfold capd
  refine J.seq hs fun ds => ?_
  by_cases h : ds.length ≤ 1000000
  · simp only [if_pos h]; exact j_pur
  · simp only [if_neg h]; exact j_bad
theorem je_tup (hs : JE A fs gs B) : JE A (fzF (sTup fs)) (tupE gs) B := by
  have e : fzF (sTup fs) = fun ρ => ((fs ρ).bind fun ds r => if ds.length ≤ 1000000 then (.ok ds r : Out (List D)) else .bad).bind fun ds r => .ok (.tuple ds) r := by
    funext ρ
    unfold fzF sTup
    cases fs ρ with
    | ok ds r =>
      simp only [Out.bind_ok]
      by_cases h : ds.length ≤ 1000000
      · rw [if_pos h, if_pos h]; rfl
      · rw [if_neg h, if_neg h]; rfl
    | exc _ _ => rfl
    | bad => rfl
  rw [e]
  unfold tupE
  exact J.seq (ja_capd hs) fun ds => j_pur
theorem jo_lst (hs : JE A fs gs B) : JV ow A (sLst fs) (capd gs) B := by
  unfold sLst capd
  refine J.seq hs fun ds => ?_
  by_cases h : ds.length ≤ 1000000
  · simp only [if_pos h]; exact j_purV (m := m) (rep := ow)
  · simp only [if_neg h]; exact j_bad
theorem je_own {gs : m (List D)} (h : JV ow A f gs B) : JE A (fzF f) (lstD gs) B := by
  refine J.mk fun dk ρ hρ => ?_
  unfold lstD
  rw [Mo.run_bind]
  have e : fzF f ρ = (f ρ).bind fun w r => if w.nos = true then .ok w.dat r else .bad := rfl
  rw [e]
  refine Sm.bind (h dk ρ hρ) fun p a r hv => ?_
  obtain ⟨e1, e2⟩ := hv
  rw [run_pur, e1, if_pos nos_ow, dat_ow]
  exact ⟨_, r, rfl, rfl, e2⟩
theorem je_lst (hs : JE A fs gs B) : JE A (fzF (sLst fs)) (lstD (capd gs)) B := je_own (jo_lst hs)
theorem jv_fz (h : JE A (fzF f) g B) : JV .d A (sFz f) g B := by
  refine J.mk fun dk ρ hρ => ?_
  have := h dk ρ hρ
  revert this
  show Sm _ (fz (f ρ)) _ → Sm _ ((fz (f ρ)).bind fun d r => Out.ok (Wv.d d) r) _
  cases Mo.run g dk with
  | ok p =>
    rintro ⟨a, r, e, e1, e2⟩
    rw [e]
    exact ⟨.d a, r, rfl, by rw [e1], e2⟩
  | exc x =>
    rintro ⟨r, e⟩
    rw [e]
    exact ⟨r, rfl⟩
  | bad => intro _; trivial
theorem je_fz (h : JE A (fzF f) g B) : JE A (fzF (sFz f)) g B := by
  refine J.mk fun dk ρ hρ => ?_
  have := jv_fz h dk ρ hρ
  revert this
  show Sm _ (sFz f ρ) _ → Sm _ (fz (sFz f ρ)) _
  cases Mo.run g dk with
  | ok p =>
    rintro ⟨a, r, e, e1, e2⟩
    rw [e, e1]
    exact ⟨p.1, r, rfl, rfl, e2⟩
  | exc x =>
    rintro ⟨r, e⟩
    rw [e]
    exact ⟨r, rfl⟩
  | bad => intro _; trivial
theorem je_prim {pr : List D → Option Wv} (hs : JE A fs gs B) : JE A (fzF (sCall pr fs)) (prim pr gs) B := by
  unfold fzF sCall prim
  simp only [fz_bind]
  exact J.seq hs fun ds => j_ofW
theorem je_isi {T : String} (ha : JE A (fzF fa) ga B) : JE A (fzF (sIsi T fa)) (isiE T ga) B := by
  unfold fzF sIsi isiE
  simp only [fz_bind]
  exact J.seq ha fun d => j_pur
theorem je_len (i : Nat) (h : A[i]? = some (.d v) := by rfl) : JE A (fzF (sLenAt i)) (lenE v : m D) A := J.mk fun dk ρ hρ => by
  obtain ⟨y, e, e2⟩ := hρ.get h
  rw [show y = some (.d v) from e2] at e
  unfold fzF sLenAt lenE
  rw [e, Mo.run_lift]
  show Sm _ (fz ((ofO (lenW (.d v)) ρ).bind _)) _
  cases lenW (.d v) with
  | none => trivial
  | some n => exact ⟨_, ρ, rfl, rfl, hρ⟩
theorem je_lenO (i : Nat) (h : A[i]? = some (.o vs) := by rfl) : JE A (fzF (sLenAt i)) (pur (.int vs.length) : m D) A := J.mk fun dk ρ hρ => by
  obtain ⟨y, e, e2⟩ := hρ.get h
  rw [show y = some (ow vs) from e2] at e
  unfold fzF sLenAt
  rw [e, run_pur]
  exact ⟨_, ρ, by show fz (.ok (.d (.int ((vs.map Wv.d).length : Int))) ρ) = _; rw [List.length_map]; rfl, rfl, hρ⟩
theorem je_lenS (i : Nat) {ns : List Int} (h : A[i]? = some (.s ns) := by rfl) : JE A (fzF (sLenAt i)) (pur (.int ns.length) : m D) A := J.mk fun dk ρ hρ => by
  obtain ⟨y, e, e2⟩ := hρ.get h
  rw [show y = some (.s ns) from e2] at e
  unfold fzF sLenAt
  rw [e, run_pur]
  exact ⟨_, ρ, rfl, rfl, hρ⟩
theorem jp_none : JE A sPartN (pur none : m (Option Int)) A := j_pur
theorem jp_some (ha : JE A (fzF fa) ga B) : JE A (sPart fa) (partE ga) B := by
  unfold sPart partE
  refine J.seq ha fun d => ?_
  cases d with
  | int i => exact j_pur
  | _ => exact j_bad
theorem je_cut {lo hi : Rho → Out (Option Int)} {gl gh : m (Option Int)} (ha : JE A (fzF fa) ga A1) (hl : JE A1 lo gl A2) (hh : JE A2 hi gh A3) : JE A (fzF (sCut fa lo hi)) (cutE ga gl gh) A3 := by
  unfold fzF sCut cutE
  simp only [fz_bind]
  exact J.seq ha fun d => J.seq hl fun l => J.seq hh fun h => j_ofW
/-! ### calls of defs -/
/-- what a def answers: to data -/
def Sd (df : DS) (p : List D → R D) : Prop := ∀ ds, Sm (fun d a _ => a = d) (fz (df (ds.map .d))) (p ds)
/-- with a list of one's own that is handed back -/
def SdO (df : DS) (p : List D → R (List D)) : Prop := ∀ ds, Sm (fun d a _ => a = ow d) (df (ds.map .d)) (p ds)
/-- a def whose first argument is a list of one's own, changed -/
def SdA (df : DS) (p : List D → S D) : Prop := ∀ dk ds, Sm (fun (q : D × List D) a r => a = q.1 ∧ r[0]? = some (some (ow q.2))) (fz (df (ow dk :: ds.map .d))) (p ds dk)
/-- a def whose first argument is the script -/
def SdS (df : DS) (p : List Int → List D → R (List D)) : Prop := ∀ ns ds, Sm (fun d a r => a = ow d ∧ r[0]? = some (some (.s ns))) (df (.s ns :: ds.map .d)) (p ns ds)
/-- a def whose first argument is the script, data handed back -/
def SdT (df : DS) (p : List Int → List D → R D) : Prop := ∀ ns ds, Sm (fun d a r => a = d ∧ r[0]? = some (some (.s ns))) (fz (df (.s ns :: ds.map .d))) (p ns ds)
variable {aw : Rho → Out (List Wv)}
theorem jw_nil : J A wNil (pur [] : m (List D)) (fun dk b a r => a = b.map .d ∧ Rel dk A r) := J.mk fun dk ρ h => by rw [run_pur]; exact ⟨[], ρ, rfl, rfl, h⟩
theorem jw_cons {fw : Rho → Out (List Wv)} (ha : JE A (fzF f) g B) (hs : J B fw gs (fun dk b a r => a = b.map .d ∧ Rel dk C r)) : J A (wCons (sFz f) fw) (acons g gs) (fun dk b a r => a = b.map .d ∧ Rel dk C r) := by
  unfold wCons acons
  refine J.seqV (jv_fz ha) fun d => J.bind hs fun ds ws dk r ⟨e, hr⟩ => ?_
  rw [run_pur, e]
  exact ⟨_, r, rfl, rfl, hr⟩
theorem je_call {df : DS} {p : List D → R D} (F : Sd df p) (ha : J A aw gs (fun dk b a r => a = b.map .d ∧ Rel dk B r)) : JE A (fzF (sCallW df aw)) (call p gs) B := by
  unfold fzF sCallW call
  simp only [fz_bind]
  refine J.bind ha fun ds ws dk r ⟨e, hr⟩ => ?_
  subst e
  have := F ds
  rw [Mo.run_lift]
  revert this
  cases p ds with
  | ok d =>
    rintro ⟨a, r', e1, rfl⟩
    cases z : df (ds.map .d) with
    | ok w r2 =>
      rw [z, fz_ok] at e1
      refine ⟨a, r, ?_, rfl, hr⟩
      show fz (.ok w r) = _
      rw [fz_ok]
      by_cases hn : w.nos = true
      · rw [if_pos hn] at e1 ⊢; cases e1; rfl
      · rw [if_neg hn] at e1; cases e1
    | exc _ _ => rw [z] at e1; cases e1
    | bad => rw [z] at e1; cases e1
  | exc x =>
    rintro ⟨r', e1⟩
    cases z : df (ds.map .d) with
    | ok w r2 =>
      rw [z, fz_ok] at e1
      by_cases hn : w.nos = true
      · rw [if_pos hn] at e1; cases e1
      · rw [if_neg hn] at e1; cases e1
    | exc _ _ => rw [z] at e1; cases e1; exact ⟨r, rfl⟩
    | bad => rw [z] at e1; cases e1
  | bad => intro _; trivial
theorem jo_call {df : DS} {p : List D → R (List D)} (F : SdO df p) (ha : J A aw gs (fun dk b a r => a = b.map .d ∧ Rel dk B r)) : JV ow A (sCallW df aw) (Mo.bind gs fun ds => Mo.lift (p ds)) B := by
  unfold sCallW
  refine J.bind ha fun ds ws dk r ⟨e, hr⟩ => ?_
  subst e
  have := F ds
  rw [Mo.run_lift]
  revert this
  cases p ds with
  | ok d =>
    rintro ⟨a, r', e1, rfl⟩
    rw [e1]
    exact ⟨_, r, rfl, rfl, hr⟩
  | exc x =>
    rintro ⟨r', e1⟩
    rw [e1]
    exact ⟨r, rfl⟩
  | bad => intro _; trivial
theorem je_callK {df : DS} {p : List D → R D} {n : Nat} {is : List Nat} (F : Sd df p) (ha : JE A fs gs B) : JE A (fzF (sCallK df n is fs)) (callK p n is gs) B := by
  unfold fzF sCallK callK
  simp only [fz_bind]
  refine J.seq ha fun ds => ?_
  by_cases hl : ds.length = n
  · simp only [if_pos hl]
    refine J.mk fun dk r hr => ?_
    have := F (pick is ds)
    rw [Mo.run_lift]
    revert this
    cases p (pick is ds) with
    | ok d =>
      rintro ⟨a, r', e1, rfl⟩
      cases z : df ((pick is ds).map .d) with
      | ok w r2 =>
        rw [z, fz_ok] at e1
        refine ⟨a, r, ?_, rfl, hr⟩
        show fz (.ok w r) = _
        rw [fz_ok]
        by_cases hn : w.nos = true
        · rw [if_pos hn] at e1 ⊢; cases e1; rfl
        · rw [if_neg hn] at e1; cases e1
      | exc _ _ => rw [z] at e1; cases e1
      | bad => rw [z] at e1; cases e1
    | exc x =>
      rintro ⟨r', e1⟩
      cases z : df ((pick is ds).map .d) with
      | ok w r2 =>
        rw [z, fz_ok] at e1
        by_cases hn : w.nos = true
        · rw [if_pos hn] at e1; cases e1
        · rw [if_neg hn] at e1; cases e1
      | exc _ _ => rw [z] at e1; cases e1; exact ⟨r, rfl⟩
      | bad => rw [z] at e1; cases e1
    | bad => intro _; trivial
  · simp only [if_neg hl]
    exact j_bad
end
/-! ### places -/
theorem je_at (s : Nat) (hi : JE A (fzF f) g B) (h0 : A[s]? = some (.d v) := by rfl) (h : B[s]? = some (.d v) := by rfl) : JE A (fzF (sAt s f)) (atE v g) B := by
  have e : ∀ dk ρ, Rel dk A ρ → fzF (sAt s f) ρ = (fz (f ρ)).bind fun d r => (match d, r[s]? with
    | .int k, some (some w) => fz (ofO (((atW w k).bind datW).map .d) r)
    | _, _ => .bad) := fun dk ρ hρ => by
    obtain ⟨y, e, e2⟩ := hρ.get h0
    rw [show y = some (.d v) from e2] at e
    unfold fzF sAt
    rw [e]
    simp only [fz_bind]
    congr 1; funext d r
    cases d with
    | int k =>
      cases r[s]? with
      | none => rfl
      | some y => cases y <;> rfl
    | _ => rfl
  refine J.mk fun dk ρ hρ => ?_
  rw [e dk ρ hρ]
  unfold atE
  rw [Mo.run_bind]
  refine Sm.bind (hi dk ρ hρ) fun p d r hv => ?_
  obtain ⟨e1, e2⟩ := hv
  obtain ⟨y, e3, e4⟩ := e2.get h
  rw [show y = some (.d v) from e4] at e3
  rw [e3, e1, Mo.run_lift]
  cases p.1 with
  | int k =>
    show Sm _ (fz (ofO (((atW (.d v) k).bind datW).map .d) r)) ((R.ofO ((atW (.d v) k).bind datW)).bind _)
    cases (atW (.d v) k).bind datW with
    | none => trivial
    | some d => exact ⟨d, r, rfl, rfl, e2⟩
  | _ => trivial
theorem je_atO (s : Nat) (hi : JE A (fzF f) g B) (h0 : A[s]? = some (.o vs) := by rfl) (h : B[s]? = some (.o vs) := by rfl) : JE A (fzF (sAt s f)) (atE (.list vs) g) B := by
  have e : ∀ dk ρ, Rel dk A ρ → fzF (sAt s f) ρ = (fz (f ρ)).bind fun d r => (match d, r[s]? with
    | .int k, some (some w) => fz (ofO (((atW w k).bind datW).map .d) r)
    | _, _ => .bad) := fun dk ρ hρ => by
    obtain ⟨y, e, e2⟩ := hρ.get h0
    rw [show y = some (ow vs) from e2] at e
    unfold fzF sAt
    rw [e]
    simp only [fz_bind]
    congr 1; funext d r
    cases d with
    | int k =>
      cases r[s]? with
      | none => rfl
      | some y => cases y <;> rfl
    | _ => rfl
  refine J.mk fun dk ρ hρ => ?_
  rw [e dk ρ hρ]
  unfold atE
  rw [Mo.run_bind]
  refine Sm.bind (hi dk ρ hρ) fun p d r hv => ?_
  obtain ⟨e1, e2⟩ := hv
  obtain ⟨y, e3, e4⟩ := e2.get h
  rw [show y = some (ow vs) from e4] at e3
  rw [e3, e1, Mo.run_lift]
  cases p.1 with
  | int k =>
    show Sm _ (fz (ofO (((atI (vs.map Wv.d) k).bind datW).map .d) r)) ((R.ofO (((atI vs k).map Wv.d).bind datW)).bind _)
    rw [atI_map]
    cases ((atI vs k).map Wv.d).bind datW with
    | none => trivial
    | some d => exact ⟨d, r, rfl, rfl, e2⟩
  | _ => trivial
theorem je_atS (s : Nat) {ns : List Int} (hi : JE A (fzF f) g B) (h0 : A[s]? = some (.s ns) := by rfl) (h : B[s]? = some (.s ns) := by rfl) : JE A (fzF (sAt s f)) (atE (.list (ns.map .int)) g) B := by
  have e : ∀ dk ρ, Rel dk A ρ → fzF (sAt s f) ρ = (fz (f ρ)).bind fun d r => (match d, r[s]? with
    | .int k, some (some w) => fz (ofO (((atW w k).bind datW).map .d) r)
    | _, _ => .bad) := fun dk ρ hρ => by
    obtain ⟨y, e, e2⟩ := hρ.get h0
    rw [show y = some (.s ns) from e2] at e
    unfold fzF sAt
    rw [e]
    simp only [fz_bind]
    congr 1; funext d r
    cases d with
    | int k =>
      cases r[s]? with
      | none => rfl
      | some y => cases y <;> rfl
    | _ => rfl
  refine J.mk fun dk ρ hρ => ?_
  rw [e dk ρ hρ]
  unfold atE
  rw [Mo.run_bind]
  refine Sm.bind (hi dk ρ hρ) fun p d r hv => ?_
  obtain ⟨e1, e2⟩ := hv
  obtain ⟨y, e3, e4⟩ := e2.get h
  rw [show y = some (.s ns) from e4] at e3
  rw [e3, e1, Mo.run_lift]
  cases p.1 with
  | int k =>
    show Sm _ (fz (ofO ((((atI ns k).map fun i => Wv.d (.int i)).bind datW).map .d) r)) ((R.ofO (((atI (ns.map PyData.int) k).map Wv.d).bind datW)).bind _)
    rw [atI_map, Option.map_map]
    show Sm _ (fz (ofO ((((atI ns k).map fun i => Wv.d (.int i)).bind datW).map .d) r)) ((R.ofO (((atI ns k).map fun i => Wv.d (.int i)).bind datW)).bind _)
    cases ((atI ns k).map fun i => Wv.d (.int i)).bind datW with
    | none => trivial
    | some d => exact ⟨d, r, rfl, rfl, e2⟩
  | _ => trivial
/-- plain places -/
def JI (A : List Sl) (g : IxF) (o : Option Int) : Prop := ∀ dk ρ, Rel dk A ρ → g ρ = o
theorem ji_int {i : Int} : JI A (fun _ => some i) (some i) := fun _ _ _ => rfl
theorem ji_var (i : Nat) (h : A[i]? = some (.d v) := by rfl) : JI A (slotI · i) (intD v) := fun dk ρ hρ => by
  obtain ⟨y, e, e2⟩ := hρ.get h
  rw [show y = some (.d v) from e2] at e
  show slotI ρ i = _
  unfold slotI
  rw [e]
  cases v <;> rfl
theorem ji_add {ga gb : IxF} {a b : Option Int} (ha : JI A ga a) (hb : JI A gb b) : JI A (gAdd ga gb) (a.bind fun i => b.map fun j => i + j) := fun dk ρ hρ => by
  unfold gAdd; rw [ha dk ρ hρ, hb dk ρ hρ]
theorem ji_sub {ga gb : IxF} {a b : Option Int} (ha : JI A ga a) (hb : JI A gb b) : JI A (gSubI ga gb) (a.bind fun i => b.map fun j => i - j) := fun dk ρ hρ => by
  unfold gSubI; rw [ha dk ρ hρ, hb dk ρ hρ]
theorem ji_neg {ga : IxF} {a : Option Int} (ha : JI A ga a) : JI A (gNeg ga) (a.map fun i => -i) := fun dk ρ hρ => by
  unfold gNeg; rw [ha dk ρ hρ]
theorem ji_at (s : Nat) {ga : IxF} {a : Option Int} (ha : JI A ga a) (h : A[s]? = some (.d v) := by rfl) : JI A (gAt s ga) (a.bind fun k => (atW (.d v) k).bind intW) := fun dk ρ hρ => by
  obtain ⟨y, e, e2⟩ := hρ.get h
  rw [show y = some (.d v) from e2] at e
  unfold gAt
  rw [ha dk ρ hρ, e]
theorem ji_atO (s : Nat) {ga : IxF} {a : Option Int} (ha : JI A ga a) (h : A[s]? = some (.o vs) := by rfl) : JI A (gAt s ga) (a.bind fun k => (atI vs k).bind intD) := fun dk ρ hρ => by
  obtain ⟨y, e, e2⟩ := hρ.get h
  rw [show y = some (ow vs) from e2] at e
  unfold gAt
  rw [ha dk ρ hρ, e]
  congr 1; funext k
  show (atI (vs.map Wv.d) k).bind intW = _
  rw [atI_map]
  cases atI vs k with
  | none => rfl
  | some d => cases d <;> rfl
theorem je_at2 (s : Nat) {ga gb : IxF} {a b : Option Int} {vss : List (List D)} (ha : JI A ga a) (hb : JI A gb b) (h : A[s]? = some (.oo vss) := by rfl) : JE A (fzF (sAt2 s ga gb)) (at2E vss a b : m D) A := J.mk fun dk ρ hρ => by
  obtain ⟨y, e, e2⟩ := hρ.get h
  rw [show y = some (oow vss) from e2] at e
  unfold fzF sAt2 at2E
  rw [ha dk ρ hρ, hb dk ρ hρ, e, Mo.run_lift]
  cases a with
  | none => trivial
  | some i =>
    cases b with
    | none => trivial
    | some j =>
      show Sm _ (fz (ofO ((((atI (vss.map ow) i).bind (atW · j)).bind datW).map .d) ρ)) ((R.ofO ((atI vss i).bind fun vs => atI vs j)).bind _)
      rw [atI_map]
      cases atI vss i with
      | none => trivial
      | some vs =>
        show Sm _ (fz (ofO (((atI (vs.map Wv.d) j).bind datW).map .d) ρ)) ((R.ofO (atI vs j)).bind _)
        rw [atI_map]
        cases atI vs j with
        | none => trivial
        | some d => exact ⟨d, ρ, rfl, rfl, hρ⟩
theorem jo_cutS (s : Nat) {ns : List Int} {n : Int} (h : A[s]? = some (.s ns) := by rfl) : JV ow A (sCutS s n) (pur ((cutD ns none (some n)).map .int) : m (List D)) A := J.mk fun dk ρ hρ => by
  obtain ⟨y, e, e2⟩ := hρ.get h
  rw [show y = some (.s ns) from e2] at e
  unfold sCutS
  rw [e, run_pur]
  refine ⟨_, ρ, rfl, ?_, hρ⟩
  show Wv.o _ = Wv.o _
  rw [List.map_map]
  rfl
/-! ### own lists by operations -/
def ownW : Wv → Option (List D)
  | .o ws => ws.mapM datW
  | _ => none
theorem mapM_datW : ∀ {ws : List Wv} {vs : List D}, ws.mapM datW = some vs → ws = vs.map .d
  | [], _, h => by simp at h; subst h; rfl
  | w :: ws, vs, h => by
    rw [List.mapM_cons] at h
    cases w with
    | d x =>
      cases z : ws.mapM datW with
      | none => rw [z] at h; cases h
      | some us =>
        rw [z] at h
        cases h
        rw [mapM_datW z]; rfl
    | o _ => cases h
    | s _ => cases h
theorem ownW_some {w : Wv} {vs : List D} (h : ownW w = some vs) : w = ow vs := by
  cases w with
  | o ws => rw [mapM_datW h]
  | d _ => cases h
  | s _ => cases h
theorem j_ofOwn {o : Option Wv} : JV ow A (fun ρ => ofO o ρ) (Mo.lift (R.ofO (o.bind ownW)) : m (List D)) A := by
  cases o with
  | none => exact j_bad
  | some w =>
    show JV ow A (fun ρ => ofO (some w) ρ) (Mo.lift (R.ofO (ownW w)) : m (List D)) A
    cases z : ownW w with
    | none => exact j_bad
    | some vs => rw [ownW_some z]; exact j_purV
def binO (p : D → D → Option Wv) (a b : m D) : m (List D) := Mo.bind a fun x => Mo.bind b fun y => Mo.lift (R.ofO ((p x y).bind ownW))
def primO (pr : List D → Option Wv) (as : m (List D)) : m (List D) := Mo.bind as fun ds => Mo.lift (R.ofO ((pr ds).bind ownW))
def cutO (a : m D) (lo hi : m (Option Int)) : m (List D) := Mo.bind a fun d => Mo.bind lo fun l => Mo.bind hi fun h => Mo.lift (R.ofO ((pCut d l h).bind ownW))
theorem jo_bin {p : D → D → Option Wv} (ha : JE A (fzF fa) ga B) (hb : JE B (fzF fb) gb C) : JV ow A (sBin p fa fb) (binO p ga gb) C := by
  unfold sBin binO
  exact J.seq ha fun x => J.seq hb fun y => j_ofOwn
theorem jo_prim {pr : List D → Option Wv} {fs : Rho → Out (List D)} {gs : m (List D)} (hs : JE A fs gs B) : JV ow A (sCall pr fs) (primO pr gs) B := by
  unfold sCall primO
  exact J.seq hs fun ds => j_ofOwn
theorem jo_cut {lo hi : Rho → Out (Option Int)} {gl gh : m (Option Int)} (ha : JE A (fzF fa) ga A1) (hl : JE A1 lo gl A2) (hh : JE A2 hi gh A3) : JV ow A (sCut fa lo hi) (cutO ga gl gh) A3 := by
  unfold sCut cutO
  exact J.seq ha fun d => J.seq hl fun l => J.seq hh fun h => j_ofOwn
theorem jo_if {t : Rho → Out Bool} {gt : m Bool} {ga gb : m (List D)} (ht : JE A t gt B) (ha : JV ow B fa ga C) (hb : JV ow B fb gb C) : JV ow A (sIf t fa fb) (ifE gt ga gb) C := by
  unfold sIf ifE
  refine J.seq ht fun x => ?_
  cases x with
  | true => exact ha
  | false => exact hb
/-! ### what is walked -/
section
variable {fs it : ISem} {gs gi : m (List D)}
theorem ji_seq (ha : JE A (fzF fa) ga B) : JE A (iSeq fa) (items ga) B := by
  unfold iSeq items
  exact J.seq ha fun d => j_ofO
theorem iRange1_eq : iRange1 fs = fun ρ => (fs ρ).bind fun ds r => ofO (rng1O ds) r := by
  funext ρ
  unfold iRange1
  congr 1; funext ds r
  rcases ds with _ | ⟨d, _ | ⟨e, ds⟩⟩
  · rfl
  · cases d with
    | int j =>
      show (if j ≤ 1000000 ∧ -1000000 ≤ j then _ else _) = ofO (if j ≤ 1000000 ∧ -1000000 ≤ j then _ else _) r
      split <;> rfl
    | _ => rfl
  · cases d <;> rfl
theorem ji_rng1 (hs : JE A fs gs B) : JE A (iRange1 fs) (rng1 gs) B := by
  rw [iRange1_eq]
  exact J.seq hs fun ds => j_ofO
theorem iRange2_eq : iRange2 fs = fun ρ => (fs ρ).bind fun ds r => ofO (rng2O ds) r := by
  funext ρ
  unfold iRange2
  congr 1; funext ds r
  rcases ds with _ | ⟨d, _ | ⟨e, _ | ⟨f, ds⟩⟩⟩
  · rfl
  · cases d <;> rfl
  · cases d with
    | int i =>
      cases e with
      | int j =>
        show (if (i ≤ 1000000 ∧ -1000000 ≤ i) ∧ j ≤ 1000000 ∧ -1000000 ≤ j then _ else _) = ofO (if (i ≤ 1000000 ∧ -1000000 ≤ i) ∧ j ≤ 1000000 ∧ -1000000 ≤ j then _ else _) r
        split <;> rfl
      | _ => rfl
    | _ => rfl
  · cases d <;> cases e <;> rfl
theorem ji_rng2 (hs : JE A fs gs B) : JE A (iRange2 fs) (rng2 gs) B := by
  rw [iRange2_eq]
  exact J.seq hs fun ds => j_ofO
theorem iZip2_eq : iZip2 fs = fun ρ => (fs ρ).bind fun ds r => ofO (zipO ds) r := by
  funext ρ
  unfold iZip2
  congr 1; funext ds r
  rcases ds with _ | ⟨x, _ | ⟨y, _ | ⟨f, ds⟩⟩⟩
  · rfl
  · rfl
  · show (match itemsD x, itemsD y with | some xs, some ys => Out.ok (zipD xs ys) r | _, _ => Out.bad) = ofO ((itemsD x).bind fun xs => (itemsD y).map fun ys => zipD xs ys) r
    cases itemsD x with
    | none => rfl
    | some xs => cases itemsD y <;> rfl
  · rfl
theorem ji_zip (hs : JE A fs gs B) : JE A (iZip2 fs) (zipE gs) B := by
  rw [iZip2_eq]
  exact J.seq hs fun ds => j_ofO
theorem iEnum1_eq : iEnum1 fs = fun ρ => (fs ρ).bind fun ds r => ofO (enuO ds) r := by
  funext ρ
  unfold iEnum1
  congr 1; funext ds r
  rcases ds with _ | ⟨x, _ | ⟨y, ds⟩⟩
  · rfl
  · show (match itemsD x with | some xs => Out.ok (enumD 0 xs) r | none => Out.bad) = ofO ((itemsD x).map fun xs => enumD 0 xs) r
    cases itemsD x <;> rfl
  · rfl
theorem ji_enum (hs : JE A fs gs B) : JE A (iEnum1 fs) (enuE gs) B := by
  rw [iEnum1_eq]
  exact J.seq hs fun ds => j_ofO
end
/-! ### targets -/
def tgR (t : TgF) (x : D) (f : Rho → Out α) : Rho → Out α := fun ρ => match t x ρ with
  | none => .bad
  | some ρ1 => f ρ1
theorem jg_n {i : Nat} {x : D} {f : Rho → Out α} {g : m β} {V : List D → β → α → Rho → Prop} (hi : i < A.length) (h : J (A.set i (.d x)) f g V) : J A (tgR (gN i) x f) g V := J.mk fun dk ρ hρ => by
  unfold tgR
  rw [gN_e, if_pos (by rw [← hρ.len]; exact hi)]
  exact h dk _ (hρ.set rfl)
theorem jg_2 {t1 t2 : TgF} {x : D} {f : Rho → Out α} {g : D → D → m β} {V : List D → β → α → Rho → Prop} (h : ∀ a b, J A (tgR t1 a (tgR t2 b f)) (g a b) V) : J A (tgR (gT 2 (gsCons t1 (gsCons t2 gsNil))) x f) (un2 x g) V := by
  unfold un2
  split
  · rename_i a b
    have e : tgR (gT 2 (gsCons t1 (gsCons t2 gsNil))) (.tuple [a, b]) f = tgR t1 a (tgR t2 b f) := by
      funext ρ
      unfold tgR
      rw [gT_e]
      simp only [List.length_cons, List.length_nil, Nat.zero_add, Nat.reduceAdd, if_true, gsCons_e, gsNil_e]
      cases t1 a ρ with
      | none => rfl
      | some r1 =>
        show (match (t2 b r1).bind (gsNil []) with | none => Out.bad | some ρ1 => f ρ1) = (match t2 b r1 with | none => Out.bad | some ρ1 => f ρ1)
        cases t2 b r1 <;> rfl
    rw [e]
    exact h a b
  · exact j_bad
theorem jg_3 {t1 t2 t3 : TgF} {x : D} {f : Rho → Out α} {g : D → D → D → m β} {V : List D → β → α → Rho → Prop} (h : ∀ a b c, J A (tgR t1 a (tgR t2 b (tgR t3 c f))) (g a b c) V) : J A (tgR (gT 3 (gsCons t1 (gsCons t2 (gsCons t3 gsNil)))) x f) (un3 x g) V := by
  unfold un3
  split
  · rename_i a b c
    have e : tgR (gT 3 (gsCons t1 (gsCons t2 (gsCons t3 gsNil)))) (.tuple [a, b, c]) f = tgR t1 a (tgR t2 b (tgR t3 c f)) := by
      funext ρ
      unfold tgR
      rw [gT_e]
      simp only [List.length_cons, List.length_nil, Nat.zero_add, Nat.reduceAdd, if_true, gsCons_e, gsNil_e]
      cases t1 a ρ with
      | none => rfl
      | some r1 =>
        show (match (t2 b r1).bind (gsCons t3 gsNil [c]) with | none => Out.bad | some ρ1 => f ρ1) = (match t2 b r1 with | none => Out.bad | some ρ1 => match t3 c ρ1 with | none => Out.bad | some ρ1 => f ρ1)
        cases t2 b r1 with
        | none => rfl
        | some r2 =>
          show (match (t3 c r2).bind (gsNil []) with | none => Out.bad | some ρ1 => f ρ1) = (match t3 c r2 with | none => Out.bad | some ρ1 => f ρ1)
          cases t3 c r2 <;> rfl
    rw [e]
    exact h a b c
  · exact j_bad
theorem jg_4 {t1 t2 t3 t4 : TgF} {x : D} {f : Rho → Out α} {g : D → D → D → D → m β} {V : List D → β → α → Rho → Prop} (h : ∀ a b c d, J A (tgR t1 a (tgR t2 b (tgR t3 c (tgR t4 d f)))) (g a b c d) V) : J A (tgR (gT 4 (gsCons t1 (gsCons t2 (gsCons t3 (gsCons t4 gsNil))))) x f) (un4 x g) V := by
  unfold un4
  split
  · rename_i a b c d
    have e : tgR (gT 4 (gsCons t1 (gsCons t2 (gsCons t3 (gsCons t4 gsNil))))) (.tuple [a, b, c, d]) f = tgR t1 a (tgR t2 b (tgR t3 c (tgR t4 d f))) := by
      funext ρ
      unfold tgR
      rw [gT_e]
      simp only [List.length_cons, List.length_nil, Nat.zero_add, Nat.reduceAdd, if_true, gsCons_e, gsNil_e]
      cases t1 a ρ with
      | none => rfl
      | some r1 =>
        show (match (t2 b r1).bind (gsCons t3 (gsCons t4 gsNil) [c, d]) with | none => Out.bad | some ρ1 => f ρ1) = (match t2 b r1 with | none => Out.bad | some ρ1 => match t3 c ρ1 with | none => Out.bad | some ρ1 => match t4 d ρ1 with | none => Out.bad | some ρ1 => f ρ1)
        cases t2 b r1 with
        | none => rfl
        | some r2 =>
          show (match (t3 c r2).bind (gsCons t4 gsNil [d]) with | none => Out.bad | some ρ1 => f ρ1) = (match t3 c r2 with | none => Out.bad | some ρ1 => match t4 d ρ1 with | none => Out.bad | some ρ1 => f ρ1)
          cases t3 c r2 with
          | none => rfl
          | some r3 =>
            show (match (t4 d r3).bind (gsNil []) with | none => Out.bad | some ρ1 => f ρ1) = (match t4 d r3 with | none => Out.bad | some ρ1 => f ρ1)
            cases t4 d r3 <;> rfl
    rw [e]
    exact h a b c d
  · exact j_bad
end
end FW

set_option Elab.async false
set_option linter.all false
set_option maxRecDepth 100000
set_option maxHeartbeats 1000001
namespace FW
open PySem PySem.Spec L2
section
variable {m : Type → Type} [Mo m] {α β α' β' τ μ σ : Type} {A B C A1 A2 A3 : List Sl} {f fa fb fc : ES} {g ga gb gc : m D} {i s : Nat} {v : D} {vs : List D}
/-! ## comprehensions -/
theorem Sm.nox {α β : Type} {V : β → α → Rho → Prop} {o : Out α} {g : R β} (h : Sm V o g) : Sm V (nox o) g.nox := by
  cases g with
  | ok b => obtain ⟨a, r, rfl, hv⟩ := h; exact ⟨a, r, rfl, hv⟩
  | exc x => trivial
  | bad => trivial
theorem J.nox {f : Rho → Out α} {g : m β} {V : List D → β → α → Rho → Prop} (h : J A f g V) : J A (fun ρ => nox (f ρ)) (Mo.nx g) V := J.mk fun dk ρ hρ => by
  rw [Mo.run_nx]
  exact (h dk ρ hρ).nox
theorem compL_u {vs : List Nat} {t : TgF} {tt : Rho → Out Bool} {el : ES} {x : D} {xs : List D} {ρ : Rho} : compL vs t tt el (x :: xs) ρ = (match t x (wipeR ρ vs) with
    | none => .bad
    | some ρ1 => (nox (tt ρ1)).bind fun b r => if b = true then (nox (el r)).bind fun w r => (compL vs t tt el xs r).bind fun ws r => .ok (w :: ws) r else compL vs t tt el xs r) := rfl
theorem compL2_u {vs vs1 : List Nat} {t t1 : TgF} {tt tt1 : Rho → Out Bool} {it1 : ISem} {el : ES} {x : D} {xs : List D} {ρ : Rho} : compL2 vs vs1 t tt it1 t1 tt1 el (x :: xs) ρ = (match t x (wipeR ρ vs) with
    | none => .bad
    | some ρ1 => (nox (tt ρ1)).bind fun b r => if b = true then
        (nox (it1 r)).bind fun ys r => if ys.length ≤ 1000 then (compL vs1 t1 tt1 el ys r).bind fun us r => (compL2 vs vs1 t tt it1 t1 tt1 el xs r).bind fun ws r => .ok (us ++ ws) r else .bad
      else compL2 vs vs1 t tt it1 t1 tt1 el xs r) := rfl
abbrev DsV (B : List Sl) : List D → List D → List Wv → Rho → Prop := fun dk b a r => a = b.map .d ∧ Rel dk B r
theorem compL_sim {ws : List Nat} {t : TgF} {el : ES} {F : D → m D} (hj : junkAt A ws = true) (h : ∀ x, J A (tgR t x fun ρ => FW.nox (el ρ)) (F x) (RpV .d A)) : ∀ xs : List D, J A (compL ws t tYesB el xs) (mapM' F xs) (DsV A)
  | [] => J.mk fun dk ρ hρ => by
    rw [show mapM' F [] = (pur [] : m (List D)) from rfl, run_pur]
    exact ⟨[], ρ, rfl, rfl, hρ⟩
  | x :: xs => by
    have e : compL ws t tYesB el (x :: xs) = fun ρ => (tgR t x (fun ρ => FW.nox (el ρ)) (wipeR ρ ws)).bind fun w r => (compL ws t tYesB el xs r).bind fun us r => .ok (w :: us) r := by
      funext ρ
      rw [compL_u]
      unfold tgR
      cases t x (wipeR ρ ws) <;> rfl
    rw [e]
    show J A _ (Mo.bind (F x) fun y => Mo.bind (mapM' F xs) fun ys => pur (y :: ys)) _
    have h1 : J A (fun ρ => tgR t x (fun ρ => FW.nox (el ρ)) (wipeR ρ ws)) (F x) (RpV .d A) := J.mk fun dk ρ hρ => h x dk _ (hρ.wipe hj)
    refine J.bind h1 fun b a dk r ⟨e1, hr⟩ => ?_
    subst e1
    exact J.bind (compL_sim hj h xs) (fun b' a' dk' r' ⟨e2, hr'⟩ => by
      rw [run_pur]
      exact ⟨_, r', rfl, by rw [e2]; rfl, hr'⟩) dk r hr
abbrev OpV (B : List Sl) : List D → Option D → Option Wv → Rho → Prop := fun dk b a r => a = b.map .d ∧ Rel dk B r
theorem compL_simO {ws : List Nat} {t : TgF} {tt : Rho → Out Bool} {el : ES} {F : D → m (Option D)} (hj : junkAt A ws = true)
    (h : ∀ x, J A (tgR t x fun ρ => (FW.nox (tt ρ)).bind fun b r => if b = true then (FW.nox (el r)).bind fun w r => .ok (some w) r else .ok none r) (F x) (OpV A)) : ∀ xs : List D, J A (compL ws t tt el xs) (optM F xs) (DsV A)
  | [] => J.mk fun dk ρ hρ => by
    rw [show optM F [] = (pur [] : m (List D)) from rfl, run_pur]
    exact ⟨[], ρ, rfl, rfl, hρ⟩
  | x :: xs => by
    have e : compL ws t tt el (x :: xs) = fun ρ => (tgR t x (fun ρ => (FW.nox (tt ρ)).bind fun b r => if b = true then (FW.nox (el r)).bind fun w r => .ok (some w) r else .ok none r) (wipeR ρ ws)).bind fun w r => (compL ws t tt el xs r).bind fun us r => .ok (w.toList ++ us) r := by
      funext ρ
      rw [compL_u]
      unfold tgR
      cases t x (wipeR ρ ws) with
      | none => rfl
      | some ρ1 =>
        show (FW.nox (tt ρ1)).bind _ = ((FW.nox (tt ρ1)).bind _).bind _
        cases FW.nox (tt ρ1) with
        | ok b r =>
          cases b with
          | true =>
            show (FW.nox (el r)).bind _ = ((FW.nox (el r)).bind _).bind _
            cases FW.nox (el r) <;> rfl
          | false =>
            show compL ws t tt el xs r = (compL ws t tt el xs r).bind fun us r => .ok us r
            cases compL ws t tt el xs r <;> rfl
        | exc _ _ => rfl
        | bad => rfl
    rw [e]
    show J A _ (Mo.bind (F x) fun y => Mo.bind (optM F xs) fun ys => pur (y.toList ++ ys)) _
    have h1 : J A (fun ρ => tgR t x (fun ρ => (FW.nox (tt ρ)).bind fun b r => if b = true then (FW.nox (el r)).bind fun w r => .ok (some w) r else .ok none r) (wipeR ρ ws)) (F x) (OpV A) := J.mk fun dk ρ hρ => h x dk _ (hρ.wipe hj)
    refine J.bind h1 fun b a dk r ⟨e1, hr⟩ => ?_
    subst e1
    exact J.bind (compL_simO hj h xs) (fun b' a' dk' r' ⟨e2, hr'⟩ => by
      rw [run_pur]
      refine ⟨_, r', rfl, ?_, hr'⟩
      rw [e2]
      cases b <;> rfl) dk r hr
theorem jc_when {tt : Rho → Out Bool} {gt : m Bool} (ht : JE A tt gt B) (he : JE B (fzF f) g B) (l : Le B C) : J A (fun ρ => (FW.nox (tt ρ)).bind fun b r => if b = true then (FW.nox (sFz f r)).bind fun w r => .ok (some w) r else .ok none r) (whenE (Mo.nx gt) (Mo.nx g)) (OpV C) := by
  unfold whenE
  refine J.seq (J.nox ht) fun b => ?_
  cases b with
  | true =>
    show J B (fun r => (FW.nox (sFz f r)).bind fun w r => .ok (some w) r) (Mo.bind (Mo.nx g) fun x => pur (some x)) _
    exact J.seqV (J.nox (jv_fz he)) fun d => J.mk fun dk ρ hρ => by rw [run_pur]; exact ⟨_, ρ, rfl, rfl, l dk ρ hρ⟩
  | false =>
    refine J.mk fun dk ρ hρ => ?_
    show Sm _ _ (Mo.run (pur none : m (Option D)) dk)
    rw [run_pur]; exact ⟨_, ρ, rfl, rfl, l dk ρ hρ⟩
theorem compL_simI {ws : List Nat} {t : TgF} {el : ES} {F : D → m D} {xs : List D} (hj : junkAt A ws = true) (h : ∀ x, J A (tgR t x fun ρ => FW.nox (el ρ)) (F x) (RpV .d A)) : J A (compL ws t tYesB el xs) (mapM' F xs) (DsV A) := compL_sim hj h xs
theorem compL_simIO {ws : List Nat} {t : TgF} {tt : Rho → Out Bool} {el : ES} {F : D → m (Option D)} {xs : List D} (hj : junkAt A ws = true)
    (h : ∀ x, J A (tgR t x fun ρ => (FW.nox (tt ρ)).bind fun b r => if b = true then (FW.nox (el r)).bind fun w r => .ok (some w) r else .ok none r) (F x) (OpV A)) : J A (compL ws t tt el xs) (optM F xs) (DsV A) := compL_simO hj h xs
theorem jc_elt (he : JE A (fzF f) g B) (l : Le B C) : J A (fun ρ => FW.nox (sFz f ρ)) (Mo.nx g) (RpV .d C) := (J.nox (jv_fz he)).imp fun dk b a r hv => ⟨hv.1, l dk r hv.2⟩
section
variable {it : ISem} {gi : m (List D)} {ws : List Nat} {t : TgF} {tt : Rho → Out Bool} {el : ES}
theorem jo_comp0 {k : List D → m (List D)} (hi : JE A it gi A1) (hb : ∀ xs, J (jset A1 ws) (compL ws t tt el xs) (k xs) (DsV (jset A1 ws))) : JV ow A (sComp ws it t tt el) (cap 1000000 gi k) (backA A1 (jset A1 ws) ws) := by
  unfold sComp cap
  refine J.seq hi fun xs => ?_
  by_cases h : xs.length ≤ 1000000
  · simp only [if_pos h]
    refine J.mk fun dk ρ hρ => ?_
    have q := hb xs dk ρ hρ.jset
    revert q
    show _ → Sm _ ((compL ws t tt el xs ρ).bind fun us r' => Out.ok (Wv.o us) (restR ρ ws r')) _
    cases Mo.run (k xs) dk with
    | ok p =>
      rintro ⟨a, r, e, e1, e2⟩
      rw [e, e1]
      exact ⟨_, _, rfl, rfl, hρ.back e2⟩
    | exc x =>
      rintro ⟨r, e⟩
      rw [e]
      exact ⟨r, rfl⟩
    | bad => intro _; trivial
  · simp only [if_neg h]
    exact j_bad
theorem jo_comp {F : D → m D} (hi : JE A it gi A1) (h : ∀ x, J (jset A1 ws) (tgR t x fun ρ => FW.nox (el ρ)) (F x) (RpV .d (jset A1 ws))) (hj : junkAt (jset A1 ws) ws = true := by rfl) : JV ow A (sComp ws it t tYesB el) (cap 1000000 gi (mapM' F)) (backA A1 (jset A1 ws) ws) :=
  jo_comp0 hi fun xs => compL_sim hj h xs
theorem jo_compO {F : D → m (Option D)} (hi : JE A it gi A1) (h : ∀ x, J (jset A1 ws) (tgR t x fun ρ => (FW.nox (tt ρ)).bind fun b r => if b = true then (FW.nox (el r)).bind fun w r => .ok (some w) r else .ok none r) (F x) (OpV (jset A1 ws))) (hj : junkAt (jset A1 ws) ws = true := by rfl) : JV ow A (sComp ws it t tt el) (cap 1000000 gi (optM F)) (backA A1 (jset A1 ws) ws) :=
  jo_comp0 hi fun xs => compL_simO hj h xs
/-! ### lists of own lists -/
def mapOO (F : D → m (List D)) : List D → m (List (List D))
  | [] => pur []
  | x :: xs => Mo.bind (F x) fun y => Mo.bind (mapOO F xs) fun ys => pur (y :: ys)
abbrev OsV (B : List Sl) : List D → List (List D) → List Wv → Rho → Prop := fun dk b a r => a = b.map ow ∧ Rel dk B r
theorem compL_simOO {F : D → m (List D)} (hj : junkAt A ws = true) (h : ∀ x, J A (tgR t x fun ρ => FW.nox (el ρ)) (F x) (RpV ow A)) : ∀ xs : List D, J A (compL ws t tYesB el xs) (mapOO F xs) (OsV A)
  | [] => J.mk fun dk ρ hρ => by
    rw [show mapOO F [] = (pur [] : m (List (List D))) from rfl, run_pur]
    exact ⟨[], ρ, rfl, rfl, hρ⟩
  | x :: xs => by
    have e : compL ws t tYesB el (x :: xs) = fun ρ => (tgR t x (fun ρ => FW.nox (el ρ)) (wipeR ρ ws)).bind fun w r => (compL ws t tYesB el xs r).bind fun us r => .ok (w :: us) r := by
      funext ρ
      rw [compL_u]
      unfold tgR
      cases t x (wipeR ρ ws) <;> rfl
    rw [e]
    show J A _ (Mo.bind (F x) fun y => Mo.bind (mapOO F xs) fun ys => pur (y :: ys)) _
    have h1 : J A (fun ρ => tgR t x (fun ρ => FW.nox (el ρ)) (wipeR ρ ws)) (F x) (RpV ow A) := J.mk fun dk ρ hρ => h x dk _ (hρ.wipe hj)
    refine J.bind h1 fun b a dk r ⟨e1, hr⟩ => ?_
    subst e1
    exact J.bind (W := OsV A) (l := fun ys => pur (b :: ys)) (F := fun us r => .ok (ow b :: us) r) (compL_simOO hj h xs) (fun b' a' dk' r' ⟨e2, hr'⟩ => by
      rw [run_pur]
      exact ⟨_, r', rfl, by rw [e2]; rfl, hr'⟩) dk r hr
theorem jc_eltO {f : ES} {g : m (List D)} (he : JV ow A f g B) (l : Le B C) : J A (fun ρ => FW.nox (f ρ)) (Mo.nx g) (RpV ow C) := (J.nox he).imp fun dk b a r hv => ⟨hv.1, l dk r hv.2⟩
theorem joo_comp {F : D → m (List D)} (hi : JE A it gi A1) (h : ∀ x, J (jset A1 ws) (tgR t x fun ρ => FW.nox (el ρ)) (F x) (RpV ow (jset A1 ws))) (hj : junkAt (jset A1 ws) ws = true := by rfl) : JV oow A (sComp ws it t tYesB el) (cap 1000000 gi (mapOO F)) (backA A1 (jset A1 ws) ws) := by
  unfold sComp cap
  refine J.seq hi fun xs => ?_
  by_cases hl : xs.length ≤ 1000000
  · simp only [if_pos hl]
    refine J.mk fun dk ρ hρ => ?_
    have q := compL_simOO hj h xs dk ρ hρ.jset
    revert q
    show _ → Sm _ ((compL ws t tYesB el xs ρ).bind fun us r' => Out.ok (Wv.o us) (restR ρ ws r')) _
    cases Mo.run (mapOO F xs) dk with
    | ok p =>
      rintro ⟨a, r, e, e1, e2⟩
      rw [e, e1]
      exact ⟨_, _, rfl, rfl, hρ.back e2⟩
    | exc x =>
      rintro ⟨r, e⟩
      rw [e]
      exact ⟨r, rfl⟩
    | bad => intro _; trivial
  · simp only [if_neg hl]
    exact j_bad
/-! ### two clauses -/
variable {ws1 : List Nat} {it1 : ISem} {t1 : TgF} {tt1 : Rho → Out Bool}
theorem compL2_sim {F : D → m (List D)} (hj : junkAt A ws = true)
    (h : ∀ x, J A (tgR t x fun ρ => (FW.nox (tt ρ)).bind fun b r => if b = true then (FW.nox (it1 r)).bind fun ys r => (if ys.length ≤ 1000 then compL ws1 t1 tt1 el ys r else .bad) else .ok [] r) (F x) (DsV A)) : ∀ xs : List D, J A (compL2 ws ws1 t tt it1 t1 tt1 el xs) (flatM' F xs) (DsV A)
  | [] => J.mk fun dk ρ hρ => by
    rw [show flatM' F [] = (pur [] : m (List D)) from rfl, run_pur, compL2]
    exact ⟨[], ρ, rfl, rfl, hρ⟩
  | x :: xs => by
    have e : compL2 ws ws1 t tt it1 t1 tt1 el (x :: xs) = fun ρ => (tgR t x (fun ρ => (FW.nox (tt ρ)).bind fun b r => if b = true then (FW.nox (it1 r)).bind fun ys r => (if ys.length ≤ 1000 then compL ws1 t1 tt1 el ys r else .bad) else .ok [] r) (wipeR ρ ws)).bind fun us r => (compL2 ws ws1 t tt it1 t1 tt1 el xs r).bind fun ws r => .ok (us ++ ws) r := by
      funext ρ
      rw [compL2_u]
      unfold tgR
      cases t x (wipeR ρ ws) with
      | none => rfl
      | some ρ1 =>
        show (FW.nox (tt ρ1)).bind _ = ((FW.nox (tt ρ1)).bind _).bind _
        cases FW.nox (tt ρ1) with
        | ok b r =>
          cases b with
          | true =>
            show (FW.nox (it1 r)).bind _ = ((FW.nox (it1 r)).bind _).bind _
            cases FW.nox (it1 r) with
            | ok ys r2 =>
              simp only [Out.bind_ok]
              by_cases hl : ys.length ≤ 1000
              · rw [if_pos hl, if_pos hl]
              · rw [if_neg hl, if_neg hl]; rfl
            | exc _ _ => rfl
            | bad => rfl
          | false =>
            show compL2 ws ws1 t tt it1 t1 tt1 el xs r = (compL2 ws ws1 t tt it1 t1 tt1 el xs r).bind fun us r => .ok us r
            cases compL2 ws ws1 t tt it1 t1 tt1 el xs r <;> rfl
        | exc _ _ => rfl
        | bad => rfl
    rw [e]
    show J A _ (Mo.bind (F x) fun y => Mo.bind (flatM' F xs) fun ys => pur (y ++ ys)) _
    have h1 : J A (fun ρ => tgR t x (fun ρ => (FW.nox (tt ρ)).bind fun b r => if b = true then (FW.nox (it1 r)).bind fun ys r => (if ys.length ≤ 1000 then compL ws1 t1 tt1 el ys r else .bad) else .ok [] r) (wipeR ρ ws)) (F x) (DsV A) := J.mk fun dk ρ hρ => h x dk _ (hρ.wipe hj)
    refine J.bind h1 fun b a dk r ⟨e1, hr⟩ => ?_
    subst e1
    exact J.bind (compL2_sim hj h xs) (fun b' a' dk' r' ⟨e2, hr'⟩ => by
      rw [run_pur]
      exact ⟨_, r', rfl, by rw [e2, List.map_append], hr'⟩) dk r hr
/-- the inner loop of two clauses -/
theorem jc_in {k : List D → m (List D)} (hi : JE A it1 gi A1) (hb : ∀ ys, J A1 (compL ws1 t1 tt1 el ys) (k ys) (DsV B)) (l : Le B C) : J A (fun r => (FW.nox (it1 r)).bind fun ys r => (if ys.length ≤ 1000 then compL ws1 t1 tt1 el ys r else .bad)) (cap 1000 (Mo.nx gi) k) (DsV C) := by
  unfold cap
  refine J.seq (J.nox hi) fun xs => ?_
  by_cases hl : xs.length ≤ 1000
  · simp only [if_pos hl]; exact (hb xs).imp fun dk b a r hv => ⟨hv.1, l dk r hv.2⟩
  · simp only [if_neg hl]; exact j_bad
theorem jc_yes {F : Rho → Out (List Wv)} {k : m (List D)} (h : J A F k (DsV B)) : J A (fun ρ => (FW.nox (tYesB ρ)).bind fun b r => if b = true then F r else .ok [] r) k (DsV B) := h
theorem jc_if {F : Rho → Out (List Wv)} {k : m (List D)} {gt : m Bool} (ht : JE A tt gt B) (h : J B F k (DsV C)) (l : Le B C) : J A (fun ρ => (FW.nox (tt ρ)).bind fun b r => if b = true then F r else .ok [] r) (whenL (Mo.nx gt) k) (DsV C) := by
  unfold whenL
  refine J.seq (J.nox ht) fun b => ?_
  cases b with
  | true => exact h
  | false =>
    refine J.mk fun dk ρ hρ => ?_
    show Sm _ _ (Mo.run (pur [] : m (List D)) dk)
    rw [run_pur]; exact ⟨_, ρ, rfl, rfl, l dk ρ hρ⟩
theorem jo_comp2 {F : D → m (List D)} (hi : JE A it gi A1)
    (h : ∀ x, J (jset A1 ws) (tgR t x fun ρ => (FW.nox (tt ρ)).bind fun b r => if b = true then (FW.nox (it1 r)).bind fun ys r => (if ys.length ≤ 1000 then compL ws1 t1 tt1 el ys r else .bad) else .ok [] r) (F x) (DsV (jset A1 ws))) (hj : junkAt (jset A1 ws) ws = true := by rfl) :
    JV ow A (sComp2 ws ws1 it t tt it1 t1 tt1 el) (cap 1000 gi (flatM' F)) (backA A1 (jset A1 ws) ws) := by
  unfold sComp2 cap
  refine J.seq hi fun xs => ?_
  by_cases hl : xs.length ≤ 1000
  · simp only [if_pos hl]
    refine J.mk fun dk ρ hρ => ?_
    have q := compL2_sim hj h xs dk ρ hρ.jset
    revert q
    show _ → Sm _ ((compL2 ws ws1 t tt it1 t1 tt1 el xs ρ).bind fun us r' => Out.ok (Wv.o us) (restR ρ ws r')) _
    cases Mo.run (flatM' F xs) dk with
    | ok p =>
      rintro ⟨a, r, e, e1, e2⟩
      rw [e, e1]
      exact ⟨_, _, rfl, rfl, hρ.back e2⟩
    | exc x =>
      rintro ⟨r, e⟩
      rw [e]
      exact ⟨r, rfl⟩
    | bad => intro _; trivial
  · simp only [if_neg hl]
    exact j_bad
end
/-! ## statements -/
abbrev NxV (B : τ → List Sl) : List D → τ → Fl → Rho → Prop := fun dk t fl r => fl = .nx ∧ Rel dk (B t) r
abbrev RTy (μ : Type) := List D → μ → Wv → Rho → Prop
def TV (b : Bool) (RT : RTy μ) : List D → μ → Fl → Rho → Prop := fun dk v fl r => match fl with
  | .ret w => RT dk v w r
  | .nx => b = true ∧ RT dk v (.d .none) r
  | _ => False
def BV (z : Bool) (B : τ → List Sl) (RT : RTy μ) : List D → Fb τ μ → Fl → Rho → Prop := fun dk x fl r => match x with
  | .nx t => (fl = .ct ∨ z = true ∧ fl = .nx) ∧ Rel dk (B t) r
  | .bk t => fl = .bk ∧ Rel dk (B t) r
  | .ret v => ∃ w, fl = .ret w ∧ RT dk v w r
def LV (B : τ → List Sl) (RT : RTy μ) : List D → Lr τ μ → Fl → Rho → Prop := fun dk x fl r => match x with
  | .go t => fl = .nx ∧ Rel dk (B t) r
  | .ret v => ∃ w, fl = .ret w ∧ RT dk v w r
abbrev rtD (RP : List D → Rho → Prop) : RTy D := fun dk v w r => (w.nos = true ∧ w.dat = v) ∧ RP dk r
abbrev rtO (RP : List D → Rho → Prop) : RTy (List D) := fun dk v w r => w = ow v ∧ RP dk r
section
variable {p q e : SSem} {W : List D → β → Fl → Rho → Prop} {B' : τ → List Sl} {C' : σ → List Sl} {RT : RTy μ} {RP : List D → Rho → Prop} {b z : Bool} {gt : m Bool} {t : Rho → Out Bool}
theorem j_seq {g : m σ} {k : σ → m β} (h1 : J A p g (NxV C')) (h2 : ∀ t, J (C' t) q (k t) W) : J A (sCons p q) (Mo.bind g k) W := by
  unfold sCons
  refine J.bind h1 fun b a dk r ⟨e, hr⟩ => ?_
  subst e
  exact h2 b dk r hr
theorem j_seqE {g : m σ} {k : σ → m β} {C0 : σ → List Sl} (h1 : J A p g (NxV C0)) (e : ∀ t, C0 t = C' t) (h2 : ∀ t, J (C' t) q (k t) W) : J A (sCons p q) (Mo.bind g k) W := by
  have e' : C0 = C' := funext e
  subst e'
  exact j_seq h1 h2
theorem j_nilc {g : m β} (h : J A q g W) : J A (sCons sNil q) g W := h
theorem j_pass {g : m β} (h : J A q g W) : J A (sCons sPass q) g W := h
theorem j_ite {gp gq : m β} (ht : JE A t gt A1) (hp : J A1 p gp W) (hq : J A1 q gq W) : J A (sIte t p q) (ifE gt gp gq) W := by
  unfold sIte ifE
  refine J.seq ht fun x => ?_
  cases x with
  | true => exact hp
  | false => exact hq
theorem j_ifc {gp gq : m β} (ht : JE A t gt A1) (hp : J A1 (sCons p e) gp W) (hq : J A1 (sCons q e) gq W) : J A (sCons (sIte t p q) e) (ifE gt gp gq) W := by
  have h : sCons (sIte t p q) e = sIte t (sCons p e) (sCons q e) := by
    funext ρ
    unfold sCons sIte
    cases t ρ with
    | ok b r => cases b <;> rfl
    | exc _ _ => rfl
    | bad => rfl
  rw [h]
  exact j_ite ht hp hq
theorem j_escT {g : m μ} (h : J A p g (TV false RT)) : J A (sCons p q) g (TV b RT) := J.mk fun dk ρ hρ => by
  have := h dk ρ hρ
  revert this
  unfold sCons
  cases Mo.run g dk with
  | ok x =>
    rintro ⟨fl, r, e1, hv⟩
    rw [e1]
    cases fl with
    | nx => exact absurd hv.1 (by decide)
    | ret w => exact ⟨_, r, rfl, hv⟩
    | bk => exact hv.elim
    | ct => exact hv.elim
  | exc x =>
    rintro ⟨r, e1⟩
    rw [e1]
    exact ⟨r, rfl⟩
  | bad => intro _; trivial
theorem j_escB {g : m (Fb τ μ)} (h : J A p g (BV false B' RT)) : J A (sCons p q) g (BV z B' RT) := J.mk fun dk ρ hρ => by
  have := h dk ρ hρ
  revert this
  unfold sCons
  cases Mo.run g dk with
  | ok x =>
    rintro ⟨fl, r, e1, hv⟩
    rw [e1]
    obtain ⟨x, dk'⟩ := x
    cases x with
    | nx t =>
      obtain ⟨h1, h2⟩ := hv
      rcases h1 with h1 | ⟨h1, _⟩
      · subst h1; exact ⟨_, r, rfl, .inl rfl, h2⟩
      · cases h1
    | bk t =>
      obtain ⟨h1, h2⟩ := hv
      subst h1; exact ⟨_, r, rfl, rfl, h2⟩
    | ret v =>
      obtain ⟨w, h1, h2⟩ := hv
      subst h1; exact ⟨_, r, rfl, w, rfl, h2⟩
  | exc x =>
    rintro ⟨r, e1⟩
    rw [e1]
    exact ⟨r, rfl⟩
  | bad => intro _; trivial
/-! ### how blocks end -/
theorem jn_end {x : τ} (l : Le A (B' x)) : J A sNil (pur x : m τ) (NxV B') := J.mk fun dk ρ hρ => by rw [run_pur]; exact ⟨.nx, ρ, rfl, rfl, l dk ρ hρ⟩
theorem jn_last {g : m σ} {h : σ → τ} (hp : J A p g (NxV C')) (l : ∀ t, Le (C' t) (B' (h t))) : J A p (Mo.bind g fun t => pur (h t)) (NxV B') := J.mk fun dk ρ hρ => by
  rw [Mo.run_bind]
  have := hp dk ρ hρ
  revert this
  cases Mo.run g dk with
  | ok x =>
    rintro ⟨fl, r, e1, e2, hv⟩
    rw [e1, e2]
    show Sm _ _ (Mo.run (pur (h x.1) : m τ) x.2)
    rw [run_pur]
    exact ⟨.nx, r, rfl, rfl, l _ _ _ hv⟩
  | exc x => exact id
  | bad => exact id
theorem jb_end {x : τ} (l : Le A (B' x)) : J A sNil (pur (.nx x) : m (Fb τ μ)) (BV true B' RT) := J.mk fun dk ρ hρ => by rw [run_pur]; exact ⟨.nx, ρ, rfl, .inr ⟨rfl, rfl⟩, l dk ρ hρ⟩
theorem jb_last {g : m σ} {h : σ → τ} (hp : J A p g (NxV C')) (l : ∀ t, Le (C' t) (B' (h t))) : J A p (Mo.bind g fun t => pur (.nx (h t)) : m (Fb τ μ)) (BV true B' RT) := J.mk fun dk ρ hρ => by
  rw [Mo.run_bind]
  have := hp dk ρ hρ
  revert this
  cases Mo.run g dk with
  | ok x =>
    rintro ⟨fl, r, e1, e2, hv⟩
    rw [e1, e2]
    show Sm _ _ (Mo.run (pur (.nx (h x.1)) : m (Fb τ μ)) x.2)
    rw [run_pur]
    exact ⟨.nx, r, rfl, .inr ⟨rfl, rfl⟩, l _ _ _ hv⟩
  | exc x => exact id
  | bad => exact id
theorem jb_cont {x : τ} (l : Le A (B' x)) : J A sCont (pur (.nx x) : m (Fb τ μ)) (BV z B' RT) := J.mk fun dk ρ hρ => by rw [run_pur]; exact ⟨.ct, ρ, rfl, .inl rfl, l dk ρ hρ⟩
theorem jb_brk {x : τ} (l : Le A (B' x)) : J A sBreak (pur (.bk x) : m (Fb τ μ)) (BV z B' RT) := J.mk fun dk ρ hρ => by rw [run_pur]; exact ⟨.bk, ρ, rfl, rfl, l dk ρ hρ⟩
theorem Sm_ret {f : ES} {o : D} {r : Rho} {ρ : Rho} (h : fz (f ρ) = .ok o r) : ∃ w, sRet f ρ = .ok (.ret w) r ∧ w.nos = true ∧ w.dat = o := by
  unfold sRet
  cases z : f ρ with
  | ok w r' =>
    rw [z, fz_ok] at h
    by_cases hn : w.nos = true
    · rw [if_pos hn] at h; cases h; exact ⟨w, rfl, hn, rfl⟩
    · rw [if_neg hn] at h; cases h
  | exc _ _ => rw [z] at h; cases h
  | bad => rw [z] at h; cases h
theorem Sm_retX {f : ES} {x : Xn} {r : Rho} {ρ : Rho} (h : fz (f ρ) = .exc x r) : sRet f ρ = .exc x r := by
  unfold sRet
  cases z : f ρ with
  | ok w r' =>
    rw [z, fz_ok] at h
    by_cases hn : w.nos = true
    · rw [if_pos hn] at h; cases h
    · rw [if_neg hn] at h; cases h
  | exc _ _ => rw [z] at h; cases h; rfl
  | bad => rw [z] at h; cases h
theorem jt_ret (h : JE A (fzF f) g B) (hR : ∀ dk r, Rel dk B r → RP dk r) : J A (sRet f) g (TV b (rtD RP)) := J.mk fun dk ρ hρ => by
  have := h dk ρ hρ
  revert this
  unfold fzF
  cases Mo.run g dk with
  | ok x =>
    rintro ⟨v, r, e1, e2, hr⟩
    obtain ⟨w, e3, e4, e5⟩ := Sm_ret e1
    exact ⟨_, r, e3, ⟨e4, e5.trans e2⟩, hR _ _ hr⟩
  | exc x =>
    rintro ⟨r, e1⟩
    exact ⟨r, Sm_retX e1⟩
  | bad => intro _; trivial
theorem jb_ret (h : JE A (fzF f) g B) (hR : ∀ dk r, Rel dk B r → RP dk r) : J A (sRet f) (Mo.bind g fun v => pur (.ret v) : m (Fb τ D)) (BV z B' (rtD RP)) := J.mk fun dk ρ hρ => by
  have := h dk ρ hρ
  revert this
  unfold fzF
  rw [Mo.run_bind]
  cases Mo.run g dk with
  | ok x =>
    rintro ⟨v, r, e1, e2, hr⟩
    obtain ⟨w, e3, e4, e5⟩ := Sm_ret e1
    show Sm _ _ (Mo.run (pur (.ret x.1) : m (Fb τ D)) x.2)
    rw [run_pur]
    exact ⟨_, r, e3, w, rfl, ⟨e4, e5.trans e2⟩, hR _ _ hr⟩
  | exc x =>
    rintro ⟨r, e1⟩
    exact ⟨r, Sm_retX e1⟩
  | bad => intro _; trivial
theorem jt_retN (hR : ∀ dk r, Rel dk A r → RP dk r) : J A sRetN (pur .none : m D) (TV b (rtD RP)) := J.mk fun dk ρ hρ => by rw [run_pur]; exact ⟨_, ρ, rfl, ⟨nos_d, dat_d⟩, hR _ _ hρ⟩
theorem jb_retN (hR : ∀ dk r, Rel dk A r → RP dk r) : J A sRetN (pur (.ret .none) : m (Fb τ D)) (BV z B' (rtD RP)) := J.mk fun dk ρ hρ => by rw [run_pur]; exact ⟨_, ρ, rfl, _, rfl, ⟨nos_d, dat_d⟩, hR _ _ hρ⟩
theorem jt_nil (hR : ∀ dk r, Rel dk A r → RP dk r) : J A sNil (pur .none : m D) (TV true (rtD RP)) := J.mk fun dk ρ hρ => by rw [run_pur]; exact ⟨_, ρ, rfl, rfl, ⟨nos_d, dat_d⟩, hR _ _ hρ⟩
theorem jt_last {g : m σ} (hp : J A p g (NxV C')) (hR : ∀ t dk r, Rel dk (C' t) r → RP dk r) : J A p (Mo.bind g fun _ => pur .none : m D) (TV true (rtD RP)) := J.mk fun dk ρ hρ => by
  rw [Mo.run_bind]
  have := hp dk ρ hρ
  revert this
  cases Mo.run g dk with
  | ok x =>
    rintro ⟨fl, r, e1, e2, hv⟩
    rw [e1, e2]
    show Sm _ _ (Mo.run (pur .none : m D) x.2)
    rw [run_pur]
    exact ⟨.nx, r, rfl, rfl, ⟨nos_d, dat_d⟩, hR _ _ _ hv⟩
  | exc x => exact id
  | bad => exact id
theorem jt_retO {gs : m (List D)} (h : JV ow A f gs B) (hR : ∀ dk r, Rel dk B r → RP dk r) : J A (sRet f) gs (TV b (rtO RP)) := J.mk fun dk ρ hρ => by
  have := h dk ρ hρ
  revert this
  unfold sRet
  cases Mo.run gs dk with
  | ok x =>
    rintro ⟨v, r, e1, e2, hr⟩
    rw [e1]
    exact ⟨_, r, rfl, e2, hR _ _ hr⟩
  | exc x =>
    rintro ⟨r, e1⟩
    rw [e1]
    exact ⟨r, rfl⟩
  | bad => intro _; trivial
/-! ### loops -/
variable {it : ISem} {gi : m (List D)} {tg : TgF} {body : SSem} {t0 : τ}
theorem forL_cons' {x : D} {xs : List D} : forL tg body (x :: xs) = fun ρ => (tgR tg x body ρ).bind fun fl r => match fl with
    | .nx => forL tg body xs r
    | .ct => forL tg body xs r
    | .bk => .ok .nx r
    | .ret w => .ok (.ret w) r := by
  funext ρ
  have u : forL tg body (x :: xs) ρ = (match tg x ρ with
    | none => .bad
    | some ρ1 => (body ρ1).bind fun fl r => match fl with
      | .nx => forL tg body xs r
      | .ct => forL tg body xs r
      | .bk => .ok .nx r
      | .ret w => .ok (.ret w) r) := rfl
  rw [u]
  unfold tgR
  cases tg x ρ <;> rfl
theorem forL_simN {F : D → τ → m τ} (h : ∀ x t, J (B' t) (tgR tg x body) (F x t) (NxV B')) : ∀ (xs : List D) (t : τ), J (B' t) (forL tg body xs) (foldM' F xs t) (NxV B')
  | [], t => J.mk fun dk ρ hρ => by
    show Sm _ _ (Mo.run (pur t : m τ) dk)
    rw [run_pur]
    exact ⟨.nx, ρ, rfl, rfl, hρ⟩
  | x :: xs, t => by
    rw [forL_cons']
    show J _ _ (Mo.bind (F x t) fun t => foldM' F xs t) _
    refine J.bind (h x t) fun b a dk r ⟨e1, hr⟩ => ?_
    subst e1
    exact forL_simN h xs b dk r hr
theorem forL_simB {F : D → τ → m (Fb τ μ)} (h : ∀ x t, J (B' t) (tgR tg x body) (F x t) (BV true B' RT)) : ∀ (xs : List D) (t : τ), J (B' t) (forL tg body xs) (forM' F xs t) (LV B' RT)
  | [], t => J.mk fun dk ρ hρ => by
    show Sm _ _ (Mo.run (pur (.go t) : m (Lr τ μ)) dk)
    rw [run_pur]
    exact ⟨.nx, ρ, rfl, rfl, hρ⟩
  | x :: xs, t => by
    rw [forL_cons']
    show J _ _ (Mo.bind (F x t) fun r => match r with
      | .nx t => forM' F xs t
      | .bk t => pur (.go t)
      | .ret v => pur (.ret v)) _
    refine J.bind (h x t) fun b a dk r hv => ?_
    cases b with
    | nx t1 =>
      obtain ⟨h1, h2⟩ := hv
      rcases h1 with h1 | ⟨_, h1⟩
      · subst h1; exact forL_simB h xs t1 dk r h2
      · subst h1; exact forL_simB h xs t1 dk r h2
    | bk t1 =>
      obtain ⟨h1, h2⟩ := hv
      subst h1
      show Sm _ _ (Mo.run (pur (.go t1) : m (Lr τ μ)) dk)
      rw [run_pur]
      exact ⟨.nx, r, rfl, rfl, h2⟩
    | ret v =>
      obtain ⟨w, h1, h2⟩ := hv
      subst h1
      show Sm _ _ (Mo.run (pur (.ret v) : m (Lr τ μ)) dk)
      rw [run_pur]
      exact ⟨_, r, rfl, w, rfl, h2⟩
theorem js_for {F : D → τ → m τ} (hi : JE A it gi A1) (l : Le A1 (B' t0)) (h : ∀ x t, J (B' t) (tgR tg x body) (F x t) (NxV B')) : J A (sFor it tg body) (Mo.bind gi fun xs => foldM' F xs t0) (NxV B') := by
  unfold sFor
  exact J.seq hi fun xs => J.le l (forL_simN h xs t0)
theorem jl_for {F : D → τ → m (Fb τ μ)} (hi : JE A it gi A1) (l : Le A1 (B' t0)) (h : ∀ x t, J (B' t) (tgR tg x body) (F x t) (BV true B' RT)) : J A (sFor it tg body) (Mo.bind gi fun xs => forM' F xs t0) (LV B' RT) := by
  unfold sFor
  exact J.seq hi fun xs => J.le l (forL_simB h xs t0)
theorem j_thenL {g : m (Lr τ μ)} {k : τ → m μ} (h : J A p g (LV B' RT)) (hk : ∀ t, J (B' t) q (k t) (TV b RT)) : J A (sCons p q) (thenL g k) (TV b RT) := by
  unfold sCons thenL
  refine J.bind h fun x fl dk r hv => ?_
  cases x with
  | go t =>
    obtain ⟨h1, h2⟩ := hv
    subst h1
    exact hk t dk r h2
  | ret v =>
    obtain ⟨w, h1, h2⟩ := hv
    subst h1
    show Sm _ _ (Mo.run (pur v : m μ) dk)
    rw [run_pur]
    exact ⟨_, r, rfl, h2⟩
theorem j_thenL1 {g : m (Lr τ D)} (h : J A p g (LV B' (rtD RP))) (hR : ∀ t dk r, Rel dk (B' t) r → RP dk r) : J A p (thenL g fun _ => pur .none) (TV true (rtD RP)) := by
  have e : p = sCons p sNil := by
    funext ρ
    unfold sCons
    cases p ρ with
    | ok fl r => cases fl <;> rfl
    | exc _ _ => rfl
    | bad => rfl
  rw [e]
  exact j_thenL h fun t => jt_nil (hR t)
theorem j_thenB {g : m (Lr σ μ)} {k : σ → m (Fb τ μ)} (h : J A p g (LV C' RT)) (hk : ∀ t, J (C' t) q (k t) (BV z B' RT)) : J A (sCons p q) (thenB g k) (BV z B' RT) := by
  unfold sCons thenB
  refine J.bind h fun x fl dk r hv => ?_
  cases x with
  | go t =>
    obtain ⟨h1, h2⟩ := hv
    subst h1
    exact hk t dk r h2
  | ret v =>
    obtain ⟨w, h1, h2⟩ := hv
    subst h1
    show Sm _ _ (Mo.run (pur (.ret v) : m (Fb τ μ)) dk)
    rw [run_pur]
    exact ⟨_, r, rfl, w, rfl, h2⟩
theorem j_thenB1 {g : m (Lr σ μ)} {h : σ → τ} (hp : J A p g (LV C' RT)) (l : ∀ t, Le (C' t) (B' (h t))) : J A p (thenB g fun t => pur (.nx (h t))) (BV true B' RT) := by
  have e : p = sCons p sNil := by
    funext ρ
    unfold sCons
    cases p ρ with
    | ok fl r => cases fl <;> rfl
    | exc _ _ => rfl
    | bad => rfl
  rw [e]
  exact j_thenB hp fun t => jb_end (l t)
theorem j_goL {g : m (Lr τ Empty)} {RT : RTy Empty} (h : J A p g (LV B' RT)) : J A p (goL g) (NxV B') := J.mk fun dk ρ hρ => by
  unfold goL
  rw [Mo.run_bind]
  have := h dk ρ hρ
  revert this
  cases Mo.run g dk with
  | ok x =>
    rintro ⟨fl, r, e1, hv⟩
    obtain ⟨x, dk'⟩ := x
    cases x with
    | go t =>
      obtain ⟨h1, h2⟩ := hv
      subst h1
      show Sm _ _ (Mo.run (pur t : m τ) dk')
      rw [run_pur]
      exact ⟨.nx, r, e1, rfl, h2⟩
    | ret v => exact nomatch v
  | exc x => exact id
  | bad => exact id
end
end
end FW

set_option Elab.async false
set_option linter.all false
set_option maxRecDepth 100000
set_option maxHeartbeats 1000001
namespace FW
open PySem PySem.Spec L2
section
variable {m : Type → Type} [Mo m] {α β α' β' τ μ σ : Type} {A B C A1 A2 A3 : List Sl} {f fa fb fc fi : ES} {g ga gb gc : m D} {i j k l s : Nat} {v : D} {vs : List D}
/-! ## simple statements -/
/-- how values stand in slots -/
class Rep (β : Type) where
  rep : β → Wv
  sl : β → Sl
  ok : ∀ dk b, SlR dk (sl b) (some (rep b))
instance : Rep D := ⟨.d, .d, fun _ _ => rfl⟩
instance : Rep (List D) := ⟨ow, .o, fun _ _ => rfl⟩
instance : Rep (List (List D)) := ⟨oow, .oo, fun _ _ => rfl⟩
theorem js_set [Rep β] {g : m β} (h : JV Rep.rep A f g B) (hi : i < B.length := by exact of_decide_eq_true rfl) : J A (sSet i f) g (NxV fun b => B.set i (Rep.sl b)) := by
  refine J.mk fun dk ρ hρ => ?_
  have := h dk ρ hρ
  revert this
  unfold sSet
  cases Mo.run g dk with
  | ok x =>
    rintro ⟨a, r, e1, e2, hr⟩
    rw [e1, e2]
    show Sm _ (if i < r.length then _ else _) _
    rw [if_pos (by rw [← hr.len]; exact hi)]
    exact ⟨.nx, _, rfl, rfl, hr.set (Rep.ok _ _)⟩
  | exc x =>
    rintro ⟨r, e1⟩
    rw [e1]
    exact ⟨r, rfl⟩
  | bad => intro _; trivial
theorem js_setD (h : JE A (fzF f) g B) (hi : i < B.length := by exact of_decide_eq_true rfl) : J A (sSet i (sFz f)) g (NxV fun b => B.set i (.d b)) := js_set (β := D) (jv_fz h) hi
theorem js_setO {g : m (List D)} (h : JV ow A f g B) (hi : i < B.length := by exact of_decide_eq_true rfl) : J A (sSet i f) g (NxV fun b => B.set i (.o b)) := js_set (β := List D) h hi
theorem js_setOO {g : m (List (List D))} (h : JV oow A f g B) (hi : i < B.length := by exact of_decide_eq_true rfl) : J A (sSet i f) g (NxV fun b => B.set i (.oo b)) := js_set (β := List (List D)) h hi
theorem js_drop (h : JE A (fzF f) g B) : J A (sDrop (sFz f)) (Mo.bind g fun _ => pur ()) (NxV fun _ => B) := by
  unfold sDrop
  refine J.seqV (jv_fz h) fun d => J.mk fun dk ρ hρ => ?_
  rw [run_pur]
  exact ⟨.nx, ρ, rfl, rfl, hρ⟩
theorem js_app (s : Nat) (h : JE A (fzF f) g B) (h0 : A[s]? = some (.o vs) := by rfl) (hs : B[s]? = some (.o vs) := by rfl) : J A (sApp s (sFz f)) (appE vs g) (NxV fun ws => B.set s (.o ws)) := by
  refine J.mk fun dk ρ hρ => ?_
  obtain ⟨y, e, e2⟩ := hρ.get h0
  rw [show y = some (ow vs) from e2] at e
  have := jv_fz h dk ρ hρ
  revert this
  unfold sApp appE
  rw [e, Mo.run_bind]
  show _ → Sm _ ((sFz f ρ).bind fun w r => match r[s]? with
    | some (some (.o ws)) => if ws.length < 1000000 then .ok Fl.nx (r.set s (some (.o (ws ++ [w])))) else .bad
    | _ => .bad) _
  cases Mo.run g dk with
  | ok x =>
    rintro ⟨a, r, e1, e2, hr⟩
    obtain ⟨y, e3, e4⟩ := hr.get hs
    rw [show y = some (ow vs) from e4] at e3
    rw [e1, Out.bind_ok, e3, e2]
    show Sm _ (if (vs.map Wv.d).length < 1000000 then _ else _) (Mo.run (if vs.length < 1000000 then _ else _) x.2)
    rw [List.length_map]
    by_cases hl : vs.length < 1000000
    · rw [if_pos hl, if_pos hl, run_pur]
      refine ⟨.nx, _, rfl, rfl, hr.set ?_⟩
      show some (Wv.o _) = some (ow _)
      rw [ow, List.map_append]
      rfl
    · rw [if_neg hl, if_neg hl, Mo.run_lift]; trivial
  | exc x =>
    rintro ⟨r, e1⟩
    rw [e1]
    exact ⟨r, rfl⟩
  | bad => intro _; trivial
theorem js_asgD {tg : TgF} {F : D → m σ} {C' : σ → List Sl} (h : JE A (fzF f) g B) (hg : ∀ v, J B (tgR tg v fun ρ => .ok Fl.nx ρ) (F v) (NxV C')) : J A (sAsgD tg f) (Mo.bind g F) (NxV C') := by
  unfold sAsgD
  refine J.seq h fun v => ?_
  have e : (fun r => (ofO (tg v r) r).bind fun r' _ => Out.ok Fl.nx r') = tgR tg v fun ρ => .ok Fl.nx ρ := by
    funext r
    unfold tgR
    cases tg v r <;> rfl
  rw [e]
  exact hg v
theorem jg_ok {x : σ} {C' : σ → List Sl} (l : Le A (C' x)) : J A (fun ρ => Out.ok Fl.nx ρ) (pur x : m σ) (NxV C') := J.mk fun dk ρ hρ => by rw [run_pur]; exact ⟨.nx, ρ, rfl, rfl, l dk ρ hρ⟩
/-! ### several targets at once -/
variable {β1 β2 β3 β4 : Type} [Rep β1] [Rep β2] [Rep β3] [Rep β4]
def pair (a : m β1) (b : m β2) : m (β1 × β2) := Mo.bind a fun x => Mo.bind b fun y => pur (x, y)
def trip (a : m β1) (b : m β2) (c : m β3) : m (β1 × β2 × β3) := Mo.bind a fun x => Mo.bind b fun y => Mo.bind c fun z => pur (x, y, z)
def quad (a : m β1) (b : m β2) (c : m β3) (d : m β4) : m (β1 × β2 × β3 × β4) := Mo.bind a fun x => Mo.bind b fun y => Mo.bind c fun z => Mo.bind d fun u => pur (x, y, z, u)
theorem j_sets {B : List Sl} {is : List Nat} {k : Rho → Rho} {x : σ} {C' : σ → List Sl} (h : ∀ dk r, Rel dk B r → Rel dk (C' x) (k r)) : J B (fun r => Out.ok Fl.nx (k r)) (pur x : m σ) (NxV C') := J.mk fun dk ρ hρ => by rw [run_pur]; exact ⟨.nx, _, rfl, rfl, h dk ρ hρ⟩
theorem js_tup2 {f1 f2 : ES} {g1 : m β1} {g2 : m β2} (h1 : JV Rep.rep A f1 g1 A1) (h2 : JV Rep.rep A1 f2 g2 A2) (hi : i < A2.length := by exact of_decide_eq_true rfl) (hj : j < A2.length := by exact of_decide_eq_true rfl) :
    J A (sTupW 2 (wsCons (wN i) (wsCons (wN j) wsNil)) (wCons f1 (wCons f2 wNil))) (pair g1 g2) (NxV fun b => (A2.set i (Rep.sl b.1)).set j (Rep.sl b.2)) := by
  have e : sTupW 2 (wsCons (wN i) (wsCons (wN j) wsNil)) (wCons f1 (wCons f2 wNil)) = fun ρ => (f1 ρ).bind fun w1 r => (f2 r).bind fun w2 r => (ofO (wT 2 (wsCons (wN i) (wsCons (wN j) wsNil)) [w1, w2] r) r).bind fun r' _ => .ok Fl.nx r' := by
    funext ρ
    unfold sTupW wCons wNil
    cases f1 ρ with
    | ok w1 r1 =>
      simp only [Out.bind_ok]
      cases f2 r1 with
      | ok w2 r2 => rfl
      | exc _ _ => rfl
      | bad => rfl
    | exc _ _ => rfl
    | bad => rfl
  rw [e]
  refine J.seqV h1 fun x => J.seqV h2 fun y => J.mk fun dk r hr => ?_
  have hi' : i < r.length := by rw [← hr.len]; exact hi
  have hj' : j < r.length := by rw [← hr.len]; exact hj
  simp [wT_e, hi', hj']
  exact ⟨.nx, _, rfl, rfl, (hr.set (Rep.ok _ _)).set (Rep.ok _ _)⟩
theorem js_tup3 {f1 f2 f3 : ES} {g1 : m β1} {g2 : m β2} {g3 : m β3} (h1 : JV Rep.rep A f1 g1 A1) (h2 : JV Rep.rep A1 f2 g2 A2) (h3 : JV Rep.rep A2 f3 g3 A3) (hi : i < A3.length := by exact of_decide_eq_true rfl) (hj : j < A3.length := by exact of_decide_eq_true rfl) (hk : k < A3.length := by exact of_decide_eq_true rfl) :
    J A (sTupW 3 (wsCons (wN i) (wsCons (wN j) (wsCons (wN k) wsNil))) (wCons f1 (wCons f2 (wCons f3 wNil)))) (trip g1 g2 g3) (NxV fun b => ((A3.set i (Rep.sl b.1)).set j (Rep.sl b.2.1)).set k (Rep.sl b.2.2)) := by
  have e : sTupW 3 (wsCons (wN i) (wsCons (wN j) (wsCons (wN k) wsNil))) (wCons f1 (wCons f2 (wCons f3 wNil))) = fun ρ => (f1 ρ).bind fun w1 r => (f2 r).bind fun w2 r => (f3 r).bind fun w3 r => (ofO (wT 3 (wsCons (wN i) (wsCons (wN j) (wsCons (wN k) wsNil))) [w1, w2, w3] r) r).bind fun r' _ => .ok Fl.nx r' := by
    funext ρ
    unfold sTupW wCons wNil
    cases f1 ρ with
    | ok w1 r1 =>
      simp only [Out.bind_ok]
      cases f2 r1 with
      | ok w2 r2 =>
        simp only [Out.bind_ok]
        cases f3 r2 <;> rfl
      | exc _ _ => rfl
      | bad => rfl
    | exc _ _ => rfl
    | bad => rfl
  rw [e]
  refine J.seqV h1 fun x => J.seqV h2 fun y => J.seqV h3 fun z => J.mk fun dk r hr => ?_
  have hi' : i < r.length := by rw [← hr.len]; exact hi
  have hj' : j < r.length := by rw [← hr.len]; exact hj
  have hk' : k < r.length := by rw [← hr.len]; exact hk
  simp [wT_e, hi', hj', hk']
  exact ⟨.nx, _, rfl, rfl, ((hr.set (Rep.ok _ _)).set (Rep.ok _ _)).set (Rep.ok _ _)⟩
theorem js_tup4 {f1 f2 f3 f4 : ES} {A4 : List Sl} {g1 : m β1} {g2 : m β2} {g3 : m β3} {g4 : m β4} (h1 : JV Rep.rep A f1 g1 A1) (h2 : JV Rep.rep A1 f2 g2 A2) (h3 : JV Rep.rep A2 f3 g3 A3) (h4 : JV Rep.rep A3 f4 g4 A4) (hi : i < A4.length := by exact of_decide_eq_true rfl) (hj : j < A4.length := by exact of_decide_eq_true rfl) (hk : k < A4.length := by exact of_decide_eq_true rfl) (hl : l < A4.length := by exact of_decide_eq_true rfl) :
    J A (sTupW 4 (wsCons (wN i) (wsCons (wN j) (wsCons (wN k) (wsCons (wN l) wsNil)))) (wCons f1 (wCons f2 (wCons f3 (wCons f4 wNil))))) (quad g1 g2 g3 g4) (NxV fun b => (((A4.set i (Rep.sl b.1)).set j (Rep.sl b.2.1)).set k (Rep.sl b.2.2.1)).set l (Rep.sl b.2.2.2)) := by
  have e : sTupW 4 (wsCons (wN i) (wsCons (wN j) (wsCons (wN k) (wsCons (wN l) wsNil)))) (wCons f1 (wCons f2 (wCons f3 (wCons f4 wNil)))) = fun ρ => (f1 ρ).bind fun w1 r => (f2 r).bind fun w2 r => (f3 r).bind fun w3 r => (f4 r).bind fun w4 r => (ofO (wT 4 (wsCons (wN i) (wsCons (wN j) (wsCons (wN k) (wsCons (wN l) wsNil)))) [w1, w2, w3, w4] r) r).bind fun r' _ => .ok Fl.nx r' := by
    funext ρ
    unfold sTupW wCons wNil
    cases f1 ρ with
    | ok w1 r1 =>
      simp only [Out.bind_ok]
      cases f2 r1 with
      | ok w2 r2 =>
        simp only [Out.bind_ok]
        cases f3 r2 with
        | ok w3 r3 =>
          simp only [Out.bind_ok]
          cases f4 r3 <;> rfl
        | exc _ _ => rfl
        | bad => rfl
      | exc _ _ => rfl
      | bad => rfl
    | exc _ _ => rfl
    | bad => rfl
  rw [e]
  refine J.seqV h1 fun x => J.seqV h2 fun y => J.seqV h3 fun z => J.seqV h4 fun u => J.mk fun dk r hr => ?_
  have hi' : i < r.length := by rw [← hr.len]; exact hi
  have hj' : j < r.length := by rw [← hr.len]; exact hj
  have hk' : k < r.length := by rw [← hr.len]; exact hk
  have hl' : l < r.length := by rw [← hr.len]; exact hl
  simp [wT_e, hi', hj', hk', hl']
  exact ⟨.nx, _, rfl, rfl, (((hr.set (Rep.ok _ _)).set (Rep.ok _ _)).set (Rep.ok _ _)).set (Rep.ok _ _)⟩
/-! ### places put anew -/
theorem setW_ow {k : Int} : setW (ow vs) k (.d v) = ((ixN vs.length k).bind fun j => if j < vs.length then some (vs.set j v) else none).map ow := by
  unfold setW
  simp only [List.length_map]
  cases ixN vs.length k with
  | none => rfl
  | some j =>
    simp only [Option.bind_some]
    by_cases h : j < vs.length
    · rw [if_pos h, if_pos h]
      show some (Wv.o _) = some (Wv.o _)
      rw [List.map_set]
    · rw [if_neg h, if_neg h]; rfl
theorem js_setE (s : Nat) {gi : m D} (h : JE A (fzF f) g B) (hi : JE B (fzF fi) gi C) (h0 : B[s]? = some (.o vs) := by rfl) (hs : C[s]? = some (.o vs) := by rfl) :
    J A (sSetE s fi f) (Mo.bind g fun v => Mo.bind gi fun x => Mo.lift (setL vs (intD x) v)) (NxV fun ws => C.set s (.o ws)) := by
  unfold sSetE
  refine J.seq h fun d => J.mk fun dk r hr => ?_
  obtain ⟨y, e, e2⟩ := hr.get h0
  rw [show y = some (ow vs) from e2] at e
  rw [e, Mo.run_bind]
  show Sm _ ((fz (fi r)).bind fun i r2 => match i, r2[s]? with
    | .int k, some (some w0) => (match setW w0 k (.d d) with
      | some w1 => .ok Fl.nx (r2.set s (some w1))
      | none => .bad)
    | _, _ => .bad) _
  refine Sm.bind (hi dk r hr) fun p x r2 hv => ?_
  obtain ⟨e1, e3⟩ := hv
  obtain ⟨y, e4, e5⟩ := e3.get hs
  rw [show y = some (ow vs) from e5] at e4
  rw [e4, e1, Mo.run_lift]
  cases p.1 with
  | int k =>
    show Sm _ (match setW (ow vs) k (.d d) with
      | some w1 => .ok Fl.nx (r2.set s (some w1))
      | none => .bad) ((R.ofO ((ixN vs.length k).bind fun j => if j < vs.length then some (vs.set j d) else none)).bind _)
    rw [setW_ow]
    cases (ixN vs.length k).bind fun j => if j < vs.length then some (vs.set j d) else none with
    | none => trivial
    | some us => exact ⟨.nx, _, rfl, rfl, e3.set rfl⟩
  | _ => trivial
theorem js_at (s : Nat) {ga : IxF} {o : Option Int} (h : JE A (fzF f) g B) (ha : JI B ga o) (hs : B[s]? = some (.o vs) := by rfl) :
    J A (sAsgW (wAt s ga) (sFz f)) (Mo.bind g fun v => Mo.lift (setL vs o v)) (NxV fun ws => B.set s (.o ws)) := by
  unfold sAsgW
  refine J.seqV (jv_fz h) fun d => J.mk fun dk r hr => ?_
  obtain ⟨y, e, e2⟩ := hr.get hs
  rw [show y = some (ow vs) from e2] at e
  rw [wAt_e, e, ha dk r hr, Mo.run_lift]
  cases o with
  | none => trivial
  | some k =>
    show Sm _ ((ofO ((setW (ow vs) k (.d d)).map fun w1 => r.set s (some w1)) r).bind fun r' _ => .ok Fl.nx r') ((R.ofO ((ixN vs.length k).bind fun j => if j < vs.length then some (vs.set j d) else none)).bind _)
    rw [setW_ow]
    cases (ixN vs.length k).bind fun j => if j < vs.length then some (vs.set j d) else none with
    | none => trivial
    | some us => exact ⟨.nx, _, rfl, rfl, hr.set rfl⟩
def set2L (vss : List (List D)) (i j : Option Int) (v : D) : R (List (List D)) := R.ofO (i.bind fun i => j.bind fun j => (ixN vss.length i).bind fun k => (vss[k]?).bind fun vs => ((ixN vs.length j).bind fun l => if l < vs.length then some (vs.set l v) else none).map fun us => vss.set k us)
theorem js_at2 (s : Nat) {ga gb : IxF} {o o' : Option Int} {vss : List (List D)} (h : JE A (fzF f) g B) (ha : JI B ga o) (hb : JI B gb o') (hs : B[s]? = some (.oo vss) := by rfl) :
    J A (sAsgW (wAt2 s ga gb) (sFz f)) (Mo.bind g fun v => Mo.lift (set2L vss o o' v)) (NxV fun ws => B.set s (.oo ws)) := by
  unfold sAsgW
  refine J.seqV (jv_fz h) fun d => J.mk fun dk r hr => ?_
  obtain ⟨y, e, e2⟩ := hr.get hs
  rw [show y = some (oow vss) from e2] at e
  rw [wAt2_e, e, ha dk r hr, hb dk r hr, Mo.run_lift]
  cases o with
  | none => trivial
  | some x =>
    cases o' with
    | none => trivial
    | some y =>
      show Sm _ ((ofO ((set2W (oow vss) x y (.d d)).map fun w1 => r.set s (some w1)) r).bind fun r' _ => .ok Fl.nx r') ((R.ofO ((ixN vss.length x).bind fun k => (vss[k]?).bind fun vs => ((ixN vs.length y).bind fun l => if l < vs.length then some (vs.set l d) else none).map fun us => vss.set k us)).bind _)
      have e3 : set2W (oow vss) x y (.d d) = ((ixN vss.length x).bind fun k => (vss[k]?).bind fun vs => ((ixN vs.length y).bind fun l => if l < vs.length then some (vs.set l d) else none).map fun us => vss.set k us).map oow := by
        unfold set2W
        simp only [List.length_map]
        cases ixN vss.length x with
        | none => rfl
        | some k =>
          simp only [Option.bind_some, List.getElem?_map]
          cases vss[k]? with
          | none => rfl
          | some vs =>
            show ((setW (ow vs) y (.d d)).map fun w3 => Wv.o ((vss.map ow).set k w3)) = (((ixN vs.length y).bind fun l => if l < vs.length then some (vs.set l d) else none).map fun us => vss.set k us).map oow
            rw [setW_ow]
            cases (ixN vs.length y).bind fun l => if l < vs.length then some (vs.set l d) else none with
            | none => rfl
            | some us =>
              show some (Wv.o _) = some (Wv.o _)
              rw [List.map_set]
      rw [e3]
      cases (ixN vss.length x).bind fun k => (vss[k]?).bind fun vs => ((ixN vs.length y).bind fun l => if l < vs.length then some (vs.set l d) else none).map fun us => vss.set k us with
      | none => trivial
      | some us => exact ⟨.nx, _, rfl, rfl, hr.set rfl⟩
/-- x[i], x[j] = e, e' -/
theorem js_swap (s : Nat) {ga gb : IxF} {o : Option Int} {o' : List D → Option Int} {g1 g2 : m D} {f1 f2 : ES} (h1 : JE A (fzF f1) g1 A1) (h2 : JE A1 (fzF f2) g2 B) (ha : JI B ga o) (hb : ∀ us, JI (B.set s (.o us)) gb (o' us)) (hs : B[s]? = some (.o vs) := by rfl) :
    J A (sTupW 2 (wsCons (wAt s ga) (wsCons (wAt s gb) wsNil)) (wCons (sFz f1) (wCons (sFz f2) wNil))) (Mo.bind g1 fun x => Mo.bind g2 fun y => Mo.bind (Mo.lift (setL vs o x)) fun us => Mo.lift (setL us (o' us) y)) (NxV fun ws => B.set s (.o ws)) := by
  have e : sTupW 2 (wsCons (wAt s ga) (wsCons (wAt s gb) wsNil)) (wCons (sFz f1) (wCons (sFz f2) wNil)) = fun ρ => (sFz f1 ρ).bind fun w1 r => (sFz f2 r).bind fun w2 r => (ofO (wT 2 (wsCons (wAt s ga) (wsCons (wAt s gb) wsNil)) [w1, w2] r) r).bind fun r' _ => .ok Fl.nx r' := by
    funext ρ
    unfold sTupW wCons wNil
    cases sFz f1 ρ with
    | ok w1 r1 =>
      simp only [Out.bind_ok]
      cases sFz f2 r1 with
      | ok w2 r2 => rfl
      | exc _ _ => rfl
      | bad => rfl
    | exc _ _ => rfl
    | bad => rfl
  rw [e]
  refine J.seqV (jv_fz h1) fun x => J.seqV (jv_fz h2) fun y => J.mk fun dk r hr => ?_
  obtain ⟨z, e1, e2⟩ := hr.get hs
  rw [show z = some (ow vs) from e2] at e1
  have hsl : s < r.length := (List.getElem?_eq_some_iff.mp e1).1
  rw [Mo.run_bind, Mo.run_lift]
  have u : (ofO (wT 2 (wsCons (wAt s ga) (wsCons (wAt s gb) wsNil)) [.d x, .d y] r) r).bind (fun r' _ => Out.ok Fl.nx r') = (ofO ((wAt s ga (.d x) r).bind fun r1 => (wAt s gb (.d y) r1).bind fun r2 => some r2) r).bind (fun r' _ => Out.ok Fl.nx r') := by
    simp only [wT_e, List.length_cons, List.length_nil, Nat.zero_add, Nat.reduceAdd, if_true, wsCons_e]
    congr 2
  rw [u, wAt_e, e1, ha dk r hr]
  cases o with
  | none => trivial
  | some k =>
    show Sm _ ((ofO (((setW (ow vs) k (.d x)).map fun w1 => r.set s (some w1)).bind fun r1 => (wAt s gb (.d y) r1).bind fun r2 => some r2) r).bind fun r' _ => .ok Fl.nx r') (((R.ofO ((ixN vs.length k).bind fun j => if j < vs.length then some (vs.set j x) else none)).bind fun a => .ok (a, dk)).bind _)
    rw [setW_ow]
    cases (ixN vs.length k).bind fun j => if j < vs.length then some (vs.set j x) else none with
    | none => trivial
    | some us =>
      have hr1 : Rel dk (B.set s (.o us)) (r.set s (some (ow us))) := hr.set rfl
      show Sm _ ((ofO ((wAt s gb (.d y) (r.set s (some (ow us)))).bind fun r2 => some r2) r).bind fun r' _ => .ok Fl.nx r') (Mo.run (Mo.lift (setL us (o' us) y) : m (List D)) dk)
      rw [wAt_e, List.getElem?_set_self hsl, hb us dk _ hr1, Mo.run_lift]
      cases o' us with
      | none => trivial
      | some l =>
        show Sm _ ((ofO ((((setW (ow us) l (.d y)).map fun w1 => (r.set s (some (ow us))).set s (some w1))).bind fun r2 => some r2) r).bind fun r' _ => .ok Fl.nx r') ((R.ofO ((ixN us.length l).bind fun j => if j < us.length then some (us.set j y) else none)).bind _)
        rw [setW_ow]
        cases (ixN us.length l).bind fun j => if j < us.length then some (us.set j y) else none with
        | none => trivial
        | some ts =>
          refine ⟨.nx, _, rfl, rfl, ?_⟩
          show Rel dk _ ((r.set s (some (ow us))).set s (some (ow ts)))
          rw [set_set]
          exact hr.set rfl
end
/-! ## while -/
section
variable {τ μ : Type} {B' : τ → List Sl} {RT : RTy μ} {gd : Rho → Out Bool} {body : SSem} {G : τ → R Bool} {F : τ → R (Fb τ μ)}
theorem whileN_sim (hg : ∀ t, JE (B' t) gd (G t) (B' t)) (hb : ∀ t, J (B' t) body (F t) (BV true B' RT)) : ∀ (n : Nat) (t : τ) (dk : List D) (ρ : Rho), Rel dk (B' t) ρ → Sm (fun l fl r => LV B' RT dk l fl r) (whileL gd body n ρ) (whileN G F n t)
  | 0, t, dk, ρ, hρ => trivial
  | n + 1, t, dk, ρ, hρ => by
    have e : whileL gd body (n + 1) ρ = ((gd ρ).bind fun b r => if b = true then (body r).bind fun fl r => match fl with
      | .nx => whileL gd body n r
      | .ct => whileL gd body n r
      | .bk => .ok .nx r
      | .ret w => .ok (.ret w) r else .ok .nx r) := rfl
    rw [e]
    show Sm _ _ ((G t).bind _)
    have h1 : Sm (fun (b : Bool) a r => a = b ∧ Rel dk (B' t) r) (gd ρ) (G t) := by
      have := hg t dk ρ hρ
      revert this
      show Sm _ _ ((G t).bind _) → _
      cases G t with
      | ok b => exact id
      | exc x => exact id
      | bad => exact id
    refine Sm.bind h1 fun b a r ⟨e1, hr⟩ => ?_
    subst e1
    cases a with
    | false => exact ⟨.nx, r, rfl, rfl, hr⟩
    | true =>
      have h2 : Sm (fun (b : Fb τ μ) a r => BV true B' RT dk b a r) (body r) (F t) := by
        have := hb t dk r hr
        revert this
        show Sm _ _ ((F t).bind _) → _
        cases F t with
        | ok b => exact id
        | exc x => exact id
        | bad => exact id
      show Sm _ ((body r).bind _) ((F t).bind _)
      refine Sm.bind h2 fun x fl r2 hv => ?_
      cases x with
      | nx t1 =>
        obtain ⟨h1, h2⟩ := hv
        rcases h1 with h1 | ⟨_, h1⟩
        · subst h1; exact whileN_sim hg hb n t1 dk r2 h2
        · subst h1; exact whileN_sim hg hb n t1 dk r2 h2
      | bk t1 =>
        obtain ⟨h1, h2⟩ := hv
        subst h1
        exact ⟨.nx, r2, rfl, rfl, h2⟩
      | ret v =>
        obtain ⟨w, h1, h2⟩ := hv
        subst h1
        exact ⟨_, r2, rfl, w, rfl, h2⟩
theorem jl_while {A : List Sl} {t0 : τ} (l : Le A (B' t0)) (hg : ∀ t, JE (B' t) gd (G t) (B' t)) (hb : ∀ t, J (B' t) body (F t) (BV true B' RT)) : J A (sWhile gd body) (whileR G F t0) (LV B' RT) := J.mk fun dk ρ hρ => by
  show Sm _ _ ((whileR G F t0).bind _)
  unfold whileR
  split
  · rename_i h
    have hn := h.choose_spec
    have := whileN_sim hg hb h.choose t0 dk ρ (l dk ρ hρ)
    revert this hn
    cases e : whileN G F h.choose t0 with
    | ok x =>
      rintro _ ⟨fl, r, e1, e2⟩
      rw [sWhile_eq h.choose e1 (fun z => nomatch z)]
      exact ⟨fl, r, rfl, e2⟩
    | exc x =>
      rintro _ ⟨r, e1⟩
      rw [sWhile_eq h.choose e1 (fun z => nomatch z)]
      exact ⟨r, rfl⟩
    | bad => intro hn; exact absurd rfl hn
  · trivial
end
/-! ## a list of one's own that calls change -/
def nokAt : List Sl → Nat → Bool
  | [], _ => true
  | .k :: A, 0 => nokAt A (A.length + 1)
  | .k :: _, _ + 1 => false
  | _ :: A, 0 => nokAt A (A.length + 1)
  | _ :: A, i + 1 => nokAt A i
theorem nokAt_ok : ∀ {A : List Sl} {i : Nat}, nokAt A i = true → ∀ j, j ≠ i → A[j]? ≠ some Sl.k
  | [], _, _, _, _ => by simp
  | a :: A, 0, h, 0, hj => absurd rfl hj
  | a :: A, 0, h, j + 1, hj => by
    have h' : nokAt A (A.length + 1) = true := by cases a <;> exact h
    by_cases e : j = A.length + 1
    · subst e; rw [List.getElem?_cons_succ, List.getElem?_eq_none (by omega)]; simp
    · rw [List.getElem?_cons_succ]; exact nokAt_ok h' j e
  | a :: A, i + 1, h, 0, hj => by
    cases a with
    | k => exact nomatch (h : false = true)
    | _ => simp
  | a :: A, i + 1, h, j + 1, hj => by
    have h' : nokAt A i = true := by
      cases a with
      | k => exact nomatch (h : false = true)
      | _ => exact h
    rw [List.getElem?_cons_succ]
    exact nokAt_ok h' j (by omega)
section
variable {A B C : List Sl} {f fa : ES} {g : S D} {s : Nat} {ns : List Int}
/-- x = a list of one's own, from which calls draw -/
def putK (g : S (List D)) : S Unit := fun dk => (g dk).bind fun p => .ok ((), p.1)
theorem js_setK {i : Nat} {g : S (List D)} (h : JV ow A f g B) (hn : nokAt B i = true := by rfl) (hi : i < B.length := by exact of_decide_eq_true rfl) : J A (sSet i f) (putK g) (NxV fun _ => B.set i .k) := by
  refine J.mk fun dk ρ hρ => ?_
  have := h dk ρ hρ
  revert this
  unfold sSet putK
  show Sm _ _ (g dk) → Sm _ _ ((g dk).bind _)
  cases g dk with
  | ok x =>
    rintro ⟨a, r, e1, e2, hr⟩
    rw [e1, e2]
    show Sm _ (if i < r.length then _ else _) _
    rw [if_pos (by rw [← hr.len]; exact hi)]
    exact ⟨.nx, _, rfl, rfl, hr.setK (nokAt_ok hn)⟩
  | exc x =>
    rintro ⟨r, e1⟩
    rw [e1]
    exact ⟨r, rfl⟩
  | bad => intro _; trivial
def callA (p : List D → S D) (as : S (List D)) : S D := fun dk => (as dk).bind fun q => p q.1 q.2
theorem set_k {i : Nat} (h : A[i]? = some Sl.k) : A.set i .k = A := by
  apply List.ext_getElem?
  intro k
  by_cases e : i = k
  · subst e
    rw [List.getElem?_set_self (List.getElem?_eq_some_iff.mp h).1, h]
  · rw [List.getElem?_set_ne e]
theorem je_callA {df : DS} {p : List D → S D} {aw : Rho → Out (List Wv)} {gs : S (List D)} (s : Nat) (F : SdA df p) (ha : J A aw gs (DsV B)) (h0 : A[s]? = some .k := by rfl) (hs : B[s]? = some .k := by rfl) (hn : nokAt B s = true := by rfl) : JE A (fzF (sCallA df s aw)) (callA p gs) B := by
  refine J.mk fun dk ρ hρ => ?_
  obtain ⟨y, e, e2⟩ := hρ.get h0
  rw [show y = some (ow dk) from e2] at e
  unfold fzF sCallA callA
  rw [e]
  show Sm _ (fz ((aw ρ).bind _)) ((gs dk).bind _)
  rw [fz_bind]
  refine Sm.bind (ha dk ρ hρ) fun q ws r hv => ?_
  obtain ⟨e1, hr⟩ := hv
  obtain ⟨y, e3, e4⟩ := hr.get hs
  rw [show y = some (ow q.2) from e4] at e3
  rw [e1, e3]
  have := F q.2 q.1
  revert this
  cases p q.1 q.2 with
  | ok x =>
    rintro ⟨a, r', e5, e6, e7⟩
    cases z : df (ow q.2 :: q.1.map .d) with
    | ok w r2 =>
      rw [z, fz_ok] at e5
      by_cases hw : w.nos = true
      · rw [if_pos hw] at e5
        cases e5
        refine ⟨w.dat, r.set s (r'.getD 0 none), ?_, e6, ?_⟩
        · show fz (match df (ow q.2 :: q.1.map .d) with
            | .ok w rp => .ok w (r.set s (rp.getD 0 none))
            | .exc x rp => .exc x (r.set s (rp.getD 0 none))
            | .bad => .bad) = _
          rw [z]
          show fz (.ok w _) = _
          rw [fz_ok, if_pos hw]
        · have e8 : r'.getD 0 none = some (ow x.2) := by rw [List.getD, e7]; rfl
          rw [e8, ← set_k hs]
          exact hr.setK (nokAt_ok hn)
      · rw [if_neg hw] at e5; cases e5
    | exc _ _ => rw [z] at e5; cases e5
    | bad => rw [z] at e5; cases e5
  | exc x =>
    rintro ⟨r', e5⟩
    cases z : df (ow q.2 :: q.1.map .d) with
    | ok w r2 =>
      rw [z, fz_ok] at e5
      by_cases hw : w.nos = true
      · rw [if_pos hw] at e5; cases e5
      · rw [if_neg hw] at e5; cases e5
    | exc x2 r2 =>
      rw [z] at e5
      cases e5
      refine ⟨r.set s (r'.getD 0 none), ?_⟩
      show fz (match df (ow q.2 :: q.1.map .d) with
        | .ok w rp => .ok w (r.set s (rp.getD 0 none))
        | .exc x rp => .exc x (r.set s (rp.getD 0 none))
        | .bad => .bad) = _
      rw [z]
      rfl
    | bad => rw [z] at e5; cases e5
  | bad => intro _; trivial
section
variable {m : Type → Type} [Mo m]
/-- the script handed on -/
theorem jo_callS {df : DS} {p : List Int → List D → R (List D)} {aw : Rho → Out (List Wv)} {gs : m (List D)} (s : Nat) (F : SdS df p) (ha : J A aw gs (DsV B)) (h0 : A[s]? = some (.s ns) := by rfl) (hs : B[s]? = some (.s ns) := by rfl) : JV ow A (sCallA df s aw) (Mo.bind gs fun ds => Mo.lift (p ns ds)) B := by
  refine J.mk fun dk ρ hρ => ?_
  obtain ⟨y, e, e2⟩ := hρ.get h0
  rw [show y = some (.s ns) from e2] at e
  unfold sCallA
  rw [e, Mo.run_bind]
  show Sm _ ((aw ρ).bind _) _
  refine Sm.bind (ha dk ρ hρ) fun q ws r hv => ?_
  obtain ⟨e1, hr⟩ := hv
  obtain ⟨y, e3, e4⟩ := hr.get hs
  rw [show y = some (.s ns) from e4] at e3
  rw [e1, e3, Mo.run_lift]
  have := F ns q.1
  revert this
  show _ → Sm _ (match df (.s ns :: q.1.map .d) with
        | .ok w rp => .ok w (r.set s (rp.getD 0 none))
        | .exc x rp => .exc x (r.set s (rp.getD 0 none))
        | .bad => .bad) _
  cases p ns q.1 with
  | ok x =>
    rintro ⟨a, r', e5, e6, e7⟩
    rw [e5]
    refine ⟨_, _, rfl, e6, ?_⟩
    have e8 : r'.getD 0 none = some (.s ns) := by rw [List.getD, e7]; rfl
    show Rel _ _ (r.set s (r'.getD 0 none))
    rw [e8, set_same e3]
    exact hr
  | exc x =>
    rintro ⟨r', e5⟩
    rw [e5]
    exact ⟨_, rfl⟩
  | bad => intro _; trivial
theorem je_callT {df : DS} {p : List Int → List D → R D} {aw : Rho → Out (List Wv)} {gs : m (List D)} (s : Nat) (F : SdT df p) (ha : J A aw gs (DsV B)) (h0 : A[s]? = some (.s ns) := by rfl) (hs : B[s]? = some (.s ns) := by rfl) : JE A (fzF (sCallA df s aw)) (Mo.bind gs fun ds => Mo.lift (p ns ds)) B := by
  refine J.mk fun dk ρ hρ => ?_
  obtain ⟨y, e, e2⟩ := hρ.get h0
  rw [show y = some (.s ns) from e2] at e
  unfold fzF sCallA
  rw [e, Mo.run_bind]
  show Sm _ (fz ((aw ρ).bind _)) _
  rw [fz_bind]
  refine Sm.bind (ha dk ρ hρ) fun q ws r hv => ?_
  obtain ⟨e1, hr⟩ := hv
  obtain ⟨y, e3, e4⟩ := hr.get hs
  rw [show y = some (.s ns) from e4] at e3
  rw [e1, e3, Mo.run_lift]
  have := F ns q.1
  revert this
  show _ → Sm _ (fz (match df (.s ns :: q.1.map .d) with
        | .ok w rp => .ok w (r.set s (rp.getD 0 none))
        | .exc x rp => .exc x (r.set s (rp.getD 0 none))
        | .bad => .bad)) _
  cases p ns q.1 with
  | ok x =>
    rintro ⟨a, r', e5, e6, e7⟩
    cases z : df (.s ns :: q.1.map .d) with
    | ok w r2 =>
      rw [z, fz_ok] at e5
      by_cases hw : w.nos = true
      · rw [if_pos hw] at e5
        cases e5
        refine ⟨w.dat, r.set s (r'.getD 0 none), ?_, e6, ?_⟩
        · show fz (.ok w _) = _
          rw [fz_ok, if_pos hw]
        · have e8 : r'.getD 0 none = some (.s ns) := by rw [List.getD, e7]; rfl
          rw [e8, set_same e3]
          exact hr
      · rw [if_neg hw] at e5; cases e5
    | exc _ _ => rw [z] at e5; cases e5
    | bad => rw [z] at e5; cases e5
  | exc x =>
    rintro ⟨r', e5⟩
    cases z : df (.s ns :: q.1.map .d) with
    | ok w r2 =>
      rw [z, fz_ok] at e5
      by_cases hw : w.nos = true
      · rw [if_pos hw] at e5; cases e5
      · rw [if_neg hw] at e5; cases e5
    | exc x2 r2 => rw [z] at e5; cases e5; exact ⟨_, rfl⟩
    | bad => rw [z] at e5; cases e5
  | bad => intro _; trivial
/-- f(a new list of one's own, ..) -/
def callX (p : List D → S D) (a : m (List D)) (as : m (List D)) : m D := Mo.bind a fun dk0 => Mo.bind as fun ds => Mo.lift ((p ds dk0).bind fun q => .ok q.1)
theorem je_callX {df : DS} {p : List D → S D} {f0 : ES} {aw : Rho → Out (List Wv)} {g0 gs : m (List D)} (F : SdA df p) (h0 : JV ow A f0 g0 B) (ha : J B aw gs (DsV C)) : JE A (fzF (sCallW df (wCons f0 aw))) (callX p g0 gs) C := by
  have e : fzF (sCallW df (wCons f0 aw)) = fun ρ => (f0 ρ).bind fun w0 r => (aw r).bind fun ws r => fz (match df (w0 :: ws) with
    | .ok w _ => .ok w r
    | .exc x _ => .exc x r
    | .bad => .bad) := by
    funext ρ
    unfold fzF sCallW wCons
    cases f0 ρ with
    | ok w0 r =>
      simp only [Out.bind_ok]
      cases aw r with
      | ok ws r2 => rfl
      | exc _ _ => rfl
      | bad => rfl
    | exc _ _ => rfl
    | bad => rfl
  rw [e]
  unfold callX
  refine J.seqV h0 fun dk0 => J.bind ha fun ds ws dk r ⟨e1, hr⟩ => ?_
  subst e1
  rw [Mo.run_lift]
  have := F dk0 ds
  revert this
  cases p ds dk0 with
  | ok x =>
    rintro ⟨a, r', e5, e6, e7⟩
    cases z : df (ow dk0 :: ds.map .d) with
    | ok w r2 =>
      rw [z, fz_ok] at e5
      by_cases hw : w.nos = true
      · rw [if_pos hw] at e5
        cases e5
        refine ⟨w.dat, r, ?_, e6, hr⟩
        show fz (.ok w _) = _
        rw [fz_ok, if_pos hw]
      · rw [if_neg hw] at e5; cases e5
    | exc _ _ => rw [z] at e5; cases e5
    | bad => rw [z] at e5; cases e5
  | exc x =>
    rintro ⟨r', e5⟩
    cases z : df (ow dk0 :: ds.map .d) with
    | ok w r2 =>
      rw [z, fz_ok] at e5
      by_cases hw : w.nos = true
      · rw [if_pos hw] at e5; cases e5
      · rw [if_neg hw] at e5; cases e5
    | exc x2 r2 => rw [z] at e5; cases e5; exact ⟨_, rfl⟩
    | bad => rw [z] at e5; cases e5
  | bad => intro _; trivial
end
/-- deck[i] -/
def atK (g : S D) : S D := fun dk => (g dk).bind fun q => (R.ofO ((intD q.1).bind fun k => atI q.2 k)).bind fun v => .ok (v, q.2)
theorem je_atK (s : Nat) (hi : JE A (fzF f) g B) (h0 : A[s]? = some .k := by rfl) (h : B[s]? = some .k := by rfl) : JE A (fzF (sAt s f)) (atK g) B := by
  refine J.mk fun dk ρ hρ => ?_
  obtain ⟨y, e, e2⟩ := hρ.get h0
  rw [show y = some (ow dk) from e2] at e
  unfold fzF sAt atK
  rw [e]
  show Sm _ (fz ((fz (f ρ)).bind _)) ((g dk).bind _)
  rw [fz_bind]
  refine Sm.bind (hi dk ρ hρ) fun p d r hv => ?_
  obtain ⟨e1, e2⟩ := hv
  obtain ⟨y, e3, e4⟩ := e2.get h
  rw [show y = some (ow p.2) from e4] at e3
  rw [e3, e1]
  cases p.1 with
  | int k =>
    show Sm _ (fz (ofO (((atI (p.2.map Wv.d) k).bind datW).map .d) r)) ((R.ofO (atI p.2 k)).bind _)
    rw [atI_map]
    cases atI p.2 k with
    | none => trivial
    | some d => exact ⟨d, r, rfl, rfl, e2⟩
  | _ => trivial
/-- deck[i] = e -/
def setK (o : Option Int) (g : S D) : S Unit := fun dk => (g dk).bind fun q => (setL q.2 o q.1).bind fun dk' => .ok ((), dk')
theorem js_atK (s : Nat) {ga : IxF} {o : Option Int} (h : JE A (fzF f) g B) (ha : JI B ga o) (hs : B[s]? = some .k := by rfl) (hn : nokAt B s = true := by rfl) :
    J A (sAsgW (wAt s ga) (sFz f)) (setK o g) (NxV fun _ => B) := by
  have e0 : sAsgW (wAt s ga) (sFz f) = fun ρ => (fz (f ρ)).bind fun d r => (ofO (wAt s ga (.d d) r) r).bind fun r' _ => .ok Fl.nx r' := by
    funext ρ
    unfold sAsgW sFz
    cases fz (f ρ) <;> rfl
  rw [e0]
  refine J.mk fun dk ρ hρ => ?_
  unfold setK
  show Sm _ _ ((g dk).bind _)
  refine Sm.bind (h dk ρ hρ) fun q d r hv => ?_
  obtain ⟨e1, hr⟩ := hv
  obtain ⟨y, e, e2⟩ := hr.get hs
  rw [show y = some (ow q.2) from e2] at e
  rw [wAt_e, e, ha _ r hr, e1]
  cases o with
  | none => trivial
  | some k =>
    show Sm _ ((ofO ((setW (ow q.2) k (.d q.1)).map fun w1 => r.set s (some w1)) r).bind fun r' _ => .ok Fl.nx r') ((R.ofO ((ixN q.2.length k).bind fun j => if j < q.2.length then some (q.2.set j q.1) else none)).bind _)
    rw [setW_ow]
    cases (ixN q.2.length k).bind fun j => if j < q.2.length then some (q.2.set j q.1) else none with
    | none => trivial
    | some us =>
      refine ⟨.nx, _, rfl, rfl, ?_⟩
      show Rel us B (r.set s (some (ow us)))
      rw [← set_k hs]
      exact hr.setK (nokAt_ok hn)
end
/-! ## defs -/
abbrev anyP : List D → Rho → Prop := fun _ _ => True
abbrev kP : List D → Rho → Prop := fun dk r => r[0]? = some (some (ow dk))
abbrev sP (ns : List Int) : List D → Rho → Prop := fun _ r => r[0]? = some (some (.s ns))
theorem any_ok {B : List Sl} : ∀ dk r, Rel dk B r → anyP dk r := fun _ _ _ => trivial
theorem k_ok {B : List Sl} (h : B[0]? = some Sl.k) : ∀ dk r, Rel dk B r → kP dk r := fun dk r hr => by
  obtain ⟨y, e, e2⟩ := hr.get h
  rw [show y = some (ow dk) from e2] at e
  exact e
theorem s_ok {B : List Sl} {ns : List Int} (h : B[0]? = some (Sl.s ns)) : ∀ dk r, Rel dk B r → sP ns dk r := fun dk r hr => by
  obtain ⟨y, e, e2⟩ := hr.get h
  rw [show y = some (.s ns) from e2] at e
  exact e
theorem Rel.start {dk : List D} {n : Nat} : ∀ ds : List D, Rel dk (ds.map .d ++ List.replicate n .j) ((ds.map .d).map some ++ List.replicate n none)
  | [] => by
    induction n with
    | zero => exact trivial
    | succ n ih => exact ⟨trivial, ih⟩
  | d :: ds => ⟨rfl, Rel.start ds⟩
theorem Rel.cons1 {dk : List D} {a : Sl} {y : Option Wv} {A : List Sl} {ρ : Rho} (h : SlR dk a y) (k : Rel dk A ρ) : Rel dk (a :: A) (y :: ρ) := ⟨h, k⟩
theorem Rel.startK {dk : List D} {n : Nat} (ds : List D) : Rel dk (.k :: (ds.map .d ++ List.replicate n .j)) ((ow dk :: ds.map Wv.d).map some ++ List.replicate n none) := Rel.cons1 (a := .k) (y := some (ow dk)) rfl (Rel.start ds)
theorem Rel.startS {dk : List D} {ns : List Int} {n : Nat} (ds : List D) : Rel dk (.s ns :: (ds.map .d ++ List.replicate n .j)) ((Wv.s ns :: ds.map Wv.d).map some ++ List.replicate n none) := Rel.cons1 (a := .s ns) (y := some (.s ns)) rfl (Rel.start ds)
theorem sd_of {n np : Nat} {M : Nat → Bool} {body : SSem} {p : List D → R D} (h : ∀ ds, ds.length = np → J (m := R) (ds.map .d ++ List.replicate (n - np) .j) body (p ds) (TV true (rtD anyP))) (h2 : ∀ ds, ds.length ≠ np → p ds = .bad) : Sd (mkDef n np M body) p := fun ds => by
  by_cases hl : ds.length = np
  · unfold mkDef
    rw [if_pos (by rw [List.length_map]; exact hl)]
    have := h ds hl [] _ (Rel.start ds)
    revert this
    show Sm _ _ ((p ds).bind _) → _
    cases p ds with
    | ok v =>
      rintro ⟨fl, r, e1, hv⟩
      rw [e1]
      cases fl with
      | ret w =>
        obtain ⟨⟨h1, h2⟩, _⟩ := hv
        refine ⟨v, finR np M r, ?_, rfl⟩
        show fz (.ok w _) = _
        rw [fz_ok, if_pos h1, h2]
      | nx =>
        obtain ⟨_, ⟨h1, h2⟩, _⟩ := hv
        refine ⟨v, finR np M r, ?_, rfl⟩
        show fz (.ok (.d .none) _) = _
        rw [fz_ok, if_pos h1, h2]
      | bk => exact hv.elim
      | ct => exact hv.elim
    | exc x =>
      rintro ⟨r, e1⟩
      rw [e1]
      exact ⟨_, rfl⟩
    | bad => intro _; trivial
  · rw [h2 ds hl]; trivial
theorem sdO_of {n np : Nat} {M : Nat → Bool} {body : SSem} {p : List D → R (List D)} (h : ∀ ds, ds.length = np → J (m := R) (ds.map .d ++ List.replicate (n - np) .j) body (p ds) (TV false (rtO anyP))) (h2 : ∀ ds, ds.length ≠ np → p ds = .bad) : SdO (mkDef n np M body) p := fun ds => by
  by_cases hl : ds.length = np
  · unfold mkDef
    rw [if_pos (by rw [List.length_map]; exact hl)]
    have := h ds hl [] _ (Rel.start ds)
    revert this
    show Sm _ _ ((p ds).bind _) → _
    cases p ds with
    | ok v =>
      rintro ⟨fl, r, e1, hv⟩
      rw [e1]
      cases fl with
      | ret w => exact ⟨w, _, rfl, hv.1⟩
      | nx => exact absurd hv.1 (by decide)
      | bk => exact hv.elim
      | ct => exact hv.elim
    | exc x =>
      rintro ⟨r, e1⟩
      rw [e1]
      exact ⟨_, rfl⟩
    | bad => intro _; trivial
  · rw [h2 ds hl]; trivial
theorem finR_0 {np : Nat} {r : Rho} {w : Wv} (h : r[0]? = some (some w)) : (finR (np + 1) m0 r)[0]? = some (some w) := by
  unfold finR
  rw [List.getElem?_map, List.getElem?_range (Nat.succ_pos _)]
  show some (if m0 0 = true then r.getD 0 none else none) = _
  rw [if_pos (show m0 0 = true from rfl), List.getD, h]
  rfl
theorem sdA_of {n np : Nat} {body : SSem} {p : List D → S D} (h : ∀ ds, ds.length = np → J (m := S) (.k :: (ds.map .d ++ List.replicate (n - (np + 1)) .j)) body (p ds) (TV true (rtD kP))) (h2 : ∀ ds dk, ds.length ≠ np → p ds dk = .bad) : SdA (mkDef n (np + 1) m0 body) p := fun dk ds => by
  by_cases hl : ds.length = np
  · unfold mkDef
    rw [if_pos (by rw [List.length_cons, List.length_map, hl])]
    have := h ds hl dk ((ow dk :: ds.map Wv.d).map some ++ List.replicate (n - (np + 1)) none) (Rel.startK ds)
    revert this
    show Sm _ _ (p ds dk) → _
    cases p ds dk with
    | ok v =>
      rintro ⟨fl, r, e1, hv⟩
      rw [e1]
      cases fl with
      | ret w =>
        obtain ⟨⟨h1, h2⟩, h3⟩ := hv
        refine ⟨v.1, finR (np + 1) m0 r, ?_, rfl, finR_0 h3⟩
        show fz (.ok w _) = _
        rw [fz_ok, if_pos h1, h2]
      | nx =>
        obtain ⟨_, ⟨h1, h2⟩, h3⟩ := hv
        refine ⟨v.1, finR (np + 1) m0 r, ?_, rfl, finR_0 h3⟩
        show fz (.ok (.d .none) _) = _
        rw [fz_ok, if_pos h1, h2]
      | bk => exact hv.elim
      | ct => exact hv.elim
    | exc x =>
      rintro ⟨r, e1⟩
      rw [e1]
      exact ⟨_, rfl⟩
    | bad => intro _; trivial
  · rw [h2 ds dk hl]; trivial
theorem sdS_of {n np : Nat} {body : SSem} {p : List Int → List D → R (List D)} (h : ∀ ns ds, ds.length = np → J (m := R) (.s ns :: (ds.map .d ++ List.replicate (n - (np + 1)) .j)) body (p ns ds) (TV false (rtO (sP ns)))) (h2 : ∀ ns ds, ds.length ≠ np → p ns ds = .bad) : SdS (mkDef n (np + 1) m0 body) p := fun ns ds => by
  by_cases hl : ds.length = np
  · unfold mkDef
    rw [if_pos (by rw [List.length_cons, List.length_map, hl])]
    have := h ns ds hl [] ((Wv.s ns :: ds.map Wv.d).map some ++ List.replicate (n - (np + 1)) none) (Rel.startS ds)
    revert this
    show Sm _ _ ((p ns ds).bind _) → _
    cases p ns ds with
    | ok v =>
      rintro ⟨fl, r, e1, hv⟩
      rw [e1]
      cases fl with
      | ret w => exact ⟨w, _, rfl, hv.1, finR_0 hv.2⟩
      | nx => exact absurd hv.1 (by decide)
      | bk => exact hv.elim
      | ct => exact hv.elim
    | exc x =>
      rintro ⟨r, e1⟩
      rw [e1]
      exact ⟨_, rfl⟩
    | bad => intro _; trivial
  · rw [h2 ns ds hl]; trivial
theorem sdT_of {n np : Nat} {body : SSem} {p : List Int → List D → R D} (h : ∀ ns ds, ds.length = np → J (m := R) (.s ns :: (ds.map .d ++ List.replicate (n - (np + 1)) .j)) body (p ns ds) (TV true (rtD (sP ns)))) (h2 : ∀ ns ds, ds.length ≠ np → p ns ds = .bad) : SdT (mkDef n (np + 1) m0 body) p := fun ns ds => by
  by_cases hl : ds.length = np
  · unfold mkDef
    rw [if_pos (by rw [List.length_cons, List.length_map, hl])]
    have := h ns ds hl [] ((Wv.s ns :: ds.map Wv.d).map some ++ List.replicate (n - (np + 1)) none) (Rel.startS ds)
    revert this
    show Sm _ _ ((p ns ds).bind _) → _
    cases p ns ds with
    | ok v =>
      rintro ⟨fl, r, e1, hv⟩
      rw [e1]
      cases fl with
      | ret w =>
        obtain ⟨⟨h1, h2⟩, h3⟩ := hv
        refine ⟨v, finR (np + 1) m0 r, ?_, rfl, finR_0 h3⟩
        show fz (.ok w _) = _
        rw [fz_ok, if_pos h1, h2]
      | nx =>
        obtain ⟨_, ⟨h1, h2⟩, h3⟩ := hv
        refine ⟨v, finR (np + 1) m0 r, ?_, rfl, finR_0 h3⟩
        show fz (.ok (.d .none) _) = _
        rw [fz_ok, if_pos h1, h2]
      | bk => exact hv.elim
      | ct => exact hv.elim
    | exc x =>
      rintro ⟨r, e1⟩
      rw [e1]
      exact ⟨_, rfl⟩
    | bad => intro _; trivial
  · rw [h2 ns ds hl]; trivial
/-- the law itself: a script, and draws within -/
theorem law_of {n : Nat} {M : Nat → Bool} {body : SSem} {p : List Int → S D} {ns : List Int} (h : J (m := S) (.s ns :: List.replicate (n - 1) .j) body (p ns) (TV true (rtD anyP))) {dk : List D} (e : p ns [] = .ok (.bool true, dk)) :
    ∃ rr, fz (mkDef n 1 M body [.s ns]) = .ok (.bool true) rr := by
  have := h [] ([Wv.s ns].map some ++ List.replicate (n - 1) none) (Rel.startS (ns := ns) [])
  unfold mkDef
  rw [if_pos (show [Wv.s ns].length = 1 from rfl)]
  revert this
  show Sm _ _ (p ns []) → _
  rw [e]
  rintro ⟨fl, r, e1, hv⟩
  rw [e1]
  cases fl with
  | ret w =>
    obtain ⟨⟨h1, h2⟩, _⟩ := hv
    refine ⟨finR 1 M r, ?_⟩
    show fz (.ok w (finR 1 M r)) = _
    rw [fz_ok, if_pos h1, h2]
  | nx =>
    obtain ⟨_, ⟨h1, h2⟩, _⟩ := hv
    refine ⟨finR 1 M r, ?_⟩
    show fz (.ok (.d .none) (finR 1 M r)) = _
    rw [fz_ok, if_pos h1, h2]
  | bk => exact hv.elim
  | ct => exact hv.elim
theorem fz_true {o : Out Wv} {rr : Rho} (h : fz o = .ok (.bool true) rr) : ∃ rr, o = .ok (.d (.bool true)) rr := by
  cases o with
  | ok w r =>
    rw [fz_ok] at h
    by_cases hn : w.nos = true
    · rw [if_pos hn] at h
      cases w with
      | d x =>
        have h2 := (Out.ok.inj h).1
        rw [dat_d] at h2
        exact ⟨r, by rw [h2]⟩
      | o ws =>
        have h2 := (Out.ok.inj h).1
        rw [dat_o] at h2
        cases h2
      | s ns =>
        rw [Wv.nos] at hn
        cases hn
    · rw [if_neg hn] at h; cases h
  | exc _ _ => cases h
  | bad => cases h
theorem cons_nil {p : SSem} : sCons p sNil = p := by
  funext ρ
  unfold sCons
  cases p ρ with
  | ok fl r => cases fl <;> rfl
  | exc _ _ => rfl
  | bad => rfl
theorem j_last {m : Type → Type} [Mo m] {β : Type} {A : List Sl} {p : SSem} {g : m β} {W : List D → β → Fl → Rho → Prop} (h : J A p g W) : J A (sCons p sNil) g W := by
  rw [cons_nil]; exact h
end FW

set_option Elab.async false
set_option linter.all false
set_option maxRecDepth 100000
set_option maxHeartbeats 1000001
namespace FW
open PySem PySem.Spec
open L2 (atI)
/-! # Rules to reckon with plain functions -/
section
variable {m : Type → Type} [Mo m] {α β τ μ : Type} {a b c : m D} {v x y : D} {ds vs : List D}
@[simp] theorem bin_eq {p : D → D → Option Wv} : (bin p a b : m D) = Mo.bind a fun x => Mo.bind b fun y => Mo.lift (R.ofW (p x y)) := rfl
@[simp] theorem chn_eq {p p' : Int → Int → Bool} : (chn p p' a b c : m D) = Mo.bind a fun x => Mo.bind b fun y => Mo.bind (Mo.lift (R.ofO (intB p x y))) fun k => if k = true then Mo.bind c fun z => Mo.bind (Mo.lift (R.ofO (intB p' y z))) fun k => pur (.bool k) else pur (.bool false) := rfl
@[simp] theorem andV_eq : (andV a b : m D) = Mo.bind a fun d => onB d b (pur (.bool false)) := rfl
@[simp] theorem orV_eq : (orV a b : m D) = Mo.bind a fun d => onB d (pur (.bool true)) b := rfl
@[simp] theorem notV_eq : (notV a : m D) = Mo.bind a fun d => onB d (pur (.bool false)) (pur (.bool true)) := rfl
@[simp] theorem negV_eq : (negV a : m D) = Mo.bind a fun d => Mo.lift (R.ofO ((intD d).map fun i => .int (-i))) := rfl
@[simp] theorem tst_eq : (tst a : m Bool) = Mo.bind a fun d => Mo.lift (R.ofO (boolD d)) := rfl
@[simp] theorem tand_eq {a b : m Bool} : (tand a b : m Bool) = Mo.bind a fun k => if k = true then b else pur false := rfl
@[simp] theorem tor_eq {a b : m Bool} : (tor a b : m Bool) = Mo.bind a fun k => if k = true then pur true else b := rfl
@[simp] theorem tnot_eq {a : m Bool} : (tnot a : m Bool) = Mo.bind a fun k => pur (!k) := rfl
@[simp] theorem ifE_eq {t : m Bool} {a b : m α} : (ifE t a b : m α) = Mo.bind t fun k => if k = true then a else b := rfl
@[simp] theorem acons_eq {as : m (List D)} : (acons a as : m (List D)) = Mo.bind a fun d => Mo.bind as fun ds => pur (d :: ds) := rfl
@[simp] theorem astar_eq {as : m (List D)} : (astar a as : m (List D)) = Mo.bind a fun d => Mo.bind (Mo.lift (R.ofO (itemsD d))) fun xs => Mo.bind as fun ds => pur (xs ++ ds) := rfl
@[simp] theorem capd_eq {as : m (List D)} : (capd as : m (List D)) = Mo.bind as fun ds => if ds.length ≤ 1000000 then pur ds else Mo.lift .bad := rfl
@[simp] theorem tupE_eq {as : m (List D)} : (tupE as : m D) = Mo.bind (capd as) fun ds => pur (.tuple ds) := rfl
@[simp] theorem lstD_eq {as : m (List D)} : (lstD as : m D) = Mo.bind as fun ds => pur (.list ds) := rfl
@[simp] theorem prim_eq {pr : List D → Option Wv} {as : m (List D)} : (prim pr as : m D) = Mo.bind as fun ds => Mo.lift (R.ofW (pr ds)) := rfl
@[simp] theorem isiE_eq {T : String} : (isiE T a : m D) = Mo.bind a fun d => pur (.bool (isiD T d)) := rfl
@[simp] theorem lenE_eq : (lenE v : m D) = Mo.lift (R.ofO ((lenW (.d v)).map .int)) := rfl
@[simp] theorem cutE_eq {lo hi : m (Option Int)} : (cutE a lo hi : m D) = Mo.bind a fun d => Mo.bind lo fun l => Mo.bind hi fun h => Mo.lift (R.ofW (pCut d l h)) := rfl
@[simp] theorem partE_eq : (partE a : m (Option Int)) = Mo.bind a fun d => Mo.lift (R.ofO ((intD d).map some)) := rfl
@[simp] theorem call_eq {p : List D → R D} {as : m (List D)} : (call p as : m D) = Mo.bind as fun ds => Mo.lift (p ds) := rfl
@[simp] theorem callK_eq {p : List D → R D} {n : Nat} {is : List Nat} {as : m (List D)} : (callK p n is as : m D) = Mo.bind as fun ds => if ds.length = n then Mo.lift (p (pick is ds)) else Mo.lift .bad := rfl
@[simp] theorem callX_eq {p : List D → S D} {o as : m (List D)} : (callX p o as : m D) = Mo.bind o fun dk0 => Mo.bind as fun ds => Mo.lift ((p ds dk0).bind fun q => .ok q.1) := rfl
@[simp] theorem atE_eq : (atE v a : m D) = Mo.bind a fun d => Mo.lift (R.ofO ((intD d).bind fun k => (atW (.d v) k).bind datW)) := rfl
@[simp] theorem at2E_eq {vss : List (List D)} {i j : Option Int} : (at2E vss i j : m D) = Mo.lift (R.ofO (i.bind fun i => j.bind fun j => (atI vss i).bind fun vs => atI vs j)) := rfl
@[simp] theorem items_eq : (items a : m (List D)) = Mo.bind a fun d => Mo.lift (R.ofO (itemsD d)) := rfl
@[simp] theorem rng1_eq {as : m (List D)} : (rng1 as : m (List D)) = Mo.bind as fun ds => Mo.lift (R.ofO (rng1O ds)) := rfl
@[simp] theorem rng2_eq {as : m (List D)} : (rng2 as : m (List D)) = Mo.bind as fun ds => Mo.lift (R.ofO (rng2O ds)) := rfl
@[simp] theorem zipE_eq {as : m (List D)} : (zipE as : m (List D)) = Mo.bind as fun ds => Mo.lift (R.ofO (zipO ds)) := rfl
@[simp] theorem enuE_eq {as : m (List D)} : (enuE as : m (List D)) = Mo.bind as fun ds => Mo.lift (R.ofO (enuO ds)) := rfl
@[simp] theorem whenE_eq {t : m Bool} {a : m α} : (whenE t a : m (Option α)) = Mo.bind t fun k => if k = true then Mo.bind a fun x => pur (some x) else pur none := rfl
@[simp] theorem whenL_eq {t : m Bool} {a : m (List α)} : (whenL t a : m (List α)) = Mo.bind t fun k => if k = true then a else pur [] := rfl
@[simp] theorem cap_eq {n : Nat} {it : m (List D)} {k : List D → m α} : (cap n it k : m α) = Mo.bind it fun xs => if xs.length ≤ n then k xs else Mo.lift .bad := rfl
@[simp] theorem thenL_eq {a : m (Lr τ μ)} {k : τ → m μ} : (thenL a k : m μ) = Mo.bind a fun r => match r with
  | .go t => k t
  | .ret v => pur v := rfl
@[simp] theorem thenB_eq {σ : Type} {a : m (Lr σ μ)} {k : σ → m (Fb τ μ)} : (thenB a k : m (Fb τ μ)) = Mo.bind a fun r => match r with
  | .go t => k t
  | .ret v => pur (.ret v) := rfl
@[simp] theorem goL_eq {a : m (Lr τ Empty)} : (goL a : m τ) = Mo.bind a fun r => match r with
  | .go t => pur t
  | .ret v => nomatch v := rfl
@[simp] theorem appE_eq : (appE vs a : m (List D)) = Mo.bind a fun v => if vs.length < 1000000 then pur (vs ++ [v]) else Mo.lift .bad := rfl
@[simp] theorem binO_eq {p : D → D → Option Wv} : (binO p a b : m (List D)) = Mo.bind a fun x => Mo.bind b fun y => Mo.lift (R.ofO ((p x y).bind ownW)) := rfl
@[simp] theorem primO_eq {pr : List D → Option Wv} {as : m (List D)} : (primO pr as : m (List D)) = Mo.bind as fun ds => Mo.lift (R.ofO ((pr ds).bind ownW)) := rfl
@[simp] theorem cutO_eq {lo hi : m (Option Int)} : (cutO a lo hi : m (List D)) = Mo.bind a fun d => Mo.bind lo fun l => Mo.bind hi fun h => Mo.lift (R.ofO ((pCut d l h).bind ownW)) := rfl
variable {β1 β2 β3 β4 : Type}
@[simp] theorem pair_eq {a : m β1} {b : m β2} : (pair a b : m (β1 × β2)) = Mo.bind a fun x => Mo.bind b fun y => pur (x, y) := rfl
@[simp] theorem trip_eq {a : m β1} {b : m β2} {c : m β3} : (trip a b c : m (β1 × β2 × β3)) = Mo.bind a fun x => Mo.bind b fun y => Mo.bind c fun z => pur (x, y, z) := rfl
@[simp] theorem quad_eq {a : m β1} {b : m β2} {c : m β3} {d : m β4} : (quad a b c d : m (β1 × β2 × β3 × β4)) = Mo.bind a fun x => Mo.bind b fun y => Mo.bind c fun z => Mo.bind d fun u => pur (x, y, z, u) := rfl
end
@[simp] theorem callA_app {p : List D → S D} {as : S (List D)} {dk : List D} : callA p as dk = (as dk).bind fun q => p q.1 q.2 := rfl
@[simp] theorem putK_app {g : S (List D)} {dk : List D} : putK g dk = (g dk).bind fun p => .ok ((), p.1) := rfl
@[simp] theorem atK_app {g : S D} {dk : List D} : atK g dk = (g dk).bind fun q => (R.ofO ((intD q.1).bind fun k => atI q.2 k)).bind fun v => .ok (v, q.2) := rfl
@[simp] theorem setK_app {o : Option Int} {g : S D} {dk : List D} : setK o g dk = (g dk).bind fun q => (setL q.2 o q.1).bind fun dk' => .ok ((), dk') := rfl
/-! ## values -/
section
variable {v : D} {vs : List D} {o : Option D} {i : Int}
@[simp] theorem ofW_d : R.ofW (some (.d v)) = .ok v := by rw [R.ofW_some, nos_d, dat_d]; rfl
@[simp] theorem ofW_o : R.ofW (some (.o (vs.map .d))) = .ok (.list vs) := by rw [R.ofW_some, if_pos nos_o_ds, dat_o_ds]
@[simp] theorem ofW_map : R.ofW (o.map .d) = R.ofO o := by cases o <;> simp
@[simp] theorem ofW_if {c : Prop} [Decidable c] {a b : Option Wv} : R.ofW (if c then a else b) = if c then R.ofW a else R.ofW b := by split <;> rfl
@[simp] theorem ofO_if {α : Type} {c : Prop} [Decidable c] {a b : Option α} : R.ofO (if c then a else b) = if c then R.ofO a else R.ofO b := by split <;> rfl
@[simp] theorem intD_i : intD (.int i) = some i := rfl
@[simp] theorem ownW_o : ownW (.o (vs.map .d)) = some vs := by
  show (vs.map Wv.d).mapM datW = some vs
  induction vs with
  | nil => rfl
  | cons v vs ih => rw [List.map_cons, List.mapM_cons, ih]; rfl
@[simp] theorem rng1O_i : rng1O [.int i] = if i ≤ 1000000 ∧ -1000000 ≤ i then some (rngD 0 i.toNat) else none := rfl
@[simp] theorem rng2O_i {j : Int} : rng2O [.int i, .int j] = if (i ≤ 1000000 ∧ -1000000 ≤ i) ∧ j ≤ 1000000 ∧ -1000000 ≤ j then some (rngD i (j - i).toNat) else none := rfl
@[simp] theorem zipO_e {x y : D} : zipO [x, y] = (itemsD x).bind fun xs => (itemsD y).map fun ys => zipD xs ys := rfl
@[simp] theorem enuO_e {x : D} : enuO [x] = (itemsD x).map fun xs => enumD 0 xs := rfl
theorem setL_n {k : Nat} (h : k < vs.length) : setL vs (some (k : Int)) v = .ok (vs.set k v) := by
  unfold setL L2.ixN
  rw [Option.bind_some, if_pos (by omega), if_pos (by omega)]
  simp [h]
end
/-! ## a result with a property -/
def Ok {α : Type} (g : R α) (P : α → Prop) : Prop := ∃ a, g = .ok a ∧ P a
section
variable {α β : Type} {g : R α} {P Q : α → Prop}
@[simp] theorem Ok_ok {a : α} : Ok (.ok a) P = P a := propext ⟨fun ⟨b, e, h⟩ => by cases e; exact h, fun h => ⟨a, rfl, h⟩⟩
@[simp] theorem Ok_bad : Ok (.bad : R α) P = False := propext ⟨fun ⟨b, e, h⟩ => (nomatch e), False.elim⟩
@[simp] theorem Ok_exc {x : Xn} : Ok (.exc x : R α) P = False := propext ⟨fun ⟨b, e, h⟩ => (nomatch e), False.elim⟩
@[simp] theorem Ok_bind {k : α → R β} {P : β → Prop} : Ok (g.bind k) P = Ok g fun a => Ok (k a) P := by cases g <;> simp
@[simp] theorem Ok_ofO {o : Option α} : Ok (R.ofO o) P = ∃ a, o = some a ∧ P a := by cases o <;> simp
@[simp] theorem Ok_ite {c : Prop} [Decidable c] {a b : R α} : Ok (if c then a else b) P = if c then Ok a P else Ok b P := by split <;> rfl
theorem Ok.mono (h : Ok g P) (k : ∀ a, P a → Q a) : Ok g Q := let ⟨a, e, p⟩ := h; ⟨a, e, k a p⟩
theorem Ok.of {a : α} (e : g = .ok a) (h : P a) : Ok g P := ⟨a, e, h⟩
theorem Ok.eq {a : α} (h : Ok g fun x => x = a) : g = .ok a := by obtain ⟨x, e, rfl⟩ := h; exact e
@[simp] theorem nox_exc {x : Xn} : (R.exc x : R α).nox = .bad := rfl
@[simp] theorem Ok_nox : Ok g.nox P = Ok g P := by cases g <;> simp
end
/-! ## comprehensions and loops -/
section
variable {m : Type → Type} [Mo m] {τ μ : Type} {x : D} {xs : List D}
@[simp] theorem mapM'_nil {f : D → m D} : mapM' f [] = pur [] := rfl
@[simp] theorem mapM'_cons {f : D → m D} : mapM' f (x :: xs) = Mo.bind (f x) fun y => Mo.bind (mapM' f xs) fun ys => pur (y :: ys) := rfl
@[simp] theorem optM_nil {f : D → m (Option D)} : optM f [] = pur [] := rfl
@[simp] theorem optM_cons {f : D → m (Option D)} : optM f (x :: xs) = Mo.bind (f x) fun y => Mo.bind (optM f xs) fun ys => pur (y.toList ++ ys) := rfl
@[simp] theorem flatM'_nil {f : D → m (List D)} : flatM' f [] = pur [] := rfl
@[simp] theorem flatM'_cons {f : D → m (List D)} : flatM' f (x :: xs) = Mo.bind (f x) fun y => Mo.bind (flatM' f xs) fun ys => pur (y ++ ys) := rfl
@[simp] theorem foldM'_nil {f : D → τ → m τ} {t : τ} : foldM' f [] t = pur t := rfl
@[simp] theorem foldM'_cons {f : D → τ → m τ} {t : τ} : foldM' f (x :: xs) t = Mo.bind (f x t) fun t => foldM' f xs t := rfl
@[simp] theorem forM'_nil {f : D → τ → m (Fb τ μ)} {t : τ} : forM' f [] t = pur (.go t) := rfl
theorem forM'_cons {f : D → τ → m (Fb τ μ)} {t : τ} : forM' f (x :: xs) t = Mo.bind (f x t) fun r => match r with
  | .nx t => forM' f xs t
  | .bk t => pur (.go t)
  | .ret v => pur (.ret v) := rfl
end
section
variable {α τ μ : Type} {F G : α → D} {L : List α}
theorem mapM'_ok {f : D → R D} (h : ∀ x ∈ L, f (F x) = .ok (G x)) : mapM' f (L.map F) = .ok (L.map G) := by
  induction L with
  | nil => rfl
  | cons x L ih =>
    rw [List.map_cons, mapM'_cons, bindR, h x (by simp), R.bind_ok, bindR, ih fun y hy => h y (by simp [hy])]
    rfl
theorem mapM'_lst {f : D → R D} {g : D → D} {xs : List D} (h : ∀ x ∈ xs, f x = .ok (g x)) : mapM' f xs = .ok (xs.map g) := by
  have := mapM'_ok (L := xs) (F := id) (G := g) (f := f) h
  rwa [List.map_id] at this
theorem optM_ok {f : D → R (Option D)} {p : α → Bool} (h : ∀ x ∈ L, f (F x) = .ok (if p x = true then some (G x) else none)) : optM f (L.map F) = .ok ((L.filter p).map G) := by
  induction L with
  | nil => rfl
  | cons x L ih =>
    rw [List.map_cons, optM_cons, bindR, h x (by simp), R.bind_ok, bindR, ih fun y hy => h y (by simp [hy])]
    cases e : p x <;> simp [List.filter_cons, e]
theorem optM_lst {f : D → R (Option D)} {p : D → Bool} {g : D → D} {xs : List D} (h : ∀ x ∈ xs, f x = .ok (if p x = true then some (g x) else none)) : optM f xs = .ok ((xs.filter p).map g) := by
  have := optM_ok (L := xs) (F := id) (G := g) (f := f) (p := p) h
  rwa [List.map_id] at this
theorem flatM'_ok {f : D → R (List D)} {G : α → List D} (h : ∀ x ∈ L, f (F x) = .ok (G x)) : flatM' f (L.map F) = .ok (L.flatMap G) := by
  induction L with
  | nil => rfl
  | cons x L ih =>
    rw [List.map_cons, flatM'_cons, bindR, h x (by simp), R.bind_ok, bindR, ih fun y hy => h y (by simp [hy])]
    rfl
/-- a comprehension: each item has Φ -/
theorem mapM'_all {f : D → R D} {Φ : D → Prop} {xs : List D} (h : ∀ x ∈ xs, Ok (f x) Φ) : Ok (mapM' f xs) fun ys => ys.length = xs.length ∧ ∀ y ∈ ys, Φ y := by
  induction xs with
  | nil => simp
  | cons x xs ih =>
    rw [mapM'_cons, bindR, Ok_bind]
    refine (h x (by simp)).mono fun y hy => ?_
    rw [bindR, Ok_bind]
    refine (ih fun z hz => h z (by simp [hz])).mono fun ys ⟨hl, ha⟩ => ?_
    simp [hl, hy]
    exact ha
/-- a fold by an invariant that counts -/
theorem foldM'_inv {f : D → τ → R τ} (I : Nat → τ → Prop) {xs : List D} {t0 : τ} (h0 : I 0 t0) (hs : ∀ (i : Nat) (h : i < xs.length) t, I i t → Ok (f xs[i] t) (I (i + 1))) : Ok (foldM' f xs t0) (I xs.length) := by
  have go : ∀ (n k : Nat) (t : τ), k + n = xs.length → I k t → Ok (foldM' f (xs.drop k) t) (I xs.length) := by
    intro n
    induction n with
    | zero =>
      intro k t e h
      have e2 : k = xs.length := by omega
      subst e2
      simpa using h
    | succ n ih =>
      intro k t e h
      have hk : k < xs.length := by omega
      rw [List.drop_eq_getElem_cons hk, foldM'_cons, bindR, Ok_bind]
      exact (hs k hk t h).mono fun t' ht' => ih (k + 1) t' (by omega) ht'
  have := go xs.length 0 t0 (by omega) h0
  simpa using this
/-- a fold that is a fold -/
theorem foldM'_ok {σ : Type} {f : D → τ → R τ} {g : σ → τ} {step : σ → α → σ} (h : ∀ s, ∀ x ∈ L, f (F x) (g s) = .ok (g (step s x))) (s0 : σ) : foldM' f (L.map F) (g s0) = .ok (g (L.foldl step s0)) := by
  induction L generalizing s0 with
  | nil => rfl
  | cons x L ih =>
    rw [List.map_cons, foldM'_cons, bindR, h s0 x (by simp), R.bind_ok, ih fun s y hy => h s y (by simp [hy])]
    rfl
/-- a loop that may end early, by an invariant that counts -/
theorem forM'_inv {f : D → τ → R (Fb τ μ)} (I : Nat → τ → Prop) (P : Lr τ μ → Prop) {xs : List D} {t0 : τ} (h0 : I 0 t0) (hend : ∀ t, I xs.length t → P (.go t)) (hs : ∀ (i : Nat) (h : i < xs.length) t, I i t → Ok (f xs[i] t) fun r => match r with
    | .nx t => I (i + 1) t
    | .bk t => P (.go t)
    | .ret v => P (.ret v)) : Ok (forM' f xs t0) P := by
  have go : ∀ (n k : Nat) (t : τ), k + n = xs.length → I k t → Ok (forM' f (xs.drop k) t) P := by
    intro n
    induction n with
    | zero =>
      intro k t e h
      have e2 : k = xs.length := by omega
      subst e2
      simpa using hend t h
    | succ n ih =>
      intro k t e h
      have hk : k < xs.length := by omega
      rw [List.drop_eq_getElem_cons hk, forM'_cons, bindR, Ok_bind]
      refine (hs k hk t h).mono fun r hr => ?_
      cases r with
      | nx t' => exact ih (k + 1) t' (by omega) hr
      | bk t' => simpa using hr
      | ret v => simpa using hr
  have := go xs.length 0 t0 (by omega) h0
  simpa using this
theorem whileR_of {g : τ → R Bool} {b : τ → R (Fb τ μ)} {t : τ} {r : Lr τ μ} {n : Nat} (h : whileN g b n t = .ok r) : whileR g b t = .ok r := by
  have mono : ∀ (n k : Nat) (t : τ), whileN g b n t ≠ .bad → whileN g b (n + k) t = whileN g b n t := by
    intro n
    induction n with
    | zero => intro k t h; exact absurd rfl h
    | succ n ih =>
      intro k t h
      have e : n + 1 + k = (n + k) + 1 := by omega
      rw [e]
      unfold whileN at h ⊢
      cases hg : g t with
      | ok c =>
        rw [hg] at h
        simp only [R.bind_ok] at h ⊢
        cases c with
        | false => rfl
        | true =>
          simp only [if_true] at h ⊢
          cases hb : b t with
          | ok x =>
            rw [hb] at h
            cases x with
            | nx t' => exact ih k t' h
            | bk t' => rfl
            | ret v => rfl
          | exc x => rfl
          | bad => rfl
      | exc x => rfl
      | bad => rfl
  unfold whileR
  have ex : ∃ n, whileN g b n t ≠ .bad := ⟨n, by rw [h]; exact fun z => nomatch z⟩
  rw [dif_pos ex]
  have hc := ex.choose_spec
  have e1 := mono ex.choose n t hc
  have e2 := mono n ex.choose t (by rw [h]; exact fun z => nomatch z)
  rw [← e1, Nat.add_comm, e2, h]
/-- a while by an invariant and a measure -/
theorem whileR_inv {g : τ → R Bool} {b : τ → R (Fb τ μ)} (I : Nat → τ → Prop) (P : Lr τ μ → Prop) (hs : ∀ k t, I k t → Ok (g t) fun c => if c = true then Ok (b t) fun r => (match r with
    | .nx t' => ∃ k', k' < k ∧ I k' t'
    | .bk t' => P (.go t')
    | .ret v => P (.ret v)) else P (.go t)) {k : Nat} {t : τ} (h0 : I k t) : Ok (whileR g b t) P := by
  have go : ∀ (n k : Nat), k < n → ∀ t, I k t → Ok (whileN g b n t) P := by
    intro n
    induction n with
    | zero => intro k h; exact absurd h (Nat.not_lt_zero _)
    | succ n ih =>
      intro k hk t h
      unfold whileN
      rw [Ok_bind]
      refine (hs k t h).mono fun c hc => ?_
      cases c with
      | false => simpa using hc
      | true =>
        simp only [if_true] at hc ⊢
        rw [Ok_bind]
        refine hc.mono fun r hr => ?_
        cases r with
        | nx t' => obtain ⟨k', hk', h'⟩ := hr; exact ih k' (by omega) t' h'
        | bk t' => simpa using hr
        | ret v => simpa using hr
  obtain ⟨r, e, p⟩ := go (k + 1) k (Nat.lt_succ_self k) t h0
  exact ⟨r, whileR_of e, p⟩
end
end FW

set_option Elab.async false
set_option linter.all false
set_option maxRecDepth 100000
set_option maxHeartbeats 1000001
namespace FW
open PySem PySem.Spec
open L2 (atI)
variable {a b : Int} {p q : Rat} {d : D} {m n k l : Nat} {α : Type}
theorem gcd_le_r {a b : Int} (h : b ≠ 0) : Nat.gcd a.natAbs b.natAbs ≤ b.natAbs := Nat.gcd_le_right _ (Int.natAbs_pos.mpr h)
/-- how great the parts of a quotient may be -/
abbrev lim : Nat := 13400
theorem big_le {i : Int} {n : Nat} (h : i.natAbs < 2 ^ n) (hn : n ≤ lim) : big i < 13500 := by
  cases n with
  | zero =>
    have : i.natAbs = 0 := by simpa using h
    unfold big; rw [this]; decide
  | succ n => exact Nat.lt_of_lt_of_le (big_lt h (Nat.succ_pos n)) (Nat.le_trans hn (by decide))
theorem natAbs_mul_lt {a b : Int} {m n : Nat} (h : a.natAbs < 2 ^ m) (k : b.natAbs < 2 ^ n) : (a * b).natAbs < 2 ^ (m + n) := by
  rw [Int.natAbs_mul]; exact mul_lt_pow h k
theorem big_any {i : Int} {n : Nat} (h : i.natAbs < 2 ^ n) : big i ≤ n := by
  cases n with
  | zero =>
    have : i.natAbs = 0 := by simpa using h
    unfold big; rw [this]; decide
  | succ n => exact Nat.le_of_lt (big_lt h (Nat.succ_pos n))
theorem mul_fine {a b : Int} {m n : Nat} (h : a.natAbs < 2 ^ m) (k : b.natAbs < 2 ^ n) (hl : m + n ≤ lim) : big a + big b < 100000000 := by
  have h1 := big_any h
  have h2 := big_any k
  have : lim = 13400 := rfl
  omega
theorem add_mul_lt {a b c d : Int} {m n : Nat} (h1 : a.natAbs < 2 ^ m) (h2 : b.natAbs < 2 ^ n) (h3 : c.natAbs < 2 ^ n) (h4 : d.natAbs < 2 ^ m) : (a * b + c * d).natAbs < 2 ^ (m + n + 1) := by
  have e1 := natAbs_mul_lt h1 h2
  have e2 := natAbs_mul_lt h3 h4
  rw [Nat.add_comm n m] at e2
  rw [Nat.pow_succ]
  have := Int.natAbs_add_le (a * b) (c * d)
  omega
theorem sub_mul_lt {a b c d : Int} {m n : Nat} (h1 : a.natAbs < 2 ^ m) (h2 : b.natAbs < 2 ^ n) (h3 : c.natAbs < 2 ^ n) (h4 : d.natAbs < 2 ^ m) : (a * b - c * d).natAbs < 2 ^ (m + n + 1) := by
  have e1 := natAbs_mul_lt h1 h2
  have e2 := natAbs_mul_lt h3 h4
  rw [Nat.add_comm n m] at e2
  rw [Nat.pow_succ]
  have := Int.natAbs_sub_le (a * b) (c * d)
  omega
theorem lt_up {a m n : Nat} (h : a < 2 ^ m) (l : m ≤ n) : a < 2 ^ n := Nat.lt_of_lt_of_le h (Nat.pow_le_pow_right (by decide) l)
theorem Sz.dn {q : Rat} (h : Sz k q) : (q.den : Int).natAbs < 2 ^ k := h.2
theorem Sz.nm {q : Rat} (h : Sz k q) : q.num.natAbs < 2 ^ k := h.1
theorem rq_eq (q : Rat) : rq q = .tuple [.int q.num, .int q.den] := rfl
theorem red (q : Rat) : Nat.gcd q.num.natAbs (q.den : Int).natAbs = 1 := q.reduced
theorem sum_foldl (xs : List Rat) (s : Rat) : xs.foldl (fun s x => s + x) s = s + xs.sum := by
  induction xs generalizing s with
  | nil => simp [Rat.add_zero]
  | cons x xs ih => rw [List.foldl_cons, ih, List.sum_cons]; grind
/-- all parts are below 2 ^ k -/
def SzL (k : Nat) (v : List Rat) : Prop := ∀ x ∈ v, Sz k x
theorem SzL.mono {v : List Rat} (h : SzL m v) (l : m ≤ n) : SzL n v := fun x hx => (h x hx).mono l
theorem SzL.tail {x : Rat} {v : List Rat} (h : SzL m (x :: v)) : SzL m v := fun y hy => h y (List.mem_cons_of_mem _ hy)
/-- how great sums of n such grow -/
abbrev sb (n k : Nat) : Nat := n * (k + 1) + 1
theorem sz_sum : ∀ {v : List Rat}, SzL k v → Sz (sb v.length k) v.sum
  | [], _ => by simpa [sb] using sz_zero
  | x :: v, h => by
    have h1 := sz_sum (v := v) h.tail
    have h2 := h x (by simp)
    rw [List.sum_cons]
    refine (h2.add h1).mono ?_
    unfold sb
    rw [List.length_cons, Nat.succ_mul]; omega
def dotL (u v : List Rat) : Rat := (List.zipWith (· * ·) u v).sum
theorem zipD_row {u v : List Rat} : zipD (u.map rq) (v.map rq) = (u.zip v).map fun p => .tuple [rq p.1, rq p.2] := by
  unfold zipD
  rw [List.zipWith_map, List.zip, List.map_zipWith]
theorem szL_zip {u v : List Rat} (hu : SzL k u) (hv : SzL l v) : SzL (k + l) (List.zipWith (· * ·) u v) := by
  induction u generalizing v with
  | nil => intro x hx; simp at hx
  | cons a u ih =>
    cases v with
    | nil => intro x hx; simp at hx
    | cons b v =>
      intro x hx
      rw [List.zipWith_cons_cons] at hx
      rcases List.mem_cons.mp hx with rfl | h
      · exact (hu a (by simp)).mul (hv b (by simp))
      · exact ih hu.tail hv.tail x h
end FW

set_option Elab.async false
set_option linter.all false
set_option maxRecDepth 100000
set_option maxHeartbeats 4000001
namespace LW
open PySem PySem.Spec PyProof.Rows L2 FW

def topS (i : Nat) : Stmt := PySem.Challenge.pw_everyface_k22_rooms_of_anything.main.body.getD i (.Pass ⟨0, 0, 0, 0⟩)
abbrev s_is_whole : Stmt := topS 6
abbrev s_is_between : Stmt := topS 8
abbrev s_are_wholes : Stmt := topS 7
abbrev s_divisor_of : Stmt := topS 9
abbrev s_is_reduced : Stmt := topS 10
abbrev s_is_ratio : Stmt := topS 13
abbrev s_are_ratios : Stmt := topS 19
abbrev s_is_roomed : Stmt := topS 27
abbrev s_is_room : Stmt := topS 31
abbrev s_check_row_of : Stmt := topS 20
abbrev s_is_lower : Stmt := topS 17
abbrev s_ratio_with : Stmt := topS 14
abbrev s_ratio_product : Stmt := topS 16
abbrev s_ratio_sum : Stmt := topS 15
abbrev s_total_of : Stmt := topS 22
abbrev s_dot : Stmt := topS 23
abbrev s_is_held : Stmt := topS 28
abbrev s_check_room : Stmt := topS 30
abbrev s_is_in : Stmt := topS 32
abbrev s__law_deck : Stmt := topS 34
abbrev s__law_roll : Stmt := topS 35
abbrev s__law_pick : Stmt := topS 36
abbrev s__law_odd : Stmt := topS 47
abbrev s__law_gcd : Stmt := topS 38
abbrev s__law_frac : Stmt := topS 39
abbrev s__law_spot : Stmt := topS 50
abbrev s__law_wholes : Stmt := topS 37
abbrev s__law_plus : Stmt := topS 40
abbrev s__law_times : Stmt := topS 41
abbrev s__law_dot : Stmt := topS 43
abbrev s__law_hall : Stmt := topS 51
abbrev s__law_under : Stmt := topS 42
abbrev s__law_inside : Stmt := topS 52
abbrev s__law_whole : Stmt := topS 44
abbrev s__law_is_frac : Stmt := topS 45
abbrev s__law_is_line : Stmt := topS 46
abbrev s__law_is_hall : Stmt := topS 53
abbrev s__law_no_frac : Stmt := topS 48
abbrev s__law_put : Stmt := topS 49
abbrev s__law_bent_hall : Stmt := topS 54
abbrev s__law_moved : Stmt := topS 55
abbrev s_law : Stmt := topS 56
noncomputable def d_is_whole : DS := mkDef 1 1 mF
  ((sCons (sRet (sAndV (sIsi "int" (sVar 0)) (sNotV (sIsi "bool" (sVar 0)))))
  sNil))
noncomputable def d_is_between : DS := mkDef 3 3 mF
  ((sCons (sRet (sAndV (sCallW d_is_whole (wCons (sFz (sVar 0)) wNil)) (sChain leB leB (sVar 1) (sVar 0) (sVar 2))))
  sNil))
noncomputable def d_are_wholes : DS := mkDef 3 2 mF
  ((sCons (sRet (sAndV (sIsi "tuple" (sVar 0)) (sAndV (sBin pEq (sLenAt 0) (sVar 1)) (sCall pAll (aCons (sComp [2] (iSeq (sVar 0)) (gN 2) tYesB (sFz (sCallW d_is_whole (wCons (sFz (sVar 2)) wNil)))) aNil)))))
  sNil))
noncomputable def d_divisor_of : DS := mkDef 3 1 mF
  ((sCons (sSet 1 (sFz (sK (.int 0))))
  (sCons (sFor (iSeq (sVar 0)) (gN 2) (sCons (sSet 1 (sFz (sCall pGcd (aCons (sVar 1) (aCons (sVar 2) aNil)))))
  sNil))
  (sCons (sRet (sMove 1))
  sNil))))
noncomputable def d_is_reduced : DS := mkDef 1 1 mF
  ((sCons (sRet (sBin pEq (sCallW d_divisor_of (wCons (sFz (sVar 0)) wNil)) (sK (.int 1))))
  sNil))
noncomputable def d_is_ratio : DS := mkDef 1 1 mF
  ((sCons (sRet (sAndV (sCallW d_are_wholes (wCons (sFz (sVar 0)) (wCons (sFz (sK (.int 2))) wNil))) (sAndV (sBin pGt (sAt 0 (sK (.int 1))) (sK (.int 0))) (sCallW d_is_reduced (wCons (sFz (sVar 0)) wNil)))))
  sNil))
noncomputable def d_are_ratios : DS := mkDef 3 2 mF
  ((sCons (sRet (sAndV (sIsi "tuple" (sVar 0)) (sAndV (sBin pEq (sLenAt 0) (sVar 1)) (sCall pAll (aCons (sComp [2] (iSeq (sVar 0)) (gN 2) tYesB (sFz (sCallW d_is_ratio (wCons (sFz (sVar 2)) wNil)))) aNil)))))
  sNil))
noncomputable def d_is_roomed : DS := mkDef 2 1 mF
  ((sCons (sIte (tOrB (tNotB (sT (sIsi "tuple" (sVar 0)))) (tOrB (sT (sBin pNe (sLenAt 0) (sK (.int 3)))) (tNotB (sT (sCallW d_is_between (wCons (sFz (sAt 0 (sK (.int 0)))) (wCons (sFz (sK (.int 1))) (wCons (sFz (sK (.int 3))) wNil)))))))) (sCons (sRet (sK (.bool false)))
  sNil) sNil)
  (sCons (sIte (tOrB (tNotB (sT (sIsi "tuple" (sAt 0 (sK (.int 1)))))) (sT (sBin pGt (sCall pLen (aCons (sAt 0 (sK (.int 1))) aNil)) (sK (.int 6))))) (sCons (sRet (sK (.bool false)))
  sNil) sNil)
  (sCons (sRet (sAndV (sCall pAll (aCons (sComp [1] (iSeq (sAt 0 (sK (.int 1)))) (gN 1) tYesB (sFz (sCallW d_are_ratios (wCons (sFz (sVar 1)) (wCons (sFz (sAt 0 (sK (.int 0)))) wNil))))) aNil)) (sCallW d_are_ratios (wCons (sFz (sAt 0 (sK (.int 2)))) (wCons (sFz (sCall pLen (aCons (sAt 0 (sK (.int 1))) aNil))) wNil)))))
  sNil))))
noncomputable def d_is_room : DS := mkDef 1 1 mF
  ((sCons (sRet (sCallW d_is_roomed (wCons (sFz (sVar 0)) wNil)))
  sNil))
noncomputable def d_check_row_of : DS := mkDef 4 2 mF
  ((sCons (sIte (tOrB (tNotB (sT (sIsi "tuple" (sVar 1)))) (sT (sBin pNe (sLenAt 1) (sVar 0)))) (sCons sBad
  sNil) sNil)
  (sCons (sFor (iEnum1 (aCons (sVar 1) aNil)) (gT 2 (gsCons (gN 2) (gsCons (gN 3) gsNil))) (sCons (sIte (tNotB (sT (sCallW d_is_ratio (wCons (sFz (sVar 3)) wNil)))) (sCons sBad
  sNil) sNil)
  sNil))
  sNil)))
noncomputable def d_is_lower : DS := mkDef 2 2 mF
  ((sCons (sRet (sBin pLt (sBin pMul (sAt 0 (sK (.int 0))) (sAt 1 (sK (.int 1)))) (sBin pMul (sAt 1 (sK (.int 0))) (sAt 0 (sK (.int 1))))))
  sNil))
noncomputable def d_ratio_with : DS := mkDef 3 2 mF
  ((sCons (sSet 2 (sFz (sCallW d_divisor_of (wCons (sFz (sTup (aCons (sVar 0) (aCons (sVar 1) aNil)))) wNil))))
  (sCons (sSet 2 (sFz (sIf (sT (sBin pGt (sVar 1) (sK (.int 0)))) (sVar 2) (sNeg (sVar 2)))))
  (sCons (sRet (sTup (aCons (sBin pDiv (sVar 0) (sVar 2)) (aCons (sBin pDiv (sVar 1) (sVar 2)) aNil))))
  sNil))))
noncomputable def d_ratio_product : DS := mkDef 2 2 mF
  ((sCons (sRet (sCallW d_ratio_with (wCons (sFz (sBin pMul (sAt 0 (sK (.int 0))) (sAt 1 (sK (.int 0))))) (wCons (sFz (sBin pMul (sAt 0 (sK (.int 1))) (sAt 1 (sK (.int 1))))) wNil))))
  sNil))
noncomputable def d_ratio_sum : DS := mkDef 2 2 mF
  ((sCons (sRet (sCallW d_ratio_with (wCons (sFz (sBin pAdd (sBin pMul (sAt 0 (sK (.int 0))) (sAt 1 (sK (.int 1)))) (sBin pMul (sAt 1 (sK (.int 0))) (sAt 0 (sK (.int 1)))))) (wCons (sFz (sBin pMul (sAt 0 (sK (.int 1))) (sAt 1 (sK (.int 1))))) wNil))))
  sNil))
noncomputable def d_total_of : DS := mkDef 3 1 mF
  ((sCons (sSet 1 (sFz (sK (.tuple [(.int 0), (.int 1)]))))
  (sCons (sFor (iSeq (sVar 0)) (gN 2) (sCons (sSet 1 (sFz (sCallW d_ratio_sum (wCons (sFz (sVar 1)) (wCons (sFz (sVar 2)) wNil)))))
  sNil))
  (sCons (sRet (sMove 1))
  sNil))))
noncomputable def d_dot : DS := mkDef 4 2 mF
  ((sCons (sRet (sCallW d_total_of (wCons (sFz (sComp [2, 3] (iZip2 (aCons (sVar 0) (aCons (sVar 1) aNil))) (gT 2 (gsCons (gN 2) (gsCons (gN 3) gsNil))) tYesB (sFz (sCallW d_ratio_product (wCons (sFz (sVar 2)) (wCons (sFz (sVar 3)) wNil)))))) wNil)))
  sNil))
noncomputable def d_is_held : DS := mkDef 4 2 mF
  ((sCons (sRet (sNotV (sCall pAny (aCons (sComp [2, 3] (iZip2 (aCons (sAt 0 (sK (.int 1))) (aCons (sAt 0 (sK (.int 2))) aNil))) (gT 2 (gsCons (gN 2) (gsCons (gN 3) gsNil))) tYesB (sFz (sCallW d_is_lower (wCons (sFz (sVar 3)) (wCons (sFz (sCallW d_dot (wCons (sFz (sVar 2)) (wCons (sFz (sVar 1)) wNil)))) wNil))))) aNil))))
  sNil))
noncomputable def d_check_room : DS := mkDef 1 1 mF
  ((sCons (sIte (tNotB (sT (sCallW d_is_roomed (wCons (sFz (sVar 0)) wNil)))) (sCons sBad
  sNil) sNil)
  sNil))
noncomputable def d_is_in : DS := mkDef 2 2 mF
  ((sCons (sDrop (sFz (sCallW d_check_room (wCons (sFz (sVar 0)) wNil))))
  (sCons (sDrop (sFz (sCallW d_check_row_of (wCons (sFz (sAt 0 (sK (.int 0)))) (wCons (sFz (sVar 1)) wNil)))))
  (sCons (sRet (sCallW d_is_held (wCons (sFz (sVar 0)) (wCons (sFz (sVar 1)) wNil))))
  sNil))))
noncomputable def d__law_deck : DS := mkDef 6 3 m0
  ((sCons (sSet 3 (sFz (sBin pAdd (sVar 2) (sBin pMul (sK (.int 104651)) (sVar 1)))))
  (sCons (sFor (iSeq (sCutS 0 12)) (gN 4) (sCons (sSet 3 (sFz (sBin pMod (sCall pInt (aCons (sBin pAdd (sBin pAdd (sBin pMul (sVar 3) (sK (.int 48073))) (sBin pMul (sBin pMod (sCall pInt (aCons (sVar 4) aNil)) (sK (.int 1000000093))) (sK (.int 3)))) (sK (.int 77))) aNil)) (sK (.int 2147483629)))))
  sNil))
  (sCons (sSet 5 (sFz (sIf (sT (sBin pLt (sVar 1) (sLenAt 0))) (sCall pAbs (aCons (sCall pInt (aCons (sAt 0 (sVar 1)) aNil)) aNil)) (sK (.int 0)))))
  (sCons (sRet (sLst (aCons (sIf (sT (sBin pGe (sVar 5) (sBin pPow (sK (.int 10)) (sK (.int 18))))) (sVar 5) (sK (.int 0))) (aCons (sVar 3) (aCons (sVar 2) aNil)))))
  sNil)))))
noncomputable def d__law_roll : DS := mkDef 3 2 m0
  ((sCons (sIte (sT (sBin pGt (sAt 0 (sK (.int 0))) (sK (.int 0)))) (sCons (sSet 2 (sFz (sBin pMod (sCall pInt (aCons (sAt 0 (sK (.int 0))) aNil)) (sVar 1))))
  (sCons (sAsgW (wAt 0 (fun _ => some 0)) (sFz (sBin pDiv (sAt 0 (sK (.int 0))) (sVar 1))))
  (sCons (sRet (sMove 2))
  sNil))) sNil)
  (sCons (sAsgW (wAt 0 (fun _ => some 2)) (sFz (sBin pMod (sCall pInt (aCons (sBin pAdd (sBin pMul (sAt 0 (sK (.int 2))) (sK (.int 5))) (sK (.int 4021))) aNil)) (sK (.int 65536)))))
  (sCons (sAsgW (wAt 0 (fun _ => some 1)) (sFz (sBin pMod (sCall pInt (aCons (sBin pAdd (sBin pAdd (sBin pMul (sAt 0 (sK (.int 1))) (sK (.int 39373))) (sAt 0 (sK (.int 2)))) (sK (.int 1))) aNil)) (sK (.int 2147483629)))))
  (sCons (sRet (sBin pMod (sCall pInt (aCons (sBin pDiv (sAt 0 (sK (.int 1))) (sK (.int 1013))) aNil)) (sVar 1)))
  sNil)))))
noncomputable def d__law_pick : DS := mkDef 2 2 m0
  ((sCons (sRet (sAt 1 (sCallA d__law_roll 0 (wCons (sFz (sLenAt 1)) wNil))))
  sNil))
noncomputable def d__law_odd : DS := mkDef 2 1 m0
  ((sCons (sSet 1 (sFz (sLst (aCons (sK .none) (aCons (sK (.bool true)) (aCons (sK (.bool false)) (aCons (sK (.int 0)) (aCons (sK (.int 1)) (aCons (sNeg (sK (.int 3))) (aCons (sK (.int 7)) (aCons (sBin pPow (sK (.int 10)) (sK (.int 30))) (aCons (sK (.str "")) (aCons (sK (.str "x")) (aCons (sK (.str "1")) (aCons (sTup aNil) (aCons (sTup (aCons (sK (.int 1)) aNil)) (aCons (sTup (aCons (sK (.int 1)) (aCons (sK (.int 1)) aNil))) (aCons (sTup (aCons (sK (.int 0)) (aCons (sK (.int 1)) aNil))) (aCons (sTup (aCons (sK (.int 2)) (aCons (sK (.int 4)) aNil))) (aCons (sTup (aCons (sTup (aCons (sK (.int 1)) (aCons (sK (.int 1)) aNil))) aNil)) aNil))))))))))))))))))))
  (sCons (sSet 1 (sFz (sBin pAdd (sVar 1) (sLst (aCons (sTup (aCons (sTup (aCons (sTup (aCons (sK (.int 1)) (aCons (sK (.int 1)) aNil))) aNil)) aNil)) (aCons (sTup (aCons (sTup (aCons (sTup (aCons (sK (.bool true)) (aCons (sK (.int 1)) aNil))) aNil)) aNil)) (aCons (sTup (aCons (sTup (aCons (sTup (aCons (sK (.int 1)) (aCons (sK (.int 0)) aNil))) aNil)) aNil)) (aCons (sTup (aCons (sTup (aCons (sTup (aCons (sK (.int 2)) (aCons (sK (.int 4)) aNil))) aNil)) aNil)) (aCons (sLst aNil) (aCons (sLst (aCons (sK (.int 1)) (aCons (sK (.int 1)) aNil))) (aCons (sLst (aCons (sTup (aCons (sK (.int 1)) (aCons (sK (.int 1)) aNil))) aNil)) (aCons (sK (.dict [])) (aCons (sK (.dict [(.str "x", .int 1)])) aNil)))))))))))))
  (sCons (sSet 1 (sFz (sBin pAdd (sVar 1) (sLst (aCons (sTup (aCons (sK .none) aNil)) (aCons (sTup (aCons (sTup aNil) aNil)) (aCons (sTup (aCons (sK (.str "1")) (aCons (sK (.int 1)) aNil))) (aCons (sTup (aCons (sTup (aCons (sK (.int 0)) (aCons (sK (.int 1)) aNil))) (aCons (sTup (aCons (sK (.int 0)) (aCons (sK (.int 1)) aNil))) aNil))) (aCons (sTup (aCons (sK (.int 1)) (aCons (sTup aNil) (aCons (sTup aNil) aNil)))) (aCons (sTup (aCons (sK (.int 2)) (aCons (sTup aNil) (aCons (sTup aNil) aNil)))) (aCons (sTup (aCons (sK (.bool true)) (aCons (sTup aNil) (aCons (sTup aNil) aNil)))) (aCons (sTup (aCons (sK (.int 0)) (aCons (sTup aNil) (aCons (sTup aNil) aNil)))) aNil))))))))))))
  (sCons (sRet (sCallA d__law_pick 0 (wCons (sFz (sVar 1)) wNil)))
  sNil)))))
noncomputable def d__law_gcd : DS := mkDef 2 2 mF
  ((sCons (sWhile (sT (sBin pGt (sVar 1) (sK (.int 0)))) (sCons (sTupW 2 (wsCons (wN 0) (wsCons (wN 1) wsNil)) (wCons (sFz (sVar 1)) (wCons (sFz (sBin pMod (sCall pInt (aCons (sVar 0) aNil)) (sVar 1))) wNil)))
  sNil))
  (sCons (sRet (sMove 0))
  sNil)))
noncomputable def d__law_frac : DS := mkDef 4 2 mF
  ((sCons (sSet 2 (sFz (sIf (sT (sBin pLt (sVar 1) (sK (.int 0)))) (sNeg (sK (.int 1))) (sK (.int 1)))))
  (sCons (sSet 3 (sFz (sCallW d__law_gcd (wCons (sFz (sCall pAbs (aCons (sVar 1) aNil))) (wCons (sFz (sCall pAbs (aCons (sVar 0) aNil))) wNil)))))
  (sCons (sRet (sTup (aCons (sBin pDiv (sBin pMul (sVar 2) (sVar 0)) (sVar 3)) (aCons (sBin pDiv (sBin pMul (sVar 2) (sVar 1)) (sVar 3)) aNil))))
  sNil))))
noncomputable def d__law_spot : DS := mkDef 5 2 m0
  ((sCons (sTupW 2 (wsCons (wN 2) (wsCons (wN 3) wsNil)) (wCons (sFz (sBin pAdd (sK (.int 1)) (sBin pDiv (sCallA d__law_roll 0 (wCons (sFz (sK (.int 4))) wNil)) (sK (.int 3))))) (wCons (sLst aNil) wNil)))
  (sCons (sFor (iRange1 (aCons (sVar 1) aNil)) (gN 4) (sCons (sApp 3 (sFz (sCallW d__law_frac (wCons (sFz (sBin pSub (sCallA d__law_roll 0 (wCons (sFz (sK (.int 5))) wNil)) (sK (.int 2)))) (wCons (sFz (sVar 2)) wNil)))))
  sNil))
  (sCons (sRet (sCall pTuple (aCons (sVar 3) aNil)))
  sNil))))
noncomputable def d__law_wholes : DS := mkDef 6 4 m0
  ((sCons (sSet 4 (sLst aNil))
  (sCons (sFor (iRange1 (aCons (sVar 1) aNil)) (gN 5) (sCons (sApp 4 (sFz (sBin pAdd (sVar 2) (sCallA d__law_roll 0 (wCons (sFz (sVar 3)) wNil)))))
  sNil))
  (sCons (sRet (sMove 4))
  sNil))))
noncomputable def d__law_plus : DS := mkDef 2 2 mF
  ((sCons (sRet (sCallW d__law_frac (wCons (sFz (sBin pAdd (sBin pMul (sAt 0 (sK (.int 0))) (sAt 1 (sK (.int 1)))) (sBin pMul (sAt 1 (sK (.int 0))) (sAt 0 (sK (.int 1)))))) (wCons (sFz (sBin pMul (sAt 0 (sK (.int 1))) (sAt 1 (sK (.int 1))))) wNil))))
  sNil))
noncomputable def d__law_times : DS := mkDef 2 2 mF
  ((sCons (sRet (sCallW d__law_frac (wCons (sFz (sBin pMul (sAt 0 (sK (.int 0))) (sAt 1 (sK (.int 0))))) (wCons (sFz (sBin pMul (sAt 0 (sK (.int 1))) (sAt 1 (sK (.int 1))))) wNil))))
  sNil))
noncomputable def d__law_dot : DS := mkDef 5 2 mF
  ((sCons (sSet 2 (sFz (sTup (aCons (sK (.int 0)) (aCons (sK (.int 1)) aNil)))))
  (sCons (sFor (iZip2 (aCons (sVar 0) (aCons (sVar 1) aNil))) (gT 2 (gsCons (gN 3) (gsCons (gN 4) gsNil))) (sCons (sSet 2 (sFz (sCallW d__law_plus (wCons (sFz (sVar 2)) (wCons (sFz (sCallW d__law_times (wCons (sFz (sVar 3)) (wCons (sFz (sVar 4)) wNil)))) wNil)))))
  sNil))
  (sCons (sRet (sMove 2))
  sNil))))
noncomputable def d__law_hall : DS := mkDef 13 4 m0
  ((sCons (sTupW 4 (wsCons (wN 4) (wsCons (wN 5) (wsCons (wN 6) (wsCons (wN 7) wsNil)))) (wCons (sFz (sCallA d__law_roll 0 (wCons (sFz (sK (.int 4))) wNil))) (wCons (sFz (sCallA d__law_pick 0 (wCons (sFz (sLst (aCons (sK (.int 1)) (aCons (sK (.int 1)) (aCons (sK (.int 2)) aNil))))) wNil))) (wCons (sLst aNil) (wCons (sLst aNil) wNil)))))
  (sCons (sFor (iRange1 (aCons (sCallA d__law_roll 0 (wCons (sFz (sBin pAdd (sVar 2) (sK (.int 1)))) wNil)) aNil)) (gN 8) (sCons (sSet 9 (sFz (sCallA d__law_wholes 0 (wCons (sFz (sVar 1)) (wCons (sFz (sNeg (sK (.int 2)))) (wCons (sFz (sK (.int 5))) wNil))))))
  (sCons (sIte (sT (sBin pEq (sVar 4) (sK (.int 1)))) (sCons (sSet 9 (sFz (sComp [11] (iRange1 (aCons (sVar 1) aNil)) (gN 11) tYesB (sFz (sBin pMul (sBin pSub (sK (.int 1)) (sBin pMul (sBin pMod (sVar 8) (sK (.int 2))) (sK (.int 2)))) (sCall pInt (aCons (sBin pEq (sVar 11) (sBin pMod (sBin pDiv (sVar 8) (sK (.int 2))) (sVar 1))) aNil)))))))
  sNil) sNil)
  (sCons (sSet 10 (sFz (sCall pTuple (aCons (sComp [12] (iSeq (sVar 9)) (gN 12) tYesB (sFz (sCallW d__law_frac (wCons (sFz (sVar 12)) (wCons (sFz (sVar 5)) wNil))))) aNil))))
  (sCons (sIte (tAndB (sT (sBin pEq (sVar 4) (sK (.int 2)))) (sT (sBin pEq (sBin pMod (sVar 8) (sK (.int 2))) (sK (.int 1))))) (sCons (sSet 10 (sFz (sCall pTuple (aCons (sComp [12] (iSeq (sAt 6 (sNeg (sK (.int 1))))) (gN 12) tYesB (sFz (sTup (aCons (sNeg (sAt 12 (sK (.int 0)))) (aCons (sAt 12 (sK (.int 1))) aNil))))) aNil))))
  sNil) sNil)
  (sCons (sApp 6 (sFz (sVar 10)))
  (sCons (sApp 7 (sFz (sCallW d__law_plus (wCons (sFz (sCallW d__law_dot (wCons (sFz (sVar 10)) (wCons (sFz (sVar 3)) wNil)))) (wCons (sFz (sCallA d__law_pick 0 (wCons (sFz (sLst (aCons (sTup (aCons (sK (.int 0)) (aCons (sK (.int 1)) aNil))) (aCons (sTup (aCons (sK (.int 0)) (aCons (sK (.int 1)) aNil))) (aCons (sTup (aCons (sK (.int 1)) (aCons (sK (.int 1)) aNil))) (aCons (sTup (aCons (sK (.int 2)) (aCons (sK (.int 1)) aNil))) (aCons (sTup (aCons (sK (.int 1)) (aCons (sK (.int 2)) aNil))) (aCons (sTup (aCons (sK (.int 5)) (aCons (sK (.int 1)) aNil))) aNil)))))))) wNil))) wNil)))))
  sNil)))))))
  (sCons (sRet (sTup (aCons (sVar 1) (aCons (sCall pTuple (aCons (sVar 6) aNil)) (aCons (sCall pTuple (aCons (sVar 7) aNil)) aNil)))))
  sNil))))
noncomputable def d__law_under : DS := mkDef 2 2 mF
  ((sCons (sRet (sBin pLt (sBin pMul (sAt 0 (sK (.int 0))) (sAt 1 (sK (.int 1)))) (sBin pMul (sAt 1 (sK (.int 0))) (sAt 0 (sK (.int 1))))))
  sNil))
noncomputable def d__law_inside : DS := mkDef 3 2 mF
  ((sCons (sRet (sBin pEq (sComp [2] (iRange1 (aCons (sCall pLen (aCons (sAt 0 (sK (.int 1))) aNil)) aNil)) (gN 2) (sT (sCallW d__law_under (wCons (sFz (sBin pIx (sAt 0 (sK (.int 2))) (sVar 2))) (wCons (sFz (sCallW d__law_dot (wCons (sFz (sBin pIx (sAt 0 (sK (.int 1))) (sVar 2))) (wCons (sFz (sVar 1)) wNil)))) wNil)))) (sFz (sVar 2))) (sLst aNil)))
  sNil))
noncomputable def d__law_whole : DS := mkDef 1 1 mF
  ((sCons (sRet (sAndV (sIsi "int" (sVar 0)) (sNotV (sIsi "bool" (sVar 0)))))
  sNil))
noncomputable def d__law_is_frac : DS := mkDef 1 1 mF
  ((sCons (sIte (tOrB (tNotB (sT (sIsi "tuple" (sVar 0)))) (tOrB (sT (sBin pNe (sLenAt 0) (sK (.int 2)))) (tOrB (tNotB (sT (sCallW d__law_whole (wCons (sFz (sAt 0 (sK (.int 0)))) wNil)))) (tNotB (sT (sCallW d__law_whole (wCons (sFz (sAt 0 (sK (.int 1)))) wNil))))))) (sCons (sRet (sK (.bool false)))
  sNil) sNil)
  (sCons (sRet (sAndV (sBin pGt (sAt 0 (sK (.int 1))) (sK (.int 0))) (sBin pEq (sCallW d__law_gcd (wCons (sFz (sAt 0 (sK (.int 1)))) (wCons (sFz (sCall pAbs (aCons (sAt 0 (sK (.int 0))) aNil))) wNil))) (sK (.int 1)))))
  sNil)))
noncomputable def d__law_is_line : DS := mkDef 3 2 mF
  ((sCons (sIte (tOrB (tNotB (sT (sIsi "tuple" (sVar 0)))) (sT (sBin pNe (sLenAt 0) (sVar 1)))) (sCons (sRet (sK (.bool false)))
  sNil) sNil)
  (sCons (sRet (sBin pEq (sComp [2] (iSeq (sVar 0)) (gN 2) (tNotB (sT (sCallW d__law_is_frac (wCons (sFz (sVar 2)) wNil)))) (sFz (sVar 2))) (sLst aNil)))
  sNil)))
noncomputable def d__law_is_hall : DS := mkDef 5 1 mF
  ((sCons (sIte (tOrB (tNotB (sT (sIsi "tuple" (sVar 0)))) (tOrB (sT (sBin pNe (sLenAt 0) (sK (.int 3)))) (tOrB (tNotB (sT (sCallW d__law_whole (wCons (sFz (sAt 0 (sK (.int 0)))) wNil)))) (tNotB (sT (sChain leB leB (sK (.int 1)) (sAt 0 (sK (.int 0))) (sK (.int 3)))))))) (sCons (sRet (sK (.bool false)))
  sNil) sNil)
  (sCons (sAsgD (gT 3 (gsCons (gN 1) (gsCons (gN 2) (gsCons (gN 3) gsNil)))) (sVar 0))
  (sCons (sIte (tOrB (tNotB (sT (sIsi "tuple" (sVar 2)))) (tOrB (sT (sBin pGt (sLenAt 2) (sK (.int 6)))) (tNotB (sT (sCallW d__law_is_line (wCons (sFz (sVar 3)) (wCons (sFz (sLenAt 2)) wNil))))))) (sCons (sRet (sK (.bool false)))
  sNil) sNil)
  (sCons (sRet (sBin pEq (sComp [4] (iSeq (sVar 2)) (gN 4) (tNotB (sT (sCallW d__law_is_line (wCons (sFz (sVar 4)) (wCons (sFz (sVar 1)) wNil))))) (sFz (sVar 4))) (sLst aNil)))
  sNil)))))
noncomputable def d__law_no_frac : DS := mkDef 2 1 m0
  ((sCons (sSet 1 (sFz (sLst (aCons (sK (.int 1)) (aCons (sK (.int 0)) (aCons (sK .none) (aCons (sK (.str "1")) (aCons (sTup aNil) (aCons (sTup (aCons (sK (.int 1)) aNil)) (aCons (sTup (aCons (sK (.int 1)) (aCons (sK (.int 2)) (aCons (sK (.int 3)) aNil)))) (aCons (sTup (aCons (sK (.int 2)) (aCons (sK (.int 4)) aNil))) (aCons (sTup (aCons (sK (.int 0)) (aCons (sK (.int 2)) aNil))) (aCons (sTup (aCons (sK (.int 1)) (aCons (sK (.int 0)) aNil))) (aCons (sTup (aCons (sK (.int 0)) (aCons (sK (.int 0)) aNil))) (aCons (sTup (aCons (sK (.int 1)) (aCons (sNeg (sK (.int 1))) aNil))) (aCons (sTup (aCons (sNeg (sK (.int 2))) (aCons (sNeg (sK (.int 1))) aNil))) (aCons (sTup (aCons (sK (.bool true)) (aCons (sK (.int 1)) aNil))) aNil)))))))))))))))))
  (sCons (sSet 1 (sFz (sBin pAdd (sVar 1) (sLst (aCons (sTup (aCons (sK (.int 1)) (aCons (sK (.bool true)) aNil))) (aCons (sTup (aCons (sK (.int 1)) (aCons (sK .none) aNil))) (aCons (sTup (aCons (sK (.str "1")) (aCons (sK (.int 1)) aNil))) (aCons (sLst (aCons (sK (.int 1)) (aCons (sK (.int 1)) aNil))) (aCons (sTup (aCons (sTup (aCons (sK (.int 1)) (aCons (sK (.int 1)) aNil))) (aCons (sK (.int 1)) aNil))) (aCons (sTup (aCons (sBin pPow (sK (.int 10)) (sK (.int 20))) (aCons (sBin pPow (sK (.int 10)) (sK (.int 20))) aNil))) (aCons (sK (.bool true)) aNil)))))))))))
  (sCons (sRet (sCallA d__law_pick 0 (wCons (sFz (sVar 1)) wNil)))
  sNil))))
noncomputable def d__law_put : DS := mkDef 3 3 mF
  ((sCons (sRet (sBin pAdd (sBin pAdd (sCut (sVar 0) sPartN (sPart (sVar 1))) (sTup (aCons (sVar 2) aNil))) (sCut (sVar 0) (sPart (sBin pAdd (sVar 1) (sK (.int 1)))) sPartN)))
  sNil))
noncomputable def d__law_bent_hall : DS := mkDef 9 2 m0
  ((sCons (sAsgD (gT 3 (gsCons (gN 2) (gsCons (gN 3) (gsCons (gN 4) gsNil)))) (sVar 1))
  (sCons (sTupW 2 (wsCons (wN 5) (wsCons (wN 6) wsNil)) (wCons (sFz (sCallA d__law_roll 0 (wCons (sFz (sK (.int 9))) wNil))) (wCons (sFz (sBin pMul (sTup (aCons (sTup (aCons (sK (.int 1)) (aCons (sK (.int 1)) aNil))) aNil)) (sVar 2))) wNil)))
  (sCons (sIte (sT (sBin pEq (sVar 5) (sK (.int 0)))) (sCons (sRet (sTup (aCons (sCallA d__law_pick 0 (wCons (sFz (sLst (aCons (sK (.int 0)) (aCons (sK (.int 4)) (aCons (sNeg (sK (.int 1))) (aCons (sK (.bool true)) (aCons (sK .none) (aCons (sK (.str "1")) (aCons (sTup (aCons (sK (.int 1)) aNil)) (aCons (sBin pAdd (sVar 2) (sK (.int 1))) (aCons (sVar 2) aNil))))))))))) wNil)) (aCons (sVar 3) (aCons (sVar 4) aNil)))))
  sNil) sNil)
  (sCons (sIte (tAndB (sT (sBin pEq (sVar 5) (sK (.int 1)))) (sT (sBin pGt (sLenAt 3) (sK (.int 0))))) (sCons (sSet 7 (sFz (sCallA d__law_roll 0 (wCons (sFz (sLenAt 3)) wNil))))
  (sCons (sSet 8 (sFz (sCallW d__law_put (wCons (sFz (sAt 3 (sVar 7))) (wCons (sFz (sCallA d__law_roll 0 (wCons (sFz (sVar 2)) wNil))) (wCons (sFz (sCallA d__law_no_frac 0 wNil)) wNil))))))
  (sCons (sRet (sTup (aCons (sVar 2) (aCons (sCallW d__law_put (wCons (sFz (sVar 3)) (wCons (sFz (sVar 7)) (wCons (sFz (sVar 8)) wNil)))) (aCons (sVar 4) aNil)))))
  sNil))) sNil)
  (sCons (sIte (tAndB (sT (sBin pEq (sVar 5) (sK (.int 2)))) (sT (sBin pGt (sLenAt 3) (sK (.int 0))))) (sCons (sRet (sTup (aCons (sVar 2) (aCons (sVar 3) (aCons (sCallW d__law_put (wCons (sFz (sVar 4)) (wCons (sFz (sCallA d__law_roll 0 (wCons (sFz (sLenAt 4)) wNil))) (wCons (sFz (sCallA d__law_no_frac 0 wNil)) wNil)))) aNil)))))
  sNil) sNil)
  (sCons (sIte (sT (sBin pEq (sVar 5) (sK (.int 3)))) (sCons (sRet (sTup (aCons (sVar 2) (aCons (sCallA d__law_pick 0 (wCons (sFz (sLst (aCons (sBin pAdd (sVar 3) (sTup (aCons (sVar 6) aNil))) (aCons (sCut (sVar 3) (sPart (sK (.int 1))) sPartN) (aCons (sCall pList (aCons (sVar 3) aNil)) (aCons (sK .none) (aCons (sBin pAdd (sVar 3) (sTup (aCons (sTup aNil) aNil))) (aCons (sTup (aCons (sVar 3) aNil)) aNil)))))))) wNil)) (aCons (sVar 4) aNil)))))
  sNil) sNil)
  (sCons (sIte (sT (sBin pEq (sVar 5) (sK (.int 4)))) (sCons (sRet (sTup (aCons (sVar 2) (aCons (sVar 3) (aCons (sCallA d__law_pick 0 (wCons (sFz (sLst (aCons (sBin pAdd (sVar 4) (sTup (aCons (sTup (aCons (sK (.int 0)) (aCons (sK (.int 1)) aNil))) aNil))) (aCons (sCut (sVar 4) (sPart (sK (.int 1))) sPartN) (aCons (sCall pList (aCons (sVar 4) aNil)) (aCons (sK .none) (aCons (sTup (aCons (sVar 4) aNil)) aNil))))))) wNil)) aNil)))))
  sNil) sNil)
  (sCons (sIte (sT (sBin pEq (sVar 5) (sK (.int 5)))) (sCons (sRet (sCallA d__law_pick 0 (wCons (sFz (sLst (aCons (sTup (aCons (sVar 2) (aCons (sBin pMul (sTup (aCons (sVar 6) aNil)) (sK (.int 7))) (aCons (sBin pMul (sTup (aCons (sTup (aCons (sK (.int 1)) (aCons (sK (.int 1)) aNil))) aNil)) (sK (.int 7))) aNil)))) (aCons (sTup (aCons (sVar 2) (aCons (sBin pMul (sTup (aCons (sVar 6) aNil)) (sK (.int 6))) (aCons (sBin pMul (sTup (aCons (sTup (aCons (sK (.int 1)) (aCons (sK (.int 1)) aNil))) aNil)) (sK (.int 6))) aNil)))) aNil)))) wNil)))
  sNil) sNil)
  (sCons (sIte (sT (sBin pEq (sVar 5) (sK (.int 6)))) (sCons (sRet (sCallA d__law_pick 0 (wCons (sFz (sLst (aCons (sCall pList (aCons (sVar 1) aNil)) (aCons (sBin pAdd (sVar 1) (sTup (aCons (sK (.int 1)) aNil))) (aCons (sCut (sVar 1) sPartN (sPart (sK (.int 2)))) (aCons (sTup (aCons (sVar 3) (aCons (sVar 4) (aCons (sVar 2) aNil)))) (aCons (sTup (aCons (sVar 2) (aCons (sVar 4) (aCons (sVar 3) aNil)))) (aCons (sK .none) aNil)))))))) wNil)))
  sNil) sNil)
  (sCons (sRet (sIf (sT (sBin pEq (sVar 5) (sK (.int 7)))) (sCallA d__law_odd 0 wNil) (sTup (aCons (sVar 2) (aCons (sBin pAdd (sVar 3) (sTup (aCons (sBin pMul (sTup (aCons (sTup (aCons (sK (.int 0)) (aCons (sK (.int 1)) aNil))) aNil)) (sVar 2)) aNil))) (aCons (sBin pAdd (sVar 4) (sTup (aCons (sTup (aCons (sK (.int 0)) (aCons (sK (.int 1)) aNil))) aNil))) aNil))))))
  sNil)))))))))))
noncomputable def d__law_moved : DS := mkDef 3 3 mF
  ((sCons (sRet (sBin pAdd (sTup (aCons (sCallW d__law_plus (wCons (sFz (sAt 1 (sK (.int 0)))) (wCons (sFz (sVar 2)) wNil))) aNil)) (sCut (sVar 1) (sPart (sK (.int 1))) sPartN)))
  sNil))
noncomputable def d_law : DS := mkDef 13 1 m0
  ((sCons (sFor (iRange1 (aCons (sCall pMax2 (aCons (sK (.int 1)) (aCons (sCall pMin2 (aCons (sLenAt 0) (aCons (sK (.int 3)) aNil))) aNil))) aNil)) (gN 1) (sCons (sSet 2 (sCallA d__law_deck 0 (wCons (sFz (sVar 1)) (wCons (sFz (sK (.int 22003))) wNil))))
  (sCons (sSet 3 (sFz (sCallA d__law_pick 2 (wCons (sFz (sLst (aCons (sK (.int 1)) (aCons (sK (.int 2)) (aCons (sK (.int 2)) (aCons (sK (.int 3)) aNil)))))) wNil))))
  (sCons (sSet 4 (sFz (sCallA d__law_spot 2 (wCons (sFz (sVar 3)) wNil))))
  (sCons (sSet 5 (sFz (sCallA d__law_hall 2 (wCons (sFz (sVar 3)) (wCons (sFz (sK (.int 5))) (wCons (sFz (sVar 4)) wNil))))))
  (sCons (sTupW 2 (wsCons (wN 6) (wsCons (wN 7) wsNil)) (wCons (sFz (sCallA d__law_bent_hall 2 (wCons (sFz (sVar 5)) wNil))) (wCons (sFz (sCallA d__law_odd 2 wNil)) wNil)))
  (sCons (sSet 8 (sFz (sLst (aCons (sCallW d_is_room (wCons (sFz (sVar 5)) wNil)) (aCons (sCallW d_is_room (wCons (sFz (sVar 6)) wNil)) (aCons (sCallK d_is_room 1 [0] (aCons (sVar 6) aNil)) (aCons (sCallW d_is_room (wCons (sFz (sVar 7)) wNil)) aNil)))))))
  (sCons (sSet 9 (sFz (sCallW d__law_is_hall (wCons (sFz (sVar 6)) wNil))))
  (sCons (sIte (sT (sBin pNe (sCall pRepr (aCons (sVar 8) aNil)) (sCall pRepr (aCons (sLst (aCons (sK (.bool true)) (aCons (sVar 9) (aCons (sVar 9) (aCons (sCallW d__law_is_hall (wCons (sFz (sVar 7)) wNil)) aNil))))) aNil)))) (sCons (sRet (sK (.bool false)))
  sNil) sNil)
  (sCons (sSet 10 (sLst (aCons (sVar 4) (aCons (sCallW d__law_moved (wCons (sFz (sVar 5)) (wCons (sFz (sVar 4)) (wCons (sFz (sTup (aCons (sK (.int 1)) (aCons (sK (.int 1000000007)) aNil)))) wNil)))) (aCons (sCallW d__law_moved (wCons (sFz (sVar 5)) (wCons (sFz (sVar 4)) (wCons (sFz (sTup (aCons (sNeg (sK (.int 1))) (aCons (sK (.int 1000000007)) aNil)))) wNil)))) aNil)))))
  (sCons (sFor (iRange1 (aCons (sK (.int 3)) aNil)) (gN 11) (sCons (sApp 10 (sFz (sCallA d__law_spot 2 (wCons (sFz (sVar 3)) wNil))))
  sNil))
  (sCons (sSet 8 (sFz (sBin pAdd (sComp [12] (iSeq (sVar 10)) (gN 12) tYesB (sFz (sCallW d_is_in (wCons (sFz (sVar 5)) (wCons (sFz (sVar 12)) wNil))))) (sLst (aCons (sCallK d_is_in 2 [1, 0] (aCons (sAt 10 (sK (.int 3))) (aCons (sVar 5) aNil))) aNil)))))
  (sCons (sIte (sT (sBin pNe (sCall pRepr (aCons (sVar 8) aNil)) (sCall pRepr (aCons (sComp [12] (iSeq (sBin pAdd (sVar 10) (sLst (aCons (sAt 10 (sK (.int 3))) aNil)))) (gN 12) tYesB (sFz (sCallW d__law_inside (wCons (sFz (sVar 5)) (wCons (sFz (sVar 12)) wNil))))) aNil)))) (sCons (sRet (sK (.bool false)))
  sNil) sNil)
  sNil)))))))))))))
  (sCons (sRet (sK (.bool true)))
  sNil)))
end LW

set_option Elab.async false
set_option linter.all false
set_option maxRecDepth 100000
set_option maxHeartbeats 4000001
namespace LW
open PySem PySem.Spec PyProof.Rows L2 FW

def TF_is_whole (K : Frg) (mg : Mg) : Prop := ∃ f fd, Fun K "is_whole" "is_whole" s_is_whole f fd ∧ mg "is_whole" = some (.ref f) ∧ PySem.W.keepIn K (.ref f) = true ∧ Binds K fd ["value"] [] ∧ True
def TF_is_between (K : Frg) (mg : Mg) : Prop := ∃ f fd, Fun K "is_between" "is_between" s_is_between f fd ∧ mg "is_between" = some (.ref f) ∧ PySem.W.keepIn K (.ref f) = true ∧ Binds K fd ["value", "low", "high"] [] ∧ True
def TF_are_wholes (K : Frg) (mg : Mg) : Prop := ∃ f fd, Fun K "are_wholes" "are_wholes" s_are_wholes f fd ∧ mg "are_wholes" = some (.ref f) ∧ PySem.W.keepIn K (.ref f) = true ∧ Binds K fd ["value", "many"] [] ∧ True
def TF_divisor_of (K : Frg) (mg : Mg) : Prop := ∃ f fd, Fun K "divisor_of" "divisor_of" s_divisor_of f fd ∧ mg "divisor_of" = some (.ref f) ∧ PySem.W.keepIn K (.ref f) = true ∧ Binds K fd ["numbers"] [] ∧ True
def TF_is_reduced (K : Frg) (mg : Mg) : Prop := ∃ f fd, Fun K "is_reduced" "is_reduced" s_is_reduced f fd ∧ mg "is_reduced" = some (.ref f) ∧ PySem.W.keepIn K (.ref f) = true ∧ Binds K fd ["numbers"] [] ∧ True
def TF_is_ratio (K : Frg) (mg : Mg) : Prop := ∃ f fd, Fun K "is_ratio" "is_ratio" s_is_ratio f fd ∧ mg "is_ratio" = some (.ref f) ∧ PySem.W.keepIn K (.ref f) = true ∧ Binds K fd ["value"] [] ∧ True
def TF_are_ratios (K : Frg) (mg : Mg) : Prop := ∃ f fd, Fun K "are_ratios" "are_ratios" s_are_ratios f fd ∧ mg "are_ratios" = some (.ref f) ∧ PySem.W.keepIn K (.ref f) = true ∧ Binds K fd ["value", "many"] [] ∧ True
def TF_is_roomed (K : Frg) (mg : Mg) : Prop := ∃ f fd, Fun K "is_roomed" "is_roomed" s_is_roomed f fd ∧ mg "is_roomed" = some (.ref f) ∧ PySem.W.keepIn K (.ref f) = true ∧ Binds K fd ["value"] [] ∧ True
def TF_is_room (K : Frg) (mg : Mg) : Prop := ∃ f fd, Fun K "is_room" "is_room" s_is_room f fd ∧ mg "is_room" = some (.ref f) ∧ PySem.W.keepIn K (.ref f) = true ∧ Binds K fd ["value"] [] ∧ KB K fd ["value"] ["value"] [0]
def TF_check_row_of (K : Frg) (mg : Mg) : Prop := ∃ f fd, Fun K "check_row_of" "check_row_of" s_check_row_of f fd ∧ mg "check_row_of" = some (.ref f) ∧ PySem.W.keepIn K (.ref f) = true ∧ Binds K fd ["many", "value"] [] ∧ True
def TF_is_lower (K : Frg) (mg : Mg) : Prop := ∃ f fd, Fun K "is_lower" "is_lower" s_is_lower f fd ∧ mg "is_lower" = some (.ref f) ∧ PySem.W.keepIn K (.ref f) = true ∧ Binds K fd ["one", "two"] [] ∧ True
def TF_ratio_with (K : Frg) (mg : Mg) : Prop := ∃ f fd, Fun K "ratio_with" "ratio_with" s_ratio_with f fd ∧ mg "ratio_with" = some (.ref f) ∧ PySem.W.keepIn K (.ref f) = true ∧ Binds K fd ["number", "under"] [] ∧ True
def TF_ratio_product (K : Frg) (mg : Mg) : Prop := ∃ f fd, Fun K "ratio_product" "ratio_product" s_ratio_product f fd ∧ mg "ratio_product" = some (.ref f) ∧ PySem.W.keepIn K (.ref f) = true ∧ Binds K fd ["one", "two"] [] ∧ True
def TF_ratio_sum (K : Frg) (mg : Mg) : Prop := ∃ f fd, Fun K "ratio_sum" "ratio_sum" s_ratio_sum f fd ∧ mg "ratio_sum" = some (.ref f) ∧ PySem.W.keepIn K (.ref f) = true ∧ Binds K fd ["one", "two"] [] ∧ True
def TF_total_of (K : Frg) (mg : Mg) : Prop := ∃ f fd, Fun K "total_of" "total_of" s_total_of f fd ∧ mg "total_of" = some (.ref f) ∧ PySem.W.keepIn K (.ref f) = true ∧ Binds K fd ["numbers"] [] ∧ True
def TF_dot (K : Frg) (mg : Mg) : Prop := ∃ f fd, Fun K "dot" "dot" s_dot f fd ∧ mg "dot" = some (.ref f) ∧ PySem.W.keepIn K (.ref f) = true ∧ Binds K fd ["row", "other"] [] ∧ True
def TF_is_held (K : Frg) (mg : Mg) : Prop := ∃ f fd, Fun K "is_held" "is_held" s_is_held f fd ∧ mg "is_held" = some (.ref f) ∧ PySem.W.keepIn K (.ref f) = true ∧ Binds K fd ["room", "place"] [] ∧ True
def TF_check_room (K : Frg) (mg : Mg) : Prop := ∃ f fd, Fun K "check_room" "check_room" s_check_room f fd ∧ mg "check_room" = some (.ref f) ∧ PySem.W.keepIn K (.ref f) = true ∧ Binds K fd ["value"] [] ∧ True
def TF_is_in (K : Frg) (mg : Mg) : Prop := ∃ f fd, Fun K "is_in" "is_in" s_is_in f fd ∧ mg "is_in" = some (.ref f) ∧ PySem.W.keepIn K (.ref f) = true ∧ Binds K fd ["room", "place"] [] ∧ KB K fd ["room", "place"] ["place", "room"] [1, 0]
def TF__law_deck (K : Frg) (mg : Mg) : Prop := ∃ f fd, Fun K "_law_deck" "_law_deck" s__law_deck f fd ∧ mg "_law_deck" = some (.ref f) ∧ PySem.W.keepIn K (.ref f) = true ∧ Binds K fd ["script", "turn", "salt"] [] ∧ True
def TF__law_roll (K : Frg) (mg : Mg) : Prop := ∃ f fd, Fun K "_law_roll" "_law_roll" s__law_roll f fd ∧ mg "_law_roll" = some (.ref f) ∧ PySem.W.keepIn K (.ref f) = true ∧ Binds K fd ["deck", "width"] [] ∧ True
def TF__law_pick (K : Frg) (mg : Mg) : Prop := ∃ f fd, Fun K "_law_pick" "_law_pick" s__law_pick f fd ∧ mg "_law_pick" = some (.ref f) ∧ PySem.W.keepIn K (.ref f) = true ∧ Binds K fd ["deck", "some"] [] ∧ True
def TF__law_odd (K : Frg) (mg : Mg) : Prop := ∃ f fd, Fun K "_law_odd" "_law_odd" s__law_odd f fd ∧ mg "_law_odd" = some (.ref f) ∧ PySem.W.keepIn K (.ref f) = true ∧ Binds K fd ["deck"] [] ∧ True
def TF__law_gcd (K : Frg) (mg : Mg) : Prop := ∃ f fd, Fun K "_law_gcd" "_law_gcd" s__law_gcd f fd ∧ mg "_law_gcd" = some (.ref f) ∧ PySem.W.keepIn K (.ref f) = true ∧ Binds K fd ["one", "two"] [] ∧ True
def TF__law_frac (K : Frg) (mg : Mg) : Prop := ∃ f fd, Fun K "_law_frac" "_law_frac" s__law_frac f fd ∧ mg "_law_frac" = some (.ref f) ∧ PySem.W.keepIn K (.ref f) = true ∧ Binds K fd ["top", "down"] [] ∧ True
def TF__law_spot (K : Frg) (mg : Mg) : Prop := ∃ f fd, Fun K "_law_spot" "_law_spot" s__law_spot f fd ∧ mg "_law_spot" = some (.ref f) ∧ PySem.W.keepIn K (.ref f) = true ∧ Binds K fd ["deck", "size"] [] ∧ True
def TF__law_wholes (K : Frg) (mg : Mg) : Prop := ∃ f fd, Fun K "_law_wholes" "_law_wholes" s__law_wholes f fd ∧ mg "_law_wholes" = some (.ref f) ∧ PySem.W.keepIn K (.ref f) = true ∧ Binds K fd ["deck", "size", "low", "width"] [] ∧ True
def TF__law_plus (K : Frg) (mg : Mg) : Prop := ∃ f fd, Fun K "_law_plus" "_law_plus" s__law_plus f fd ∧ mg "_law_plus" = some (.ref f) ∧ PySem.W.keepIn K (.ref f) = true ∧ Binds K fd ["one", "two"] [] ∧ True
def TF__law_times (K : Frg) (mg : Mg) : Prop := ∃ f fd, Fun K "_law_times" "_law_times" s__law_times f fd ∧ mg "_law_times" = some (.ref f) ∧ PySem.W.keepIn K (.ref f) = true ∧ Binds K fd ["one", "two"] [] ∧ True
def TF__law_dot (K : Frg) (mg : Mg) : Prop := ∃ f fd, Fun K "_law_dot" "_law_dot" s__law_dot f fd ∧ mg "_law_dot" = some (.ref f) ∧ PySem.W.keepIn K (.ref f) = true ∧ Binds K fd ["one", "two"] [] ∧ True
def TF__law_hall (K : Frg) (mg : Mg) : Prop := ∃ f fd, Fun K "_law_hall" "_law_hall" s__law_hall f fd ∧ mg "_law_hall" = some (.ref f) ∧ PySem.W.keepIn K (.ref f) = true ∧ Binds K fd ["deck", "size", "most", "spot"] [] ∧ True
def TF__law_under (K : Frg) (mg : Mg) : Prop := ∃ f fd, Fun K "_law_under" "_law_under" s__law_under f fd ∧ mg "_law_under" = some (.ref f) ∧ PySem.W.keepIn K (.ref f) = true ∧ Binds K fd ["one", "two"] [] ∧ True
def TF__law_inside (K : Frg) (mg : Mg) : Prop := ∃ f fd, Fun K "_law_inside" "_law_inside" s__law_inside f fd ∧ mg "_law_inside" = some (.ref f) ∧ PySem.W.keepIn K (.ref f) = true ∧ Binds K fd ["hall", "spot"] [] ∧ True
def TF__law_whole (K : Frg) (mg : Mg) : Prop := ∃ f fd, Fun K "_law_whole" "_law_whole" s__law_whole f fd ∧ mg "_law_whole" = some (.ref f) ∧ PySem.W.keepIn K (.ref f) = true ∧ Binds K fd ["thing"] [] ∧ True
def TF__law_is_frac (K : Frg) (mg : Mg) : Prop := ∃ f fd, Fun K "_law_is_frac" "_law_is_frac" s__law_is_frac f fd ∧ mg "_law_is_frac" = some (.ref f) ∧ PySem.W.keepIn K (.ref f) = true ∧ Binds K fd ["thing"] [] ∧ True
def TF__law_is_line (K : Frg) (mg : Mg) : Prop := ∃ f fd, Fun K "_law_is_line" "_law_is_line" s__law_is_line f fd ∧ mg "_law_is_line" = some (.ref f) ∧ PySem.W.keepIn K (.ref f) = true ∧ Binds K fd ["thing", "size"] [] ∧ True
def TF__law_is_hall (K : Frg) (mg : Mg) : Prop := ∃ f fd, Fun K "_law_is_hall" "_law_is_hall" s__law_is_hall f fd ∧ mg "_law_is_hall" = some (.ref f) ∧ PySem.W.keepIn K (.ref f) = true ∧ Binds K fd ["thing"] [] ∧ True
def TF__law_no_frac (K : Frg) (mg : Mg) : Prop := ∃ f fd, Fun K "_law_no_frac" "_law_no_frac" s__law_no_frac f fd ∧ mg "_law_no_frac" = some (.ref f) ∧ PySem.W.keepIn K (.ref f) = true ∧ Binds K fd ["deck"] [] ∧ True
def TF__law_put (K : Frg) (mg : Mg) : Prop := ∃ f fd, Fun K "_law_put" "_law_put" s__law_put f fd ∧ mg "_law_put" = some (.ref f) ∧ PySem.W.keepIn K (.ref f) = true ∧ Binds K fd ["line", "at", "thing"] [] ∧ True
def TF__law_bent_hall (K : Frg) (mg : Mg) : Prop := ∃ f fd, Fun K "_law_bent_hall" "_law_bent_hall" s__law_bent_hall f fd ∧ mg "_law_bent_hall" = some (.ref f) ∧ PySem.W.keepIn K (.ref f) = true ∧ Binds K fd ["deck", "hall"] [] ∧ True
def TF__law_moved (K : Frg) (mg : Mg) : Prop := ∃ f fd, Fun K "_law_moved" "_law_moved" s__law_moved f fd ∧ mg "_law_moved" = some (.ref f) ∧ PySem.W.keepIn K (.ref f) = true ∧ Binds K fd ["hall", "spot", "amount"] [] ∧ True
def TF_law (K : Frg) (mg : Mg) : Prop := ∃ f fd, Fun K "law" "law" s_law f fd ∧ mg "law" = some (.ref f) ∧ PySem.W.keepIn K (.ref f) = true ∧ Binds K fd ["script"] [] ∧ True
structure Tx (K : Frg) (mg : Mg) : Prop where
  z_abs : mg "abs" = none
  z_all : mg "all" = none
  z_any : mg "any" = none
  z_bool : mg "bool" = none
  z_enumerate : mg "enumerate" = none
  z_int : mg "int" = none
  z_isinstance : mg "isinstance" = none
  z_len : mg "len" = none
  z_list : mg "list" = none
  z_max : mg "max" = none
  z_min : mg "min" = none
  z_range : mg "range" = none
  z_repr : mg "repr" = none
  z_tuple : mg "tuple" = none
  z_zip : mg "zip" = none
  b_gcd : mg "gcd" = some (.builtin "math.gcd")
  g_ZERO : GlobD K mg "ZERO" (.tuple [(.int 0), (.int 1)])
  g_MOST_UNKNOWNS : GlobD K mg "MOST_UNKNOWNS" (.int 3)
  g_MOST_ROWS : GlobD K mg "MOST_ROWS" (.int 6)
  f_is_whole : TF_is_whole K mg
  f_is_between : TF_is_between K mg
  f_are_wholes : TF_are_wholes K mg
  f_divisor_of : TF_divisor_of K mg
  f_is_reduced : TF_is_reduced K mg
  f_is_ratio : TF_is_ratio K mg
  f_are_ratios : TF_are_ratios K mg
  f_is_roomed : TF_is_roomed K mg
  f_is_room : TF_is_room K mg
  f_check_row_of : TF_check_row_of K mg
  f_is_lower : TF_is_lower K mg
  f_ratio_with : TF_ratio_with K mg
  f_ratio_product : TF_ratio_product K mg
  f_ratio_sum : TF_ratio_sum K mg
  f_total_of : TF_total_of K mg
  f_dot : TF_dot K mg
  f_is_held : TF_is_held K mg
  f_check_room : TF_check_room K mg
  f_is_in : TF_is_in K mg
  f__law_deck : TF__law_deck K mg
  f__law_roll : TF__law_roll K mg
  f__law_pick : TF__law_pick K mg
  f__law_odd : TF__law_odd K mg
  f__law_gcd : TF__law_gcd K mg
  f__law_frac : TF__law_frac K mg
  f__law_spot : TF__law_spot K mg
  f__law_wholes : TF__law_wholes K mg
  f__law_plus : TF__law_plus K mg
  f__law_times : TF__law_times K mg
  f__law_dot : TF__law_dot K mg
  f__law_hall : TF__law_hall K mg
  f__law_under : TF__law_under K mg
  f__law_inside : TF__law_inside K mg
  f__law_whole : TF__law_whole K mg
  f__law_is_frac : TF__law_is_frac K mg
  f__law_is_line : TF__law_is_line K mg
  f__law_is_hall : TF__law_is_hall K mg
  f__law_no_frac : TF__law_no_frac K mg
  f__law_put : TF__law_put K mg
  f__law_bent_hall : TF__law_bent_hall K mg
  f__law_moved : TF__law_moved K mg
  f_law : TF_law K mg
section
variable {P : Program} {w : World} {K : Frg} {mg : Mg} {base : Heap}
theorem FF_is_whole (T : Tx K mg) {f : Addr} {fd : FuncData} (F : Fun K "is_whole" "is_whole" s_is_whole f fd) : FnG P w K mg base 1 f fd ["value"] (spD K mg 1 d_is_whole) := by
  have sc : FnScope ["value"] ["value"] (defScope s_is_whole) := ⟨rfl, rfl, rfl, by decide +kernel, rfl, by decide +kernel, by decide +kernel⟩
  have nd := sc.nd
  refine fnG_of (k := 0) (M := mF) F sc (by decide) (fun cdv A outer s H E hr hgd => ?_)
  have hu := room64 hr
  have hu1 := room65 hr
  have hc : (cxOf (L2.CX P w) P w K mg base ["value"] "is_whole" (defScope s_is_whole) f cdv A outer s H E).calm = true := rfl
  exact (ss_cons (s1_ret (se_and (se_isi T.z_isinstance T.z_int bt_int (by decide) (se_var 0)) (se_one (se_not (se_isi T.z_isinstance T.z_bool bt_bool (by decide) (se_var 0))))))
  ss_nil)
theorem c_is_whole (T : Tx K mg) : Cal P w K mg base 1 1 "is_whole" d_is_whole := by
  obtain ⟨f, fd, F, hm, hk, hb, _⟩ := T.f_is_whole
  exact ⟨f, fd, ["value"], FF_is_whole T F, hm, hk, hb⟩
theorem FF_is_between (T : Tx K mg) {f : Addr} {fd : FuncData} (F : Fun K "is_between" "is_between" s_is_between f fd) : FnG P w K mg base 2 f fd ["value", "low", "high"] (spD K mg 3 d_is_between) := by
  have sc : FnScope ["value", "low", "high"] ["value", "low", "high"] (defScope s_is_between) := ⟨rfl, rfl, rfl, by decide +kernel, rfl, by decide +kernel, by decide +kernel⟩
  have nd := sc.nd
  refine fnG_of (k := 1) (M := mF) F sc (by decide) (fun cdv A outer s H E hr hgd => ?_)
  have hu := room64 hr
  have hu1 := room65 hr
  have hc : (cxOf (L2.CX P w) P w K mg base ["value", "low", "high"] "is_between" (defScope s_is_between) f cdv A outer s H E).calm = true := rfl
  exact (ss_cons (s1_ret (se_and (se_callW (c_is_whole T) (hr.mono (by decide)) hgd tk_def (sw_cons (se_fz (se_var 0)) sw_nil) (wlen_cons (fun _ _ _ z => wlen_nil z))) (se_one (se_chain L2.op_le L2.op_le (se_var 1) (se_var 0) (se_var 2)))))
  ss_nil)
theorem c_is_between (T : Tx K mg) : Cal P w K mg base 2 3 "is_between" d_is_between := by
  obtain ⟨f, fd, F, hm, hk, hb, _⟩ := T.f_is_between
  exact ⟨f, fd, ["value", "low", "high"], FF_is_between T F, hm, hk, hb⟩
theorem FF_are_wholes (T : Tx K mg) {f : Addr} {fd : FuncData} (F : Fun K "are_wholes" "are_wholes" s_are_wholes f fd) : FnG P w K mg base 2 f fd ["value", "many"] (spD K mg 2 d_are_wholes) := by
  have sc : FnScope ["value", "many", "number"] ["value", "many"] (defScope s_are_wholes) := ⟨rfl, rfl, rfl, by decide +kernel, rfl, by decide +kernel, by decide +kernel⟩
  have nd := sc.nd
  refine fnG_of (k := 1) (M := mF) F sc (by decide) (fun cdv A outer s H E hr hgd => ?_)
  have hu := room64 hr
  have hu1 := room65 hr
  have hc : (cxOf (L2.CX P w) P w K mg base ["value", "many", "number"] "are_wholes" (defScope s_are_wholes) f cdv A outer s H E).calm = true := rfl
  exact (ss_cons (s1_ret (se_and (se_isi T.z_isinstance T.z_tuple bt_tuple (by decide) (se_var 0)) (se_and (se_cmp (or_eq hu) (se_lenAt 0 T.z_len) (se_var 1)) (se_one (se_callB (cr_all' (by exact hc)) T.z_all bt_all (sa_cons (se_comp (by exact hc) (by exact nd) (si_seq (se_var 0)) (blkOk_by (own := [("number", 2)]) (by rfl)) (fun s0 H0 C0 cl0 fp0 => (sg_name (i := 2) rfl nd)) (fun s0 H0 C0 cl0 fp0 => st_nil) (fun s0 H0 C0 cl0 fp0 => (se_fz (se_callW (c_is_whole T) (hr.mono (by decide)) hgd tk_EF (sw_cons (se_fz (se_var 2)) sw_nil) (wlen_cons (fun _ _ _ z => wlen_nil z)))))) sa_nil))))))
  ss_nil)
theorem c_are_wholes (T : Tx K mg) : Cal P w K mg base 2 2 "are_wholes" d_are_wholes := by
  obtain ⟨f, fd, F, hm, hk, hb, _⟩ := T.f_are_wholes
  exact ⟨f, fd, ["value", "many"], FF_are_wholes T F, hm, hk, hb⟩
theorem FF_divisor_of (T : Tx K mg) {f : Addr} {fd : FuncData} (F : Fun K "divisor_of" "divisor_of" s_divisor_of f fd) : FnG P w K mg base 1 f fd ["numbers"] (spD K mg 1 d_divisor_of) := by
  have sc : FnScope ["numbers", "found", "number"] ["numbers"] (defScope s_divisor_of) := ⟨rfl, rfl, rfl, by decide +kernel, rfl, by decide +kernel, by decide +kernel⟩
  have nd := sc.nd
  refine fnG_of (k := 0) (M := mF) F sc (by decide) (fun cdv A outer s H E hr hgd => ?_)
  have hu := room64 hr
  have hu1 := room65 hr
  have hc : (cxOf (L2.CX P w) P w K mg base ["numbers", "found", "number"] "divisor_of" (defScope s_divisor_of) f cdv A outer s H E).calm = true := rfl
  exact (ss_cons (s1_set (i := 1) (se_fz se_int) rfl nd)
  (ss_cons (s1_for ps_def hc (si_seq (se_var 0)) (sg_name (i := 2) rfl nd) (ss_cons (s1_set (i := 1) (se_fz (se_callBfun (cr_gcd') T.b_gcd (sa_cons (se_var 1) (sa_cons (se_var 2) sa_nil)))) rfl nd)
  ss_nil))
  (ss_cons (s1_ret (se_move 1))
  ss_nil)))
theorem c_divisor_of (T : Tx K mg) : Cal P w K mg base 1 1 "divisor_of" d_divisor_of := by
  obtain ⟨f, fd, F, hm, hk, hb, _⟩ := T.f_divisor_of
  exact ⟨f, fd, ["numbers"], FF_divisor_of T F, hm, hk, hb⟩
theorem FF_is_reduced (T : Tx K mg) {f : Addr} {fd : FuncData} (F : Fun K "is_reduced" "is_reduced" s_is_reduced f fd) : FnG P w K mg base 2 f fd ["numbers"] (spD K mg 1 d_is_reduced) := by
  have sc : FnScope ["numbers"] ["numbers"] (defScope s_is_reduced) := ⟨rfl, rfl, rfl, by decide +kernel, rfl, by decide +kernel, by decide +kernel⟩
  have nd := sc.nd
  refine fnG_of (k := 1) (M := mF) F sc (by decide) (fun cdv A outer s H E hr hgd => ?_)
  have hu := room64 hr
  have hu1 := room65 hr
  have hc : (cxOf (L2.CX P w) P w K mg base ["numbers"] "is_reduced" (defScope s_is_reduced) f cdv A outer s H E).calm = true := rfl
  exact (ss_cons (s1_ret (se_cmp (or_eq hu) (se_callW (c_divisor_of T) (hr.mono (by decide)) hgd tk_def (sw_cons (se_fz (se_var 0)) sw_nil) (wlen_cons (fun _ _ _ z => wlen_nil z))) se_int))
  ss_nil)
theorem c_is_reduced (T : Tx K mg) : Cal P w K mg base 2 1 "is_reduced" d_is_reduced := by
  obtain ⟨f, fd, F, hm, hk, hb, _⟩ := T.f_is_reduced
  exact ⟨f, fd, ["numbers"], FF_is_reduced T F, hm, hk, hb⟩
theorem FF_is_ratio (T : Tx K mg) {f : Addr} {fd : FuncData} (F : Fun K "is_ratio" "is_ratio" s_is_ratio f fd) : FnG P w K mg base 3 f fd ["value"] (spD K mg 1 d_is_ratio) := by
  have sc : FnScope ["value"] ["value"] (defScope s_is_ratio) := ⟨rfl, rfl, rfl, by decide +kernel, rfl, by decide +kernel, by decide +kernel⟩
  have nd := sc.nd
  refine fnG_of (k := 2) (M := mF) F sc (by decide) (fun cdv A outer s H E hr hgd => ?_)
  have hu := room64 hr
  have hu1 := room65 hr
  have hc : (cxOf (L2.CX P w) P w K mg base ["value"] "is_ratio" (defScope s_is_ratio) f cdv A outer s H E).calm = true := rfl
  exact (ss_cons (s1_ret (se_and (se_callW (c_are_wholes T) (hr.mono (by decide)) hgd tk_def (sw_cons (se_fz (se_var 0)) (sw_cons (se_fz se_int) sw_nil)) (wlen_cons (wlen_cons (fun _ _ _ z => wlen_nil z)))) (se_and (se_cmp or_gt (se_at 0 se_int) se_int) (se_one (se_callW (c_is_reduced T) (hr.mono (by decide)) hgd tk_def (sw_cons (se_fz (se_var 0)) sw_nil) (wlen_cons (fun _ _ _ z => wlen_nil z)))))))
  ss_nil)
theorem c_is_ratio (T : Tx K mg) : Cal P w K mg base 3 1 "is_ratio" d_is_ratio := by
  obtain ⟨f, fd, F, hm, hk, hb, _⟩ := T.f_is_ratio
  exact ⟨f, fd, ["value"], FF_is_ratio T F, hm, hk, hb⟩
theorem FF_are_ratios (T : Tx K mg) {f : Addr} {fd : FuncData} (F : Fun K "are_ratios" "are_ratios" s_are_ratios f fd) : FnG P w K mg base 4 f fd ["value", "many"] (spD K mg 2 d_are_ratios) := by
  have sc : FnScope ["value", "many", "each"] ["value", "many"] (defScope s_are_ratios) := ⟨rfl, rfl, rfl, by decide +kernel, rfl, by decide +kernel, by decide +kernel⟩
  have nd := sc.nd
  refine fnG_of (k := 3) (M := mF) F sc (by decide) (fun cdv A outer s H E hr hgd => ?_)
  have hu := room64 hr
  have hu1 := room65 hr
  have hc : (cxOf (L2.CX P w) P w K mg base ["value", "many", "each"] "are_ratios" (defScope s_are_ratios) f cdv A outer s H E).calm = true := rfl
  exact (ss_cons (s1_ret (se_and (se_isi T.z_isinstance T.z_tuple bt_tuple (by decide) (se_var 0)) (se_and (se_cmp (or_eq hu) (se_lenAt 0 T.z_len) (se_var 1)) (se_one (se_callB (cr_all' (by exact hc)) T.z_all bt_all (sa_cons (se_comp (by exact hc) (by exact nd) (si_seq (se_var 0)) (blkOk_by (own := [("each", 2)]) (by rfl)) (fun s0 H0 C0 cl0 fp0 => (sg_name (i := 2) rfl nd)) (fun s0 H0 C0 cl0 fp0 => st_nil) (fun s0 H0 C0 cl0 fp0 => (se_fz (se_callW (c_is_ratio T) (hr.mono (by decide)) hgd tk_EF (sw_cons (se_fz (se_var 2)) sw_nil) (wlen_cons (fun _ _ _ z => wlen_nil z)))))) sa_nil))))))
  ss_nil)
theorem c_are_ratios (T : Tx K mg) : Cal P w K mg base 4 2 "are_ratios" d_are_ratios := by
  obtain ⟨f, fd, F, hm, hk, hb, _⟩ := T.f_are_ratios
  exact ⟨f, fd, ["value", "many"], FF_are_ratios T F, hm, hk, hb⟩
theorem FF_is_roomed (T : Tx K mg) {f : Addr} {fd : FuncData} (F : Fun K "is_roomed" "is_roomed" s_is_roomed f fd) : FnG P w K mg base 5 f fd ["value"] (spD K mg 1 d_is_roomed) := by
  have sc : FnScope ["value", "row"] ["value"] (defScope s_is_roomed) := ⟨rfl, rfl, rfl, by decide +kernel, rfl, by decide +kernel, by decide +kernel⟩
  have nd := sc.nd
  refine fnG_of (k := 4) (M := mF) F sc (by decide) (fun cdv A outer s H E hr hgd => ?_)
  have hu := room64 hr
  have hu1 := room65 hr
  have hc : (cxOf (L2.CX P w) P w K mg base ["value", "row"] "is_roomed" (defScope s_is_roomed) f cdv A outer s H E).calm = true := rfl
  exact (ss_cons (s1_if (SW.T (sw_or (st_not (st_val (se_isi T.z_isinstance T.z_tuple bt_tuple (by decide) (se_var 0)))) (sw_or (st_cmp (or_ne hu) (se_lenAt 0 T.z_len) se_int) (sw_or1 (st_not (st_val (se_callW (c_is_between T) (hr.mono (by decide)) hgd tk_def (sw_cons (se_fz (se_at 0 se_int)) (sw_cons (se_fz se_int) (sw_cons (se_fz (se_cst T.g_MOST_UNKNOWNS)) sw_nil))) (wlen_cons (wlen_cons (wlen_cons (fun _ _ _ z => wlen_nil z))))))))))) (ss_cons (s1_ret se_bl)
  ss_nil) ss_nil)
  (ss_cons (s1_if (SW.T (sw_or (st_not (st_val (se_isi T.z_isinstance T.z_tuple bt_tuple (by decide) (se_at 0 se_int)))) (sw_or1 (st_cmp or_gt (se_callB (cr_len) T.z_len bt_len (sa_cons (se_at 0 se_int) sa_nil)) (se_cst T.g_MOST_ROWS))))) (ss_cons (s1_ret se_bl)
  ss_nil) ss_nil)
  (ss_cons (s1_ret (se_and (se_callB (cr_all' (by exact hc)) T.z_all bt_all (sa_cons (se_comp (by exact hc) (by exact nd) (si_seq (se_at 0 se_int)) (blkOk_by (own := [("row", 1)]) (by rfl)) (fun s0 H0 C0 cl0 fp0 => (sg_name (i := 1) rfl nd)) (fun s0 H0 C0 cl0 fp0 => st_nil) (fun s0 H0 C0 cl0 fp0 => (se_fz (se_callW (c_are_ratios T) (hr.mono (by decide)) hgd tk_EF (sw_cons (se_fz (se_var 1)) (sw_cons (se_fz (se_at 0 se_int)) sw_nil)) (wlen_cons (wlen_cons (fun _ _ _ z => wlen_nil z))))))) sa_nil)) (se_one (se_callW (c_are_ratios T) (hr.mono (by decide)) hgd tk_def (sw_cons (se_fz (se_at 0 se_int)) (sw_cons (se_fz (se_callB (cr_len) T.z_len bt_len (sa_cons (se_at 0 se_int) sa_nil))) sw_nil)) (wlen_cons (wlen_cons (fun _ _ _ z => wlen_nil z)))))))
  ss_nil)))
theorem c_is_roomed (T : Tx K mg) : Cal P w K mg base 5 1 "is_roomed" d_is_roomed := by
  obtain ⟨f, fd, F, hm, hk, hb, _⟩ := T.f_is_roomed
  exact ⟨f, fd, ["value"], FF_is_roomed T F, hm, hk, hb⟩
theorem FF_is_room (T : Tx K mg) {f : Addr} {fd : FuncData} (F : Fun K "is_room" "is_room" s_is_room f fd) : FnG P w K mg base 6 f fd ["value"] (spD K mg 1 d_is_room) := by
  have sc : FnScope ["value"] ["value"] (defScope s_is_room) := ⟨rfl, rfl, rfl, by decide +kernel, rfl, by decide +kernel, by decide +kernel⟩
  have nd := sc.nd
  refine fnG_of (k := 5) (M := mF) F sc (by decide) (fun cdv A outer s H E hr hgd => ?_)
  have hu := room64 hr
  have hu1 := room65 hr
  have hc : (cxOf (L2.CX P w) P w K mg base ["value"] "is_room" (defScope s_is_room) f cdv A outer s H E).calm = true := rfl
  exact (ss_cons (s1_ret (se_callW (c_is_roomed T) (hr.mono (by decide)) hgd tk_def (sw_cons (se_fz (se_var 0)) sw_nil) (wlen_cons (fun _ _ _ z => wlen_nil z))))
  ss_nil)
theorem c_is_room (T : Tx K mg) : Cal P w K mg base 6 1 "is_room" d_is_room := by
  obtain ⟨f, fd, F, hm, hk, hb, _⟩ := T.f_is_room
  exact ⟨f, fd, ["value"], FF_is_room T F, hm, hk, hb⟩
theorem k_is_room__value (T : Tx K mg) : CalK P w K mg base 6 1 "is_room" d_is_room ["value"] [0] := by
  obtain ⟨f, fd, F, hm, hk, hb, kb⟩ := T.f_is_room
  exact ⟨f, fd, ["value"], FF_is_room T F, hm, hk, kb⟩
theorem FF_check_row_of (T : Tx K mg) {f : Addr} {fd : FuncData} (F : Fun K "check_row_of" "check_row_of" s_check_row_of f fd) : FnG P w K mg base 4 f fd ["many", "value"] (spD K mg 2 d_check_row_of) := by
  have sc : FnScope ["many", "value", "index", "each"] ["many", "value"] (defScope s_check_row_of) := ⟨rfl, rfl, rfl, by decide +kernel, rfl, by decide +kernel, by decide +kernel⟩
  have nd := sc.nd
  refine fnG_of (k := 3) (M := mF) F sc (by decide) (fun cdv A outer s H E hr hgd => ?_)
  have hu := room64 hr
  have hu1 := room65 hr
  have hc : (cxOf (L2.CX P w) P w K mg base ["many", "value", "index", "each"] "check_row_of" (defScope s_check_row_of) f cdv A outer s H E).calm = true := rfl
  exact (ss_cons (s1_if (SW.T (sw_or (st_not (st_val (se_isi T.z_isinstance T.z_tuple bt_tuple (by decide) (se_var 1)))) (sw_or1 (st_cmp (or_ne hu) (se_lenAt 1 T.z_len) (se_var 0))))) (ss_cons s1_never
  ss_nil) ss_nil)
  (ss_cons (s1_for ps_def hc (si_enum T.z_enumerate (sa_cons (se_var 1) sa_nil)) (sg_tup (by exact hc) (sgs_cons (sg_name (i := 2) rfl nd) (sgs_cons (sg_name (i := 3) rfl nd) sgs_nil))) (ss_cons (s1_if (st_not (st_val (se_callW (c_is_ratio T) (hr.mono (by decide)) hgd tk_def (sw_cons (se_fz (se_var 3)) sw_nil) (wlen_cons (fun _ _ _ z => wlen_nil z))))) (ss_cons s1_never
  ss_nil) ss_nil)
  ss_nil))
  ss_nil))
theorem c_check_row_of (T : Tx K mg) : Cal P w K mg base 4 2 "check_row_of" d_check_row_of := by
  obtain ⟨f, fd, F, hm, hk, hb, _⟩ := T.f_check_row_of
  exact ⟨f, fd, ["many", "value"], FF_check_row_of T F, hm, hk, hb⟩
theorem FF_is_lower (T : Tx K mg) {f : Addr} {fd : FuncData} (F : Fun K "is_lower" "is_lower" s_is_lower f fd) : FnG P w K mg base 1 f fd ["one", "two"] (spD K mg 2 d_is_lower) := by
  have sc : FnScope ["one", "two"] ["one", "two"] (defScope s_is_lower) := ⟨rfl, rfl, rfl, by decide +kernel, rfl, by decide +kernel, by decide +kernel⟩
  have nd := sc.nd
  refine fnG_of (k := 0) (M := mF) F sc (by decide) (fun cdv A outer s H E hr hgd => ?_)
  have hu := room64 hr
  have hu1 := room65 hr
  have hc : (cxOf (L2.CX P w) P w K mg base ["one", "two"] "is_lower" (defScope s_is_lower) f cdv A outer s H E).calm = true := rfl
  exact (ss_cons (s1_ret (se_cmp or_lt (se_op or_mul (se_at 0 se_int) (se_at 1 se_int)) (se_op or_mul (se_at 1 se_int) (se_at 0 se_int))))
  ss_nil)
theorem c_is_lower (T : Tx K mg) : Cal P w K mg base 1 2 "is_lower" d_is_lower := by
  obtain ⟨f, fd, F, hm, hk, hb, _⟩ := T.f_is_lower
  exact ⟨f, fd, ["one", "two"], FF_is_lower T F, hm, hk, hb⟩
theorem FF_ratio_with (T : Tx K mg) {f : Addr} {fd : FuncData} (F : Fun K "ratio_with" "ratio_with" s_ratio_with f fd) : FnG P w K mg base 2 f fd ["number", "under"] (spD K mg 2 d_ratio_with) := by
  have sc : FnScope ["number", "under", "part"] ["number", "under"] (defScope s_ratio_with) := ⟨rfl, rfl, rfl, by decide +kernel, rfl, by decide +kernel, by decide +kernel⟩
  have nd := sc.nd
  refine fnG_of (k := 1) (M := mF) F sc (by decide) (fun cdv A outer s H E hr hgd => ?_)
  have hu := room64 hr
  have hu1 := room65 hr
  have hc : (cxOf (L2.CX P w) P w K mg base ["number", "under", "part"] "ratio_with" (defScope s_ratio_with) f cdv A outer s H E).calm = true := rfl
  exact (ss_cons (s1_set (i := 2) (se_fz (se_callW (c_divisor_of T) (hr.mono (by decide)) hgd tk_def (sw_cons (se_fz (se_tup (sa_cons (se_var 0) (sa_cons (se_var 1) sa_nil)))) sw_nil) (wlen_cons (fun _ _ _ z => wlen_nil z)))) rfl nd)
  (ss_cons (s1_set (i := 2) (se_fz (se_if (st_cmp or_gt (se_var 1) se_int) (se_var 2) (se_neg (se_var 2)))) rfl nd)
  (ss_cons (s1_ret (se_tup (sa_cons (se_op or_div (se_var 0) (se_var 2)) (sa_cons (se_op or_div (se_var 1) (se_var 2)) sa_nil))))
  ss_nil)))
theorem c_ratio_with (T : Tx K mg) : Cal P w K mg base 2 2 "ratio_with" d_ratio_with := by
  obtain ⟨f, fd, F, hm, hk, hb, _⟩ := T.f_ratio_with
  exact ⟨f, fd, ["number", "under"], FF_ratio_with T F, hm, hk, hb⟩
theorem FF_ratio_product (T : Tx K mg) {f : Addr} {fd : FuncData} (F : Fun K "ratio_product" "ratio_product" s_ratio_product f fd) : FnG P w K mg base 3 f fd ["one", "two"] (spD K mg 2 d_ratio_product) := by
  have sc : FnScope ["one", "two"] ["one", "two"] (defScope s_ratio_product) := ⟨rfl, rfl, rfl, by decide +kernel, rfl, by decide +kernel, by decide +kernel⟩
  have nd := sc.nd
  refine fnG_of (k := 2) (M := mF) F sc (by decide) (fun cdv A outer s H E hr hgd => ?_)
  have hu := room64 hr
  have hu1 := room65 hr
  have hc : (cxOf (L2.CX P w) P w K mg base ["one", "two"] "ratio_product" (defScope s_ratio_product) f cdv A outer s H E).calm = true := rfl
  exact (ss_cons (s1_ret (se_callW (c_ratio_with T) (hr.mono (by decide)) hgd tk_def (sw_cons (se_fz (se_op or_mul (se_at 0 se_int) (se_at 1 se_int))) (sw_cons (se_fz (se_op or_mul (se_at 0 se_int) (se_at 1 se_int))) sw_nil)) (wlen_cons (wlen_cons (fun _ _ _ z => wlen_nil z)))))
  ss_nil)
theorem c_ratio_product (T : Tx K mg) : Cal P w K mg base 3 2 "ratio_product" d_ratio_product := by
  obtain ⟨f, fd, F, hm, hk, hb, _⟩ := T.f_ratio_product
  exact ⟨f, fd, ["one", "two"], FF_ratio_product T F, hm, hk, hb⟩
theorem FF_ratio_sum (T : Tx K mg) {f : Addr} {fd : FuncData} (F : Fun K "ratio_sum" "ratio_sum" s_ratio_sum f fd) : FnG P w K mg base 3 f fd ["one", "two"] (spD K mg 2 d_ratio_sum) := by
  have sc : FnScope ["one", "two"] ["one", "two"] (defScope s_ratio_sum) := ⟨rfl, rfl, rfl, by decide +kernel, rfl, by decide +kernel, by decide +kernel⟩
  have nd := sc.nd
  refine fnG_of (k := 2) (M := mF) F sc (by decide) (fun cdv A outer s H E hr hgd => ?_)
  have hu := room64 hr
  have hu1 := room65 hr
  have hc : (cxOf (L2.CX P w) P w K mg base ["one", "two"] "ratio_sum" (defScope s_ratio_sum) f cdv A outer s H E).calm = true := rfl
  exact (ss_cons (s1_ret (se_callW (c_ratio_with T) (hr.mono (by decide)) hgd tk_def (sw_cons (se_fz (se_op or_add (se_op or_mul (se_at 0 se_int) (se_at 1 se_int)) (se_op or_mul (se_at 1 se_int) (se_at 0 se_int)))) (sw_cons (se_fz (se_op or_mul (se_at 0 se_int) (se_at 1 se_int))) sw_nil)) (wlen_cons (wlen_cons (fun _ _ _ z => wlen_nil z)))))
  ss_nil)
theorem c_ratio_sum (T : Tx K mg) : Cal P w K mg base 3 2 "ratio_sum" d_ratio_sum := by
  obtain ⟨f, fd, F, hm, hk, hb, _⟩ := T.f_ratio_sum
  exact ⟨f, fd, ["one", "two"], FF_ratio_sum T F, hm, hk, hb⟩
theorem FF_total_of (T : Tx K mg) {f : Addr} {fd : FuncData} (F : Fun K "total_of" "total_of" s_total_of f fd) : FnG P w K mg base 4 f fd ["numbers"] (spD K mg 1 d_total_of) := by
  have sc : FnScope ["numbers", "found", "number"] ["numbers"] (defScope s_total_of) := ⟨rfl, rfl, rfl, by decide +kernel, rfl, by decide +kernel, by decide +kernel⟩
  have nd := sc.nd
  refine fnG_of (k := 3) (M := mF) F sc (by decide) (fun cdv A outer s H E hr hgd => ?_)
  have hu := room64 hr
  have hu1 := room65 hr
  have hc : (cxOf (L2.CX P w) P w K mg base ["numbers", "found", "number"] "total_of" (defScope s_total_of) f cdv A outer s H E).calm = true := rfl
  exact (ss_cons (s1_set (i := 1) (se_fz (se_cst T.g_ZERO)) rfl nd)
  (ss_cons (s1_for ps_def hc (si_seq (se_var 0)) (sg_name (i := 2) rfl nd) (ss_cons (s1_set (i := 1) (se_fz (se_callW (c_ratio_sum T) (hr.mono (by decide)) hgd tk_def (sw_cons (se_fz (se_var 1)) (sw_cons (se_fz (se_var 2)) sw_nil)) (wlen_cons (wlen_cons (fun _ _ _ z => wlen_nil z))))) rfl nd)
  ss_nil))
  (ss_cons (s1_ret (se_move 1))
  ss_nil)))
theorem c_total_of (T : Tx K mg) : Cal P w K mg base 4 1 "total_of" d_total_of := by
  obtain ⟨f, fd, F, hm, hk, hb, _⟩ := T.f_total_of
  exact ⟨f, fd, ["numbers"], FF_total_of T F, hm, hk, hb⟩
theorem FF_dot (T : Tx K mg) {f : Addr} {fd : FuncData} (F : Fun K "dot" "dot" s_dot f fd) : FnG P w K mg base 5 f fd ["row", "other"] (spD K mg 2 d_dot) := by
  have sc : FnScope ["row", "other", "one", "two"] ["row", "other"] (defScope s_dot) := ⟨rfl, rfl, rfl, by decide +kernel, rfl, by decide +kernel, by decide +kernel⟩
  have nd := sc.nd
  refine fnG_of (k := 4) (M := mF) F sc (by decide) (fun cdv A outer s H E hr hgd => ?_)
  have hu := room64 hr
  have hu1 := room65 hr
  have hc : (cxOf (L2.CX P w) P w K mg base ["row", "other", "one", "two"] "dot" (defScope s_dot) f cdv A outer s H E).calm = true := rfl
  exact (ss_cons (s1_ret (se_callW (c_total_of T) (hr.mono (by decide)) hgd tk_def (sw_cons (se_fz (se_comp (by exact hc) (by exact nd) (si_zip T.z_zip (sa_cons (se_var 0) (sa_cons (se_var 1) sa_nil))) (blkOk_by (own := [("one", 2), ("two", 3)]) (by rfl)) (fun s0 H0 C0 cl0 fp0 => (sg_tup (by exact hc) (sgs_cons (sg_name (i := 2) rfl nd) (sgs_cons (sg_name (i := 3) rfl nd) sgs_nil)))) (fun s0 H0 C0 cl0 fp0 => st_nil) (fun s0 H0 C0 cl0 fp0 => (se_fz (se_callW (c_ratio_product T) (hr.mono (by decide)) hgd tk_EF (sw_cons (se_fz (se_var 2)) (sw_cons (se_fz (se_var 3)) sw_nil)) (wlen_cons (wlen_cons (fun _ _ _ z => wlen_nil z)))))))) sw_nil) (wlen_cons (fun _ _ _ z => wlen_nil z))))
  ss_nil)
theorem c_dot (T : Tx K mg) : Cal P w K mg base 5 2 "dot" d_dot := by
  obtain ⟨f, fd, F, hm, hk, hb, _⟩ := T.f_dot
  exact ⟨f, fd, ["row", "other"], FF_dot T F, hm, hk, hb⟩
theorem FF_is_held (T : Tx K mg) {f : Addr} {fd : FuncData} (F : Fun K "is_held" "is_held" s_is_held f fd) : FnG P w K mg base 6 f fd ["room", "place"] (spD K mg 2 d_is_held) := by
  have sc : FnScope ["room", "place", "row", "limit"] ["room", "place"] (defScope s_is_held) := ⟨rfl, rfl, rfl, by decide +kernel, rfl, by decide +kernel, by decide +kernel⟩
  have nd := sc.nd
  refine fnG_of (k := 5) (M := mF) F sc (by decide) (fun cdv A outer s H E hr hgd => ?_)
  have hu := room64 hr
  have hu1 := room65 hr
  have hc : (cxOf (L2.CX P w) P w K mg base ["room", "place", "row", "limit"] "is_held" (defScope s_is_held) f cdv A outer s H E).calm = true := rfl
  exact (ss_cons (s1_ret (se_not (se_callB (cr_any' (by exact hc)) T.z_any bt_any (sa_cons (se_comp (by exact hc) (by exact nd) (si_zip T.z_zip (sa_cons (se_at 0 se_int) (sa_cons (se_at 0 se_int) sa_nil))) (blkOk_by (own := [("row", 2), ("limit", 3)]) (by rfl)) (fun s0 H0 C0 cl0 fp0 => (sg_tup (by exact hc) (sgs_cons (sg_name (i := 2) rfl nd) (sgs_cons (sg_name (i := 3) rfl nd) sgs_nil)))) (fun s0 H0 C0 cl0 fp0 => st_nil) (fun s0 H0 C0 cl0 fp0 => (se_fz (se_callW (c_is_lower T) (hr.mono (by decide)) hgd tk_EF (sw_cons (se_fz (se_var 3)) (sw_cons (se_fz (se_callW (c_dot T) (hr.mono (by decide)) hgd tk_EF (sw_cons (se_fz (se_var 2)) (sw_cons (se_fz (se_var 1)) sw_nil)) (wlen_cons (wlen_cons (fun _ _ _ z => wlen_nil z))))) sw_nil)) (wlen_cons (wlen_cons (fun _ _ _ z => wlen_nil z))))))) sa_nil))))
  ss_nil)
theorem c_is_held (T : Tx K mg) : Cal P w K mg base 6 2 "is_held" d_is_held := by
  obtain ⟨f, fd, F, hm, hk, hb, _⟩ := T.f_is_held
  exact ⟨f, fd, ["room", "place"], FF_is_held T F, hm, hk, hb⟩
theorem FF_check_room (T : Tx K mg) {f : Addr} {fd : FuncData} (F : Fun K "check_room" "check_room" s_check_room f fd) : FnG P w K mg base 6 f fd ["value"] (spD K mg 1 d_check_room) := by
  have sc : FnScope ["value"] ["value"] (defScope s_check_room) := ⟨rfl, rfl, rfl, by decide +kernel, rfl, by decide +kernel, by decide +kernel⟩
  have nd := sc.nd
  refine fnG_of (k := 5) (M := mF) F sc (by decide) (fun cdv A outer s H E hr hgd => ?_)
  have hu := room64 hr
  have hu1 := room65 hr
  have hc : (cxOf (L2.CX P w) P w K mg base ["value"] "check_room" (defScope s_check_room) f cdv A outer s H E).calm = true := rfl
  exact (ss_cons (s1_if (st_not (st_val (se_callW (c_is_roomed T) (hr.mono (by decide)) hgd tk_def (sw_cons (se_fz (se_var 0)) sw_nil) (wlen_cons (fun _ _ _ z => wlen_nil z))))) (ss_cons s1_never
  ss_nil) ss_nil)
  ss_nil)
theorem c_check_room (T : Tx K mg) : Cal P w K mg base 6 1 "check_room" d_check_room := by
  obtain ⟨f, fd, F, hm, hk, hb, _⟩ := T.f_check_room
  exact ⟨f, fd, ["value"], FF_check_room T F, hm, hk, hb⟩
theorem FF_is_in (T : Tx K mg) {f : Addr} {fd : FuncData} (F : Fun K "is_in" "is_in" s_is_in f fd) : FnG P w K mg base 7 f fd ["room", "place"] (spD K mg 2 d_is_in) := by
  have sc : FnScope ["room", "place"] ["room", "place"] (defScope s_is_in) := ⟨rfl, rfl, rfl, by decide +kernel, rfl, by decide +kernel, by decide +kernel⟩
  have nd := sc.nd
  refine fnG_of (k := 6) (M := mF) F sc (by decide) (fun cdv A outer s H E hr hgd => ?_)
  have hu := room64 hr
  have hu1 := room65 hr
  have hc : (cxOf (L2.CX P w) P w K mg base ["room", "place"] "is_in" (defScope s_is_in) f cdv A outer s H E).calm = true := rfl
  exact (ss_cons (s1_drop (se_fz (se_callW (c_check_room T) (hr.mono (by decide)) hgd tk_def (sw_cons (se_fz (se_var 0)) sw_nil) (wlen_cons (fun _ _ _ z => wlen_nil z)))))
  (ss_cons (s1_drop (se_fz (se_callW (c_check_row_of T) (hr.mono (by decide)) hgd tk_def (sw_cons (se_fz (se_at 0 se_int)) (sw_cons (se_fz (se_var 1)) sw_nil)) (wlen_cons (wlen_cons (fun _ _ _ z => wlen_nil z))))))
  (ss_cons (s1_ret (se_callW (c_is_held T) (hr.mono (by decide)) hgd tk_def (sw_cons (se_fz (se_var 0)) (sw_cons (se_fz (se_var 1)) sw_nil)) (wlen_cons (wlen_cons (fun _ _ _ z => wlen_nil z)))))
  ss_nil)))
theorem c_is_in (T : Tx K mg) : Cal P w K mg base 7 2 "is_in" d_is_in := by
  obtain ⟨f, fd, F, hm, hk, hb, _⟩ := T.f_is_in
  exact ⟨f, fd, ["room", "place"], FF_is_in T F, hm, hk, hb⟩
theorem k_is_in__place_room (T : Tx K mg) : CalK P w K mg base 7 2 "is_in" d_is_in ["place", "room"] [1, 0] := by
  obtain ⟨f, fd, F, hm, hk, hb, kb⟩ := T.f_is_in
  exact ⟨f, fd, ["room", "place"], FF_is_in T F, hm, hk, kb⟩
theorem FF__law_deck (T : Tx K mg) {f : Addr} {fd : FuncData} (F : Fun K "_law_deck" "_law_deck" s__law_deck f fd) : FnG P w K mg base 1 f fd ["script", "turn", "salt"] (spD K mg 3 d__law_deck) := by
  have sc : FnScope ["script", "turn", "salt", "mixed", "cell", "great"] ["script", "turn", "salt"] (defScope s__law_deck) := ⟨rfl, rfl, rfl, by decide +kernel, rfl, by decide +kernel, by decide +kernel⟩
  have nd := sc.nd
  refine fnG_of (k := 0) (M := m0) F sc (by decide) (fun cdv A outer s H E hr hgd => ?_)
  have hu := room64 hr
  have hu1 := room65 hr
  have hc : (cxOf (L2.CX P w) P w K mg base ["script", "turn", "salt", "mixed", "cell", "great"] "_law_deck" (defScope s__law_deck) f cdv A outer s H E).calm = true := rfl
  exact (ss_cons (s1_set (i := 3) (se_fz (se_op or_add (se_var 2) (se_op or_mul se_int (se_var 1)))) rfl nd)
  (ss_cons (s1_for ps_def hc (si_seq (se_cutS 0)) (sg_name (i := 4) rfl nd) (ss_cons (s1_set (i := 3) (se_fz (se_op or_mod (se_callTy (cr_int) T.z_int bt_int (sa_cons (se_op or_add (se_op or_add (se_op or_mul (se_var 3) se_int) (se_op or_mul (se_op or_mod (se_callTy (cr_int) T.z_int bt_int (sa_cons (se_var 4) sa_nil)) se_int) se_int)) se_int) sa_nil)) se_int)) rfl nd)
  ss_nil))
  (ss_cons (s1_set (i := 5) (se_fz (se_if (st_cmp or_lt (se_var 1) (se_lenAt 0 T.z_len)) (se_callB (cr_abs) T.z_abs bt_abs (sa_cons (se_callTy (cr_int) T.z_int bt_int (sa_cons (se_at 0 (se_var 1)) sa_nil)) sa_nil)) se_int)) rfl nd)
  (ss_cons (s1_ret (se_lst (sa_cons (se_if (st_cmp or_ge (se_var 5) (se_op or_pow se_int se_int)) (se_var 5) se_int) (sa_cons (se_var 3) (sa_cons (se_var 2) sa_nil)))))
  ss_nil))))
theorem c__law_deck (T : Tx K mg) : Cal P w K mg base 1 3 "_law_deck" d__law_deck := by
  obtain ⟨f, fd, F, hm, hk, hb, _⟩ := T.f__law_deck
  exact ⟨f, fd, ["script", "turn", "salt"], FF__law_deck T F, hm, hk, hb⟩
theorem FF__law_roll (T : Tx K mg) {f : Addr} {fd : FuncData} (F : Fun K "_law_roll" "_law_roll" s__law_roll f fd) : FnG P w K mg base 1 f fd ["deck", "width"] (spD K mg 2 d__law_roll) := by
  have sc : FnScope ["deck", "width", "figure"] ["deck", "width"] (defScope s__law_roll) := ⟨rfl, rfl, rfl, by decide +kernel, rfl, by decide +kernel, by decide +kernel⟩
  have nd := sc.nd
  refine fnG_of (k := 0) (M := m0) F sc (by decide) (fun cdv A outer s H E hr hgd => ?_)
  have hu := room64 hr
  have hu1 := room65 hr
  have hc : (cxOf (L2.CX P w) P w K mg base ["deck", "width", "figure"] "_law_roll" (defScope s__law_roll) f cdv A outer s H E).calm = true := rfl
  exact (ss_cons (s1_if (st_cmp or_gt (se_at 0 se_int) se_int) (ss_cons (s1_set (i := 2) (se_fz (se_op or_mod (se_callTy (cr_int) T.z_int bt_int (sa_cons (se_at 0 se_int) sa_nil)) (se_var 1))) rfl nd)
  (ss_cons (s1_asgW (se_fz (se_op or_div (se_at 0 se_int) (se_var 1))) (sw_at 0 sx_int))
  (ss_cons (s1_ret (se_move 2))
  ss_nil))) ss_nil)
  (ss_cons (s1_asgW (se_fz (se_op or_mod (se_callTy (cr_int) T.z_int bt_int (sa_cons (se_op or_add (se_op or_mul (se_at 0 se_int) se_int) se_int) sa_nil)) se_int)) (sw_at 0 sx_int))
  (ss_cons (s1_asgW (se_fz (se_op or_mod (se_callTy (cr_int) T.z_int bt_int (sa_cons (se_op or_add (se_op or_add (se_op or_mul (se_at 0 se_int) se_int) (se_at 0 se_int)) se_int) sa_nil)) se_int)) (sw_at 0 sx_int))
  (ss_cons (s1_ret (se_op or_mod (se_callTy (cr_int) T.z_int bt_int (sa_cons (se_op or_div (se_at 0 se_int) se_int) sa_nil)) (se_var 1)))
  ss_nil))))
theorem c__law_roll (T : Tx K mg) : Cal P w K mg base 1 2 "_law_roll" d__law_roll := by
  obtain ⟨f, fd, F, hm, hk, hb, _⟩ := T.f__law_roll
  exact ⟨f, fd, ["deck", "width"], FF__law_roll T F, hm, hk, hb⟩
theorem FF__law_pick (T : Tx K mg) {f : Addr} {fd : FuncData} (F : Fun K "_law_pick" "_law_pick" s__law_pick f fd) : FnG P w K mg base 2 f fd ["deck", "some"] (spD K mg 2 d__law_pick) := by
  have sc : FnScope ["deck", "some"] ["deck", "some"] (defScope s__law_pick) := ⟨rfl, rfl, rfl, by decide +kernel, rfl, by decide +kernel, by decide +kernel⟩
  have nd := sc.nd
  refine fnG_of (k := 1) (M := m0) F sc (by decide) (fun cdv A outer s H E hr hgd => ?_)
  have hu := room64 hr
  have hu1 := room65 hr
  have hc : (cxOf (L2.CX P w) P w K mg base ["deck", "some"] "_law_pick" (defScope s__law_pick) f cdv A outer s H E).calm = true := rfl
  exact (ss_cons (s1_ret (se_at 1 (se_callA (c__law_roll T) 0 (hr.mono (by decide)) hgd tk_def (sw_cons (se_fz (se_lenAt 1 T.z_len)) sw_nil) (fun ρ ws r z => congrArg Nat.succ ((wlen_cons (fun _ _ _ z => wlen_nil z)) ρ ws r z)))))
  ss_nil)
theorem c__law_pick (T : Tx K mg) : Cal P w K mg base 2 2 "_law_pick" d__law_pick := by
  obtain ⟨f, fd, F, hm, hk, hb, _⟩ := T.f__law_pick
  exact ⟨f, fd, ["deck", "some"], FF__law_pick T F, hm, hk, hb⟩
theorem FF__law_odd (T : Tx K mg) {f : Addr} {fd : FuncData} (F : Fun K "_law_odd" "_law_odd" s__law_odd f fd) : FnG P w K mg base 3 f fd ["deck"] (spD K mg 1 d__law_odd) := by
  have sc : FnScope ["deck", "some"] ["deck"] (defScope s__law_odd) := ⟨rfl, rfl, rfl, by decide +kernel, rfl, by decide +kernel, by decide +kernel⟩
  have nd := sc.nd
  refine fnG_of (k := 2) (M := m0) F sc (by decide) (fun cdv A outer s H E hr hgd => ?_)
  have hu := room64 hr
  have hu1 := room65 hr
  have hc : (cxOf (L2.CX P w) P w K mg base ["deck", "some"] "_law_odd" (defScope s__law_odd) f cdv A outer s H E).calm = true := rfl
  exact (ss_cons (s1_set (i := 1) (se_fz (se_lst (sa_cons se_non (sa_cons se_bl (sa_cons se_bl (sa_cons se_int (sa_cons se_int (sa_cons (se_neg se_int) (sa_cons se_int (sa_cons (se_op or_pow se_int se_int) (sa_cons se_str (sa_cons se_str (sa_cons se_str (sa_cons (se_tup sa_nil) (sa_cons (se_tup (sa_cons se_int sa_nil)) (sa_cons (se_tup (sa_cons se_int (sa_cons se_int sa_nil))) (sa_cons (se_tup (sa_cons se_int (sa_cons se_int sa_nil))) (sa_cons (se_tup (sa_cons se_int (sa_cons se_int sa_nil))) (sa_cons (se_tup (sa_cons (se_tup (sa_cons se_int (sa_cons se_int sa_nil))) sa_nil)) sa_nil))))))))))))))))))) rfl nd)
  (ss_cons (s1_set (i := 1) (se_fz (se_op or_add (se_var 1) (se_lst (sa_cons (se_tup (sa_cons (se_tup (sa_cons (se_tup (sa_cons se_int (sa_cons se_int sa_nil))) sa_nil)) sa_nil)) (sa_cons (se_tup (sa_cons (se_tup (sa_cons (se_tup (sa_cons se_bl (sa_cons se_int sa_nil))) sa_nil)) sa_nil)) (sa_cons (se_tup (sa_cons (se_tup (sa_cons (se_tup (sa_cons se_int (sa_cons se_int sa_nil))) sa_nil)) sa_nil)) (sa_cons (se_tup (sa_cons (se_tup (sa_cons (se_tup (sa_cons se_int (sa_cons se_int sa_nil))) sa_nil)) sa_nil)) (sa_cons (se_lst sa_nil) (sa_cons (se_lst (sa_cons se_int (sa_cons se_int sa_nil))) (sa_cons (se_lst (sa_cons (se_tup (sa_cons se_int (sa_cons se_int sa_nil))) sa_nil)) (sa_cons se_dict0 (sa_cons se_dict1 sa_nil)))))))))))) rfl nd)
  (ss_cons (s1_set (i := 1) (se_fz (se_op or_add (se_var 1) (se_lst (sa_cons (se_tup (sa_cons se_non sa_nil)) (sa_cons (se_tup (sa_cons (se_tup sa_nil) sa_nil)) (sa_cons (se_tup (sa_cons se_str (sa_cons se_int sa_nil))) (sa_cons (se_tup (sa_cons (se_tup (sa_cons se_int (sa_cons se_int sa_nil))) (sa_cons (se_tup (sa_cons se_int (sa_cons se_int sa_nil))) sa_nil))) (sa_cons (se_tup (sa_cons se_int (sa_cons (se_tup sa_nil) (sa_cons (se_tup sa_nil) sa_nil)))) (sa_cons (se_tup (sa_cons se_int (sa_cons (se_tup sa_nil) (sa_cons (se_tup sa_nil) sa_nil)))) (sa_cons (se_tup (sa_cons se_bl (sa_cons (se_tup sa_nil) (sa_cons (se_tup sa_nil) sa_nil)))) (sa_cons (se_tup (sa_cons se_int (sa_cons (se_tup sa_nil) (sa_cons (se_tup sa_nil) sa_nil)))) sa_nil))))))))))) rfl nd)
  (ss_cons (s1_ret (se_callA (c__law_pick T) 0 (hr.mono (by decide)) hgd tk_def (sw_cons (se_fz (se_var 1)) sw_nil) (fun ρ ws r z => congrArg Nat.succ ((wlen_cons (fun _ _ _ z => wlen_nil z)) ρ ws r z))))
  ss_nil))))
theorem c__law_odd (T : Tx K mg) : Cal P w K mg base 3 1 "_law_odd" d__law_odd := by
  obtain ⟨f, fd, F, hm, hk, hb, _⟩ := T.f__law_odd
  exact ⟨f, fd, ["deck"], FF__law_odd T F, hm, hk, hb⟩
theorem FF__law_gcd (T : Tx K mg) {f : Addr} {fd : FuncData} (F : Fun K "_law_gcd" "_law_gcd" s__law_gcd f fd) : FnG P w K mg base 1 f fd ["one", "two"] (spD K mg 2 d__law_gcd) := by
  have sc : FnScope ["one", "two"] ["one", "two"] (defScope s__law_gcd) := ⟨rfl, rfl, rfl, by decide +kernel, rfl, by decide +kernel, by decide +kernel⟩
  have nd := sc.nd
  refine fnG_of (k := 0) (M := mF) F sc (by decide) (fun cdv A outer s H E hr hgd => ?_)
  have hu := room64 hr
  have hu1 := room65 hr
  have hc : (cxOf (L2.CX P w) P w K mg base ["one", "two"] "_law_gcd" (defScope s__law_gcd) f cdv A outer s H E).calm = true := rfl
  exact (ss_cons (s1_while ps_def (st_cmp or_gt (se_var 1) se_int) (ss_cons (s1_par (i := 0) (j := 1) hc (sw_cons (se_fz (se_var 1)) (sw_cons (se_fz (se_op or_mod (se_callTy (cr_int) T.z_int bt_int (sa_cons (se_var 0) sa_nil)) (se_var 1))) sw_nil)) nd)
  ss_nil))
  (ss_cons (s1_ret (se_move 0))
  ss_nil))
theorem c__law_gcd (T : Tx K mg) : Cal P w K mg base 1 2 "_law_gcd" d__law_gcd := by
  obtain ⟨f, fd, F, hm, hk, hb, _⟩ := T.f__law_gcd
  exact ⟨f, fd, ["one", "two"], FF__law_gcd T F, hm, hk, hb⟩
theorem FF__law_frac (T : Tx K mg) {f : Addr} {fd : FuncData} (F : Fun K "_law_frac" "_law_frac" s__law_frac f fd) : FnG P w K mg base 2 f fd ["top", "down"] (spD K mg 2 d__law_frac) := by
  have sc : FnScope ["top", "down", "sign", "common"] ["top", "down"] (defScope s__law_frac) := ⟨rfl, rfl, rfl, by decide +kernel, rfl, by decide +kernel, by decide +kernel⟩
  have nd := sc.nd
  refine fnG_of (k := 1) (M := mF) F sc (by decide) (fun cdv A outer s H E hr hgd => ?_)
  have hu := room64 hr
  have hu1 := room65 hr
  have hc : (cxOf (L2.CX P w) P w K mg base ["top", "down", "sign", "common"] "_law_frac" (defScope s__law_frac) f cdv A outer s H E).calm = true := rfl
  exact (ss_cons (s1_set (i := 2) (se_fz (se_if (st_cmp or_lt (se_var 1) se_int) (se_neg se_int) se_int)) rfl nd)
  (ss_cons (s1_set (i := 3) (se_fz (se_callW (c__law_gcd T) (hr.mono (by decide)) hgd tk_def (sw_cons (se_fz (se_callB (cr_abs) T.z_abs bt_abs (sa_cons (se_var 1) sa_nil))) (sw_cons (se_fz (se_callB (cr_abs) T.z_abs bt_abs (sa_cons (se_var 0) sa_nil))) sw_nil)) (wlen_cons (wlen_cons (fun _ _ _ z => wlen_nil z))))) rfl nd)
  (ss_cons (s1_ret (se_tup (sa_cons (se_op or_div (se_op or_mul (se_var 2) (se_var 0)) (se_var 3)) (sa_cons (se_op or_div (se_op or_mul (se_var 2) (se_var 1)) (se_var 3)) sa_nil))))
  ss_nil)))
theorem c__law_frac (T : Tx K mg) : Cal P w K mg base 2 2 "_law_frac" d__law_frac := by
  obtain ⟨f, fd, F, hm, hk, hb, _⟩ := T.f__law_frac
  exact ⟨f, fd, ["top", "down"], FF__law_frac T F, hm, hk, hb⟩
theorem FF__law_spot (T : Tx K mg) {f : Addr} {fd : FuncData} (F : Fun K "_law_spot" "_law_spot" s__law_spot f fd) : FnG P w K mg base 3 f fd ["deck", "size"] (spD K mg 2 d__law_spot) := by
  have sc : FnScope ["deck", "size", "down", "found", "turn"] ["deck", "size"] (defScope s__law_spot) := ⟨rfl, rfl, rfl, by decide +kernel, rfl, by decide +kernel, by decide +kernel⟩
  have nd := sc.nd
  refine fnG_of (k := 2) (M := m0) F sc (by decide) (fun cdv A outer s H E hr hgd => ?_)
  have hu := room64 hr
  have hu1 := room65 hr
  have hc : (cxOf (L2.CX P w) P w K mg base ["deck", "size", "down", "found", "turn"] "_law_spot" (defScope s__law_spot) f cdv A outer s H E).calm = true := rfl
  exact (ss_cons (s1_par (i := 2) (j := 3) hc (sw_cons (se_fz (se_op or_add se_int (se_op or_div (se_callA (c__law_roll T) 0 (hr.mono (by decide)) hgd tk_def (sw_cons (se_fz se_int) sw_nil) (fun ρ ws r z => congrArg Nat.succ ((wlen_cons (fun _ _ _ z => wlen_nil z)) ρ ws r z))) se_int))) (sw_cons (se_lst sa_nil) sw_nil)) nd)
  (ss_cons (s1_for ps_def hc (si_range1 T.z_range (sa_cons (se_var 1) sa_nil)) (sg_name (i := 4) rfl nd) (ss_cons (s1_app 3 (se_fz (se_callW (c__law_frac T) (hr.mono (by decide)) hgd tk_def (sw_cons (se_fz (se_op or_sub (se_callA (c__law_roll T) 0 (hr.mono (by decide)) hgd tk_def (sw_cons (se_fz se_int) sw_nil) (fun ρ ws r z => congrArg Nat.succ ((wlen_cons (fun _ _ _ z => wlen_nil z)) ρ ws r z))) se_int)) (sw_cons (se_fz (se_var 2)) sw_nil)) (wlen_cons (wlen_cons (fun _ _ _ z => wlen_nil z))))))
  ss_nil))
  (ss_cons (s1_ret (se_callTy (cr_tuple) T.z_tuple bt_tuple (sa_cons (se_var 3) sa_nil)))
  ss_nil)))
theorem c__law_spot (T : Tx K mg) : Cal P w K mg base 3 2 "_law_spot" d__law_spot := by
  obtain ⟨f, fd, F, hm, hk, hb, _⟩ := T.f__law_spot
  exact ⟨f, fd, ["deck", "size"], FF__law_spot T F, hm, hk, hb⟩
theorem FF__law_wholes (T : Tx K mg) {f : Addr} {fd : FuncData} (F : Fun K "_law_wholes" "_law_wholes" s__law_wholes f fd) : FnG P w K mg base 2 f fd ["deck", "size", "low", "width"] (spD K mg 4 d__law_wholes) := by
  have sc : FnScope ["deck", "size", "low", "width", "found", "turn"] ["deck", "size", "low", "width"] (defScope s__law_wholes) := ⟨rfl, rfl, rfl, by decide +kernel, rfl, by decide +kernel, by decide +kernel⟩
  have nd := sc.nd
  refine fnG_of (k := 1) (M := m0) F sc (by decide) (fun cdv A outer s H E hr hgd => ?_)
  have hu := room64 hr
  have hu1 := room65 hr
  have hc : (cxOf (L2.CX P w) P w K mg base ["deck", "size", "low", "width", "found", "turn"] "_law_wholes" (defScope s__law_wholes) f cdv A outer s H E).calm = true := rfl
  exact (ss_cons (s1_set (i := 4) (se_lst sa_nil) rfl nd)
  (ss_cons (s1_for ps_def hc (si_range1 T.z_range (sa_cons (se_var 1) sa_nil)) (sg_name (i := 5) rfl nd) (ss_cons (s1_app 4 (se_fz (se_op or_add (se_var 2) (se_callA (c__law_roll T) 0 (hr.mono (by decide)) hgd tk_def (sw_cons (se_fz (se_var 3)) sw_nil) (fun ρ ws r z => congrArg Nat.succ ((wlen_cons (fun _ _ _ z => wlen_nil z)) ρ ws r z))))))
  ss_nil))
  (ss_cons (s1_ret (se_move 4))
  ss_nil)))
theorem c__law_wholes (T : Tx K mg) : Cal P w K mg base 2 4 "_law_wholes" d__law_wholes := by
  obtain ⟨f, fd, F, hm, hk, hb, _⟩ := T.f__law_wholes
  exact ⟨f, fd, ["deck", "size", "low", "width"], FF__law_wholes T F, hm, hk, hb⟩
theorem FF__law_plus (T : Tx K mg) {f : Addr} {fd : FuncData} (F : Fun K "_law_plus" "_law_plus" s__law_plus f fd) : FnG P w K mg base 3 f fd ["one", "two"] (spD K mg 2 d__law_plus) := by
  have sc : FnScope ["one", "two"] ["one", "two"] (defScope s__law_plus) := ⟨rfl, rfl, rfl, by decide +kernel, rfl, by decide +kernel, by decide +kernel⟩
  have nd := sc.nd
  refine fnG_of (k := 2) (M := mF) F sc (by decide) (fun cdv A outer s H E hr hgd => ?_)
  have hu := room64 hr
  have hu1 := room65 hr
  have hc : (cxOf (L2.CX P w) P w K mg base ["one", "two"] "_law_plus" (defScope s__law_plus) f cdv A outer s H E).calm = true := rfl
  exact (ss_cons (s1_ret (se_callW (c__law_frac T) (hr.mono (by decide)) hgd tk_def (sw_cons (se_fz (se_op or_add (se_op or_mul (se_at 0 se_int) (se_at 1 se_int)) (se_op or_mul (se_at 1 se_int) (se_at 0 se_int)))) (sw_cons (se_fz (se_op or_mul (se_at 0 se_int) (se_at 1 se_int))) sw_nil)) (wlen_cons (wlen_cons (fun _ _ _ z => wlen_nil z)))))
  ss_nil)
theorem c__law_plus (T : Tx K mg) : Cal P w K mg base 3 2 "_law_plus" d__law_plus := by
  obtain ⟨f, fd, F, hm, hk, hb, _⟩ := T.f__law_plus
  exact ⟨f, fd, ["one", "two"], FF__law_plus T F, hm, hk, hb⟩
theorem FF__law_times (T : Tx K mg) {f : Addr} {fd : FuncData} (F : Fun K "_law_times" "_law_times" s__law_times f fd) : FnG P w K mg base 3 f fd ["one", "two"] (spD K mg 2 d__law_times) := by
  have sc : FnScope ["one", "two"] ["one", "two"] (defScope s__law_times) := ⟨rfl, rfl, rfl, by decide +kernel, rfl, by decide +kernel, by decide +kernel⟩
  have nd := sc.nd
  refine fnG_of (k := 2) (M := mF) F sc (by decide) (fun cdv A outer s H E hr hgd => ?_)
  have hu := room64 hr
  have hu1 := room65 hr
  have hc : (cxOf (L2.CX P w) P w K mg base ["one", "two"] "_law_times" (defScope s__law_times) f cdv A outer s H E).calm = true := rfl
  exact (ss_cons (s1_ret (se_callW (c__law_frac T) (hr.mono (by decide)) hgd tk_def (sw_cons (se_fz (se_op or_mul (se_at 0 se_int) (se_at 1 se_int))) (sw_cons (se_fz (se_op or_mul (se_at 0 se_int) (se_at 1 se_int))) sw_nil)) (wlen_cons (wlen_cons (fun _ _ _ z => wlen_nil z)))))
  ss_nil)
theorem c__law_times (T : Tx K mg) : Cal P w K mg base 3 2 "_law_times" d__law_times := by
  obtain ⟨f, fd, F, hm, hk, hb, _⟩ := T.f__law_times
  exact ⟨f, fd, ["one", "two"], FF__law_times T F, hm, hk, hb⟩
theorem FF__law_dot (T : Tx K mg) {f : Addr} {fd : FuncData} (F : Fun K "_law_dot" "_law_dot" s__law_dot f fd) : FnG P w K mg base 4 f fd ["one", "two"] (spD K mg 2 d__law_dot) := by
  have sc : FnScope ["one", "two", "total", "left", "right"] ["one", "two"] (defScope s__law_dot) := ⟨rfl, rfl, rfl, by decide +kernel, rfl, by decide +kernel, by decide +kernel⟩
  have nd := sc.nd
  refine fnG_of (k := 3) (M := mF) F sc (by decide) (fun cdv A outer s H E hr hgd => ?_)
  have hu := room64 hr
  have hu1 := room65 hr
  have hc : (cxOf (L2.CX P w) P w K mg base ["one", "two", "total", "left", "right"] "_law_dot" (defScope s__law_dot) f cdv A outer s H E).calm = true := rfl
  exact (ss_cons (s1_set (i := 2) (se_fz (se_tup (sa_cons se_int (sa_cons se_int sa_nil)))) rfl nd)
  (ss_cons (s1_for ps_def hc (si_zip T.z_zip (sa_cons (se_var 0) (sa_cons (se_var 1) sa_nil))) (sg_tup (by exact hc) (sgs_cons (sg_name (i := 3) rfl nd) (sgs_cons (sg_name (i := 4) rfl nd) sgs_nil))) (ss_cons (s1_set (i := 2) (se_fz (se_callW (c__law_plus T) (hr.mono (by decide)) hgd tk_def (sw_cons (se_fz (se_var 2)) (sw_cons (se_fz (se_callW (c__law_times T) (hr.mono (by decide)) hgd tk_def (sw_cons (se_fz (se_var 3)) (sw_cons (se_fz (se_var 4)) sw_nil)) (wlen_cons (wlen_cons (fun _ _ _ z => wlen_nil z))))) sw_nil)) (wlen_cons (wlen_cons (fun _ _ _ z => wlen_nil z))))) rfl nd)
  ss_nil))
  (ss_cons (s1_ret (se_move 2))
  ss_nil)))
theorem c__law_dot (T : Tx K mg) : Cal P w K mg base 4 2 "_law_dot" d__law_dot := by
  obtain ⟨f, fd, F, hm, hk, hb, _⟩ := T.f__law_dot
  exact ⟨f, fd, ["one", "two"], FF__law_dot T F, hm, hk, hb⟩
theorem FF__law_hall (T : Tx K mg) {f : Addr} {fd : FuncData} (F : Fun K "_law_hall" "_law_hall" s__law_hall f fd) : FnG P w K mg base 5 f fd ["deck", "size", "most", "spot"] (spD K mg 4 d__law_hall) := by
  have sc : FnScope ["deck", "size", "most", "spot", "way", "down", "lines", "tops", "turn", "whole", "line", "at", "x"] ["deck", "size", "most", "spot"] (defScope s__law_hall) := ⟨rfl, rfl, rfl, by decide +kernel, rfl, by decide +kernel, by decide +kernel⟩
  have nd := sc.nd
  refine fnG_of (k := 4) (M := m0) F sc (by decide) (fun cdv A outer s H E hr hgd => ?_)
  have hu := room64 hr
  have hu1 := room65 hr
  have hc : (cxOf (L2.CX P w) P w K mg base ["deck", "size", "most", "spot", "way", "down", "lines", "tops", "turn", "whole", "line", "at", "x"] "_law_hall" (defScope s__law_hall) f cdv A outer s H E).calm = true := rfl
  exact (ss_cons (s1_tupW hc (sw_cons (se_fz (se_callA (c__law_roll T) 0 (hr.mono (by decide)) hgd tk_def (sw_cons (se_fz se_int) sw_nil) (fun ρ ws r z => congrArg Nat.succ ((wlen_cons (fun _ _ _ z => wlen_nil z)) ρ ws r z)))) (sw_cons (se_fz (se_callA (c__law_pick T) 0 (hr.mono (by decide)) hgd tk_def (sw_cons (se_fz (se_lst (sa_cons se_int (sa_cons se_int (sa_cons se_int sa_nil))))) sw_nil) (fun ρ ws r z => congrArg Nat.succ ((wlen_cons (fun _ _ _ z => wlen_nil z)) ρ ws r z)))) (sw_cons (se_lst sa_nil) (sw_cons (se_lst sa_nil) sw_nil)))) (sws_cons (sw_name (i := 4) rfl nd) (sws_cons (sw_name (i := 5) rfl nd) (sws_cons (sw_name (i := 6) rfl nd) (sws_cons (sw_name (i := 7) rfl nd) sws_nil)))))
  (ss_cons (s1_for ps_def hc (si_range1 T.z_range (sa_cons (se_callA (c__law_roll T) 0 (hr.mono (by decide)) hgd tk_def (sw_cons (se_fz (se_op or_add (se_var 2) se_int)) sw_nil) (fun ρ ws r z => congrArg Nat.succ ((wlen_cons (fun _ _ _ z => wlen_nil z)) ρ ws r z))) sa_nil)) (sg_name (i := 8) rfl nd) (ss_cons (s1_set (i := 9) (se_fz (se_callA (c__law_wholes T) 0 (hr.mono (by decide)) hgd tk_def (sw_cons (se_fz (se_var 1)) (sw_cons (se_fz (se_neg se_int)) (sw_cons (se_fz se_int) sw_nil))) (fun ρ ws r z => congrArg Nat.succ ((wlen_cons (wlen_cons (wlen_cons (fun _ _ _ z => wlen_nil z)))) ρ ws r z)))) rfl nd)
  (ss_cons (s1_if (st_cmp (or_eq hu) (se_var 4) se_int) (ss_cons (s1_setLcF (i := 9) (by exact hc) (by exact nd) (L2.sw_true (by rfl) (by rfl) (by rfl) (by rfl)) (si_range1 T.z_range (sa_cons (se_var 1) sa_nil)) (blkOk_by (own := [("at", 11)]) (by rfl)) (fun s0 H0 C0 cl0 fp0 => (sg_name (i := 11) rfl nd)) (fun s0 H0 C0 cl0 fp0 => st_nil) (fun s0 H0 C0 cl0 fp0 => (se_fz (se_op or_mul (se_op or_sub se_int (se_op or_mul (se_op or_mod (se_var 8) se_int) se_int)) (se_callTy (cr_int) T.z_int bt_int (sa_cons (se_cmp (or_eq hu) (se_var 11) (se_op or_mod (se_op or_div (se_var 8) se_int) (se_var 1))) sa_nil))))))
  ss_nil) ss_nil)
  (ss_cons (s1_set (i := 10) (se_fz (se_callTy (cr_tuple) T.z_tuple bt_tuple (sa_cons (se_comp (by exact hc) (by exact nd) (si_seq (se_var 9)) (blkOk_by (own := [("x", 12)]) (by rfl)) (fun s0 H0 C0 cl0 fp0 => (sg_name (i := 12) rfl nd)) (fun s0 H0 C0 cl0 fp0 => st_nil) (fun s0 H0 C0 cl0 fp0 => (se_fz (se_callW (c__law_frac T) (hr.mono (by decide)) hgd tk_EF (sw_cons (se_fz (se_var 12)) (sw_cons (se_fz (se_var 5)) sw_nil)) (wlen_cons (wlen_cons (fun _ _ _ z => wlen_nil z))))))) sa_nil))) rfl nd)
  (ss_cons (s1_if (SW.T (sw_and (st_cmp (or_eq hu) (se_var 4) se_int) (sw_and1 (st_cmp (or_eq hu) (se_op or_mod (se_var 8) se_int) se_int)))) (ss_cons (s1_set (i := 10) (se_fz (se_callTy (cr_tuple) T.z_tuple bt_tuple (sa_cons (se_comp (by exact hc) (by exact nd) (si_seq (se_at 6 (se_neg se_int))) (blkOk_by (own := [("x", 12)]) (by rfl)) (fun s0 H0 C0 cl0 fp0 => (sg_name (i := 12) rfl nd)) (fun s0 H0 C0 cl0 fp0 => st_nil) (fun s0 H0 C0 cl0 fp0 => (se_fz (se_tup (sa_cons (se_neg (se_at 12 se_int)) (sa_cons (se_at 12 se_int) sa_nil)))))) sa_nil))) rfl nd)
  ss_nil) ss_nil)
  (ss_cons (s1_app 6 (se_fz (se_var 10)))
  (ss_cons (s1_app 7 (se_fz (se_callW (c__law_plus T) (hr.mono (by decide)) hgd tk_def (sw_cons (se_fz (se_callW (c__law_dot T) (hr.mono (by decide)) hgd tk_def (sw_cons (se_fz (se_var 10)) (sw_cons (se_fz (se_var 3)) sw_nil)) (wlen_cons (wlen_cons (fun _ _ _ z => wlen_nil z))))) (sw_cons (se_fz (se_callA (c__law_pick T) 0 (hr.mono (by decide)) hgd tk_def (sw_cons (se_fz (se_lst (sa_cons (se_tup (sa_cons se_int (sa_cons se_int sa_nil))) (sa_cons (se_tup (sa_cons se_int (sa_cons se_int sa_nil))) (sa_cons (se_tup (sa_cons se_int (sa_cons se_int sa_nil))) (sa_cons (se_tup (sa_cons se_int (sa_cons se_int sa_nil))) (sa_cons (se_tup (sa_cons se_int (sa_cons se_int sa_nil))) (sa_cons (se_tup (sa_cons se_int (sa_cons se_int sa_nil))) sa_nil)))))))) sw_nil) (fun ρ ws r z => congrArg Nat.succ ((wlen_cons (fun _ _ _ z => wlen_nil z)) ρ ws r z)))) sw_nil)) (wlen_cons (wlen_cons (fun _ _ _ z => wlen_nil z))))))
  ss_nil)))))))
  (ss_cons (s1_ret (se_tup (sa_cons (se_var 1) (sa_cons (se_callTy (cr_tuple) T.z_tuple bt_tuple (sa_cons (se_var 6) sa_nil)) (sa_cons (se_callTy (cr_tuple) T.z_tuple bt_tuple (sa_cons (se_var 7) sa_nil)) sa_nil)))))
  ss_nil)))
theorem c__law_hall (T : Tx K mg) : Cal P w K mg base 5 4 "_law_hall" d__law_hall := by
  obtain ⟨f, fd, F, hm, hk, hb, _⟩ := T.f__law_hall
  exact ⟨f, fd, ["deck", "size", "most", "spot"], FF__law_hall T F, hm, hk, hb⟩
theorem FF__law_under (T : Tx K mg) {f : Addr} {fd : FuncData} (F : Fun K "_law_under" "_law_under" s__law_under f fd) : FnG P w K mg base 1 f fd ["one", "two"] (spD K mg 2 d__law_under) := by
  have sc : FnScope ["one", "two"] ["one", "two"] (defScope s__law_under) := ⟨rfl, rfl, rfl, by decide +kernel, rfl, by decide +kernel, by decide +kernel⟩
  have nd := sc.nd
  refine fnG_of (k := 0) (M := mF) F sc (by decide) (fun cdv A outer s H E hr hgd => ?_)
  have hu := room64 hr
  have hu1 := room65 hr
  have hc : (cxOf (L2.CX P w) P w K mg base ["one", "two"] "_law_under" (defScope s__law_under) f cdv A outer s H E).calm = true := rfl
  exact (ss_cons (s1_ret (se_cmp or_lt (se_op or_mul (se_at 0 se_int) (se_at 1 se_int)) (se_op or_mul (se_at 1 se_int) (se_at 0 se_int))))
  ss_nil)
theorem c__law_under (T : Tx K mg) : Cal P w K mg base 1 2 "_law_under" d__law_under := by
  obtain ⟨f, fd, F, hm, hk, hb, _⟩ := T.f__law_under
  exact ⟨f, fd, ["one", "two"], FF__law_under T F, hm, hk, hb⟩
theorem FF__law_inside (T : Tx K mg) {f : Addr} {fd : FuncData} (F : Fun K "_law_inside" "_law_inside" s__law_inside f fd) : FnG P w K mg base 5 f fd ["hall", "spot"] (spD K mg 2 d__law_inside) := by
  have sc : FnScope ["hall", "spot", "k"] ["hall", "spot"] (defScope s__law_inside) := ⟨rfl, rfl, rfl, by decide +kernel, rfl, by decide +kernel, by decide +kernel⟩
  have nd := sc.nd
  refine fnG_of (k := 4) (M := mF) F sc (by decide) (fun cdv A outer s H E hr hgd => ?_)
  have hu := room64 hr
  have hu1 := room65 hr
  have hc : (cxOf (L2.CX P w) P w K mg base ["hall", "spot", "k"] "_law_inside" (defScope s__law_inside) f cdv A outer s H E).calm = true := rfl
  exact (ss_cons (s1_ret (se_cmp (or_eq hu) (se_comp (by exact hc) (by exact nd) (si_range1 T.z_range (sa_cons (se_callB (cr_len) T.z_len bt_len (sa_cons (se_at 0 se_int) sa_nil)) sa_nil)) (blkOk_by (own := [("k", 2)]) (by rfl)) (fun s0 H0 C0 cl0 fp0 => (sg_name (i := 2) rfl nd)) (fun s0 H0 C0 cl0 fp0 => (st_one (st_val (se_callW (c__law_under T) (hr.mono (by decide)) hgd tk_EF (sw_cons (se_fz (se_ix (se_at 0 se_int) (se_var 2))) (sw_cons (se_fz (se_callW (c__law_dot T) (hr.mono (by decide)) hgd tk_EF (sw_cons (se_fz (se_ix (se_at 0 se_int) (se_var 2))) (sw_cons (se_fz (se_var 1)) sw_nil)) (wlen_cons (wlen_cons (fun _ _ _ z => wlen_nil z))))) sw_nil)) (wlen_cons (wlen_cons (fun _ _ _ z => wlen_nil z))))))) (fun s0 H0 C0 cl0 fp0 => (se_fz (se_var 2)))) (se_lst sa_nil)))
  ss_nil)
theorem c__law_inside (T : Tx K mg) : Cal P w K mg base 5 2 "_law_inside" d__law_inside := by
  obtain ⟨f, fd, F, hm, hk, hb, _⟩ := T.f__law_inside
  exact ⟨f, fd, ["hall", "spot"], FF__law_inside T F, hm, hk, hb⟩
theorem FF__law_whole (T : Tx K mg) {f : Addr} {fd : FuncData} (F : Fun K "_law_whole" "_law_whole" s__law_whole f fd) : FnG P w K mg base 1 f fd ["thing"] (spD K mg 1 d__law_whole) := by
  have sc : FnScope ["thing"] ["thing"] (defScope s__law_whole) := ⟨rfl, rfl, rfl, by decide +kernel, rfl, by decide +kernel, by decide +kernel⟩
  have nd := sc.nd
  refine fnG_of (k := 0) (M := mF) F sc (by decide) (fun cdv A outer s H E hr hgd => ?_)
  have hu := room64 hr
  have hu1 := room65 hr
  have hc : (cxOf (L2.CX P w) P w K mg base ["thing"] "_law_whole" (defScope s__law_whole) f cdv A outer s H E).calm = true := rfl
  exact (ss_cons (s1_ret (se_and (se_isi T.z_isinstance T.z_int bt_int (by decide) (se_var 0)) (se_one (se_not (se_isi T.z_isinstance T.z_bool bt_bool (by decide) (se_var 0))))))
  ss_nil)
theorem c__law_whole (T : Tx K mg) : Cal P w K mg base 1 1 "_law_whole" d__law_whole := by
  obtain ⟨f, fd, F, hm, hk, hb, _⟩ := T.f__law_whole
  exact ⟨f, fd, ["thing"], FF__law_whole T F, hm, hk, hb⟩
theorem FF__law_is_frac (T : Tx K mg) {f : Addr} {fd : FuncData} (F : Fun K "_law_is_frac" "_law_is_frac" s__law_is_frac f fd) : FnG P w K mg base 2 f fd ["thing"] (spD K mg 1 d__law_is_frac) := by
  have sc : FnScope ["thing"] ["thing"] (defScope s__law_is_frac) := ⟨rfl, rfl, rfl, by decide +kernel, rfl, by decide +kernel, by decide +kernel⟩
  have nd := sc.nd
  refine fnG_of (k := 1) (M := mF) F sc (by decide) (fun cdv A outer s H E hr hgd => ?_)
  have hu := room64 hr
  have hu1 := room65 hr
  have hc : (cxOf (L2.CX P w) P w K mg base ["thing"] "_law_is_frac" (defScope s__law_is_frac) f cdv A outer s H E).calm = true := rfl
  exact (ss_cons (s1_if (SW.T (sw_or (st_not (st_val (se_isi T.z_isinstance T.z_tuple bt_tuple (by decide) (se_var 0)))) (sw_or (st_cmp (or_ne hu) (se_lenAt 0 T.z_len) se_int) (sw_or (st_not (st_val (se_callW (c__law_whole T) (hr.mono (by decide)) hgd tk_def (sw_cons (se_fz (se_at 0 se_int)) sw_nil) (wlen_cons (fun _ _ _ z => wlen_nil z))))) (sw_or1 (st_not (st_val (se_callW (c__law_whole T) (hr.mono (by decide)) hgd tk_def (sw_cons (se_fz (se_at 0 se_int)) sw_nil) (wlen_cons (fun _ _ _ z => wlen_nil z)))))))))) (ss_cons (s1_ret se_bl)
  ss_nil) ss_nil)
  (ss_cons (s1_ret (se_and (se_cmp or_gt (se_at 0 se_int) se_int) (se_one (se_cmp (or_eq hu) (se_callW (c__law_gcd T) (hr.mono (by decide)) hgd tk_def (sw_cons (se_fz (se_at 0 se_int)) (sw_cons (se_fz (se_callB (cr_abs) T.z_abs bt_abs (sa_cons (se_at 0 se_int) sa_nil))) sw_nil)) (wlen_cons (wlen_cons (fun _ _ _ z => wlen_nil z)))) se_int))))
  ss_nil))
theorem c__law_is_frac (T : Tx K mg) : Cal P w K mg base 2 1 "_law_is_frac" d__law_is_frac := by
  obtain ⟨f, fd, F, hm, hk, hb, _⟩ := T.f__law_is_frac
  exact ⟨f, fd, ["thing"], FF__law_is_frac T F, hm, hk, hb⟩
theorem FF__law_is_line (T : Tx K mg) {f : Addr} {fd : FuncData} (F : Fun K "_law_is_line" "_law_is_line" s__law_is_line f fd) : FnG P w K mg base 3 f fd ["thing", "size"] (spD K mg 2 d__law_is_line) := by
  have sc : FnScope ["thing", "size", "each"] ["thing", "size"] (defScope s__law_is_line) := ⟨rfl, rfl, rfl, by decide +kernel, rfl, by decide +kernel, by decide +kernel⟩
  have nd := sc.nd
  refine fnG_of (k := 2) (M := mF) F sc (by decide) (fun cdv A outer s H E hr hgd => ?_)
  have hu := room64 hr
  have hu1 := room65 hr
  have hc : (cxOf (L2.CX P w) P w K mg base ["thing", "size", "each"] "_law_is_line" (defScope s__law_is_line) f cdv A outer s H E).calm = true := rfl
  exact (ss_cons (s1_if (SW.T (sw_or (st_not (st_val (se_isi T.z_isinstance T.z_tuple bt_tuple (by decide) (se_var 0)))) (sw_or1 (st_cmp (or_ne hu) (se_lenAt 0 T.z_len) (se_var 1))))) (ss_cons (s1_ret se_bl)
  ss_nil) ss_nil)
  (ss_cons (s1_ret (se_cmp (or_eq hu) (se_comp (by exact hc) (by exact nd) (si_seq (se_var 0)) (blkOk_by (own := [("each", 2)]) (by rfl)) (fun s0 H0 C0 cl0 fp0 => (sg_name (i := 2) rfl nd)) (fun s0 H0 C0 cl0 fp0 => (st_one (st_not (st_val (se_callW (c__law_is_frac T) (hr.mono (by decide)) hgd tk_EF (sw_cons (se_fz (se_var 2)) sw_nil) (wlen_cons (fun _ _ _ z => wlen_nil z))))))) (fun s0 H0 C0 cl0 fp0 => (se_fz (se_var 2)))) (se_lst sa_nil)))
  ss_nil))
theorem c__law_is_line (T : Tx K mg) : Cal P w K mg base 3 2 "_law_is_line" d__law_is_line := by
  obtain ⟨f, fd, F, hm, hk, hb, _⟩ := T.f__law_is_line
  exact ⟨f, fd, ["thing", "size"], FF__law_is_line T F, hm, hk, hb⟩
theorem FF__law_is_hall (T : Tx K mg) {f : Addr} {fd : FuncData} (F : Fun K "_law_is_hall" "_law_is_hall" s__law_is_hall f fd) : FnG P w K mg base 4 f fd ["thing"] (spD K mg 1 d__law_is_hall) := by
  have sc : FnScope ["thing", "size", "lines", "tops", "line"] ["thing"] (defScope s__law_is_hall) := ⟨rfl, rfl, rfl, by decide +kernel, rfl, by decide +kernel, by decide +kernel⟩
  have nd := sc.nd
  refine fnG_of (k := 3) (M := mF) F sc (by decide) (fun cdv A outer s H E hr hgd => ?_)
  have hu := room64 hr
  have hu1 := room65 hr
  have hc : (cxOf (L2.CX P w) P w K mg base ["thing", "size", "lines", "tops", "line"] "_law_is_hall" (defScope s__law_is_hall) f cdv A outer s H E).calm = true := rfl
  exact (ss_cons (s1_if (SW.T (sw_or (st_not (st_val (se_isi T.z_isinstance T.z_tuple bt_tuple (by decide) (se_var 0)))) (sw_or (st_cmp (or_ne hu) (se_lenAt 0 T.z_len) se_int) (sw_or (st_not (st_val (se_callW (c__law_whole T) (hr.mono (by decide)) hgd tk_def (sw_cons (se_fz (se_at 0 se_int)) sw_nil) (wlen_cons (fun _ _ _ z => wlen_nil z))))) (sw_or1 (st_not (st_chain L2.op_le L2.op_le se_int (se_at 0 se_int) se_int))))))) (ss_cons (s1_ret se_bl)
  ss_nil) ss_nil)
  (ss_cons (s1_asgD (se_var 0) (sg_tup (by exact hc) (sgs_cons (sg_name (i := 1) rfl nd) (sgs_cons (sg_name (i := 2) rfl nd) (sgs_cons (sg_name (i := 3) rfl nd) sgs_nil)))))
  (ss_cons (s1_if (SW.T (sw_or (st_not (st_val (se_isi T.z_isinstance T.z_tuple bt_tuple (by decide) (se_var 2)))) (sw_or (st_cmp or_gt (se_lenAt 2 T.z_len) se_int) (sw_or1 (st_not (st_val (se_callW (c__law_is_line T) (hr.mono (by decide)) hgd tk_def (sw_cons (se_fz (se_var 3)) (sw_cons (se_fz (se_lenAt 2 T.z_len)) sw_nil)) (wlen_cons (wlen_cons (fun _ _ _ z => wlen_nil z)))))))))) (ss_cons (s1_ret se_bl)
  ss_nil) ss_nil)
  (ss_cons (s1_ret (se_cmp (or_eq hu) (se_comp (by exact hc) (by exact nd) (si_seq (se_var 2)) (blkOk_by (own := [("line", 4)]) (by rfl)) (fun s0 H0 C0 cl0 fp0 => (sg_name (i := 4) rfl nd)) (fun s0 H0 C0 cl0 fp0 => (st_one (st_not (st_val (se_callW (c__law_is_line T) (hr.mono (by decide)) hgd tk_EF (sw_cons (se_fz (se_var 4)) (sw_cons (se_fz (se_var 1)) sw_nil)) (wlen_cons (wlen_cons (fun _ _ _ z => wlen_nil z)))))))) (fun s0 H0 C0 cl0 fp0 => (se_fz (se_var 4)))) (se_lst sa_nil)))
  ss_nil))))
theorem c__law_is_hall (T : Tx K mg) : Cal P w K mg base 4 1 "_law_is_hall" d__law_is_hall := by
  obtain ⟨f, fd, F, hm, hk, hb, _⟩ := T.f__law_is_hall
  exact ⟨f, fd, ["thing"], FF__law_is_hall T F, hm, hk, hb⟩
theorem FF__law_no_frac (T : Tx K mg) {f : Addr} {fd : FuncData} (F : Fun K "_law_no_frac" "_law_no_frac" s__law_no_frac f fd) : FnG P w K mg base 3 f fd ["deck"] (spD K mg 1 d__law_no_frac) := by
  have sc : FnScope ["deck", "some"] ["deck"] (defScope s__law_no_frac) := ⟨rfl, rfl, rfl, by decide +kernel, rfl, by decide +kernel, by decide +kernel⟩
  have nd := sc.nd
  refine fnG_of (k := 2) (M := m0) F sc (by decide) (fun cdv A outer s H E hr hgd => ?_)
  have hu := room64 hr
  have hu1 := room65 hr
  have hc : (cxOf (L2.CX P w) P w K mg base ["deck", "some"] "_law_no_frac" (defScope s__law_no_frac) f cdv A outer s H E).calm = true := rfl
  exact (ss_cons (s1_set (i := 1) (se_fz (se_lst (sa_cons se_int (sa_cons se_int (sa_cons se_non (sa_cons se_str (sa_cons (se_tup sa_nil) (sa_cons (se_tup (sa_cons se_int sa_nil)) (sa_cons (se_tup (sa_cons se_int (sa_cons se_int (sa_cons se_int sa_nil)))) (sa_cons (se_tup (sa_cons se_int (sa_cons se_int sa_nil))) (sa_cons (se_tup (sa_cons se_int (sa_cons se_int sa_nil))) (sa_cons (se_tup (sa_cons se_int (sa_cons se_int sa_nil))) (sa_cons (se_tup (sa_cons se_int (sa_cons se_int sa_nil))) (sa_cons (se_tup (sa_cons se_int (sa_cons (se_neg se_int) sa_nil))) (sa_cons (se_tup (sa_cons (se_neg se_int) (sa_cons (se_neg se_int) sa_nil))) (sa_cons (se_tup (sa_cons se_bl (sa_cons se_int sa_nil))) sa_nil)))))))))))))))) rfl nd)
  (ss_cons (s1_set (i := 1) (se_fz (se_op or_add (se_var 1) (se_lst (sa_cons (se_tup (sa_cons se_int (sa_cons se_bl sa_nil))) (sa_cons (se_tup (sa_cons se_int (sa_cons se_non sa_nil))) (sa_cons (se_tup (sa_cons se_str (sa_cons se_int sa_nil))) (sa_cons (se_lst (sa_cons se_int (sa_cons se_int sa_nil))) (sa_cons (se_tup (sa_cons (se_tup (sa_cons se_int (sa_cons se_int sa_nil))) (sa_cons se_int sa_nil))) (sa_cons (se_tup (sa_cons (se_op or_pow se_int se_int) (sa_cons (se_op or_pow se_int se_int) sa_nil))) (sa_cons se_bl sa_nil)))))))))) rfl nd)
  (ss_cons (s1_ret (se_callA (c__law_pick T) 0 (hr.mono (by decide)) hgd tk_def (sw_cons (se_fz (se_var 1)) sw_nil) (fun ρ ws r z => congrArg Nat.succ ((wlen_cons (fun _ _ _ z => wlen_nil z)) ρ ws r z))))
  ss_nil)))
theorem c__law_no_frac (T : Tx K mg) : Cal P w K mg base 3 1 "_law_no_frac" d__law_no_frac := by
  obtain ⟨f, fd, F, hm, hk, hb, _⟩ := T.f__law_no_frac
  exact ⟨f, fd, ["deck"], FF__law_no_frac T F, hm, hk, hb⟩
theorem FF__law_put (T : Tx K mg) {f : Addr} {fd : FuncData} (F : Fun K "_law_put" "_law_put" s__law_put f fd) : FnG P w K mg base 1 f fd ["line", "at", "thing"] (spD K mg 3 d__law_put) := by
  have sc : FnScope ["line", "at", "thing"] ["line", "at", "thing"] (defScope s__law_put) := ⟨rfl, rfl, rfl, by decide +kernel, rfl, by decide +kernel, by decide +kernel⟩
  have nd := sc.nd
  refine fnG_of (k := 0) (M := mF) F sc (by decide) (fun cdv A outer s H E hr hgd => ?_)
  have hu := room64 hr
  have hu1 := room65 hr
  have hc : (cxOf (L2.CX P w) P w K mg base ["line", "at", "thing"] "_law_put" (defScope s__law_put) f cdv A outer s H E).calm = true := rfl
  exact (ss_cons (s1_ret (se_op or_add (se_op or_add (se_cut (se_var 0) sp_none (sp_some (se_var 1))) (se_tup (sa_cons (se_var 2) sa_nil))) (se_cut (se_var 0) (sp_some (se_op or_add (se_var 1) se_int)) sp_none)))
  ss_nil)
theorem c__law_put (T : Tx K mg) : Cal P w K mg base 1 3 "_law_put" d__law_put := by
  obtain ⟨f, fd, F, hm, hk, hb, _⟩ := T.f__law_put
  exact ⟨f, fd, ["line", "at", "thing"], FF__law_put T F, hm, hk, hb⟩
theorem FF__law_bent_hall (T : Tx K mg) {f : Addr} {fd : FuncData} (F : Fun K "_law_bent_hall" "_law_bent_hall" s__law_bent_hall f fd) : FnG P w K mg base 4 f fd ["deck", "hall"] (spD K mg 2 d__law_bent_hall) := by
  have sc : FnScope ["deck", "hall", "size", "lines", "tops", "way", "one", "at", "bent"] ["deck", "hall"] (defScope s__law_bent_hall) := ⟨rfl, rfl, rfl, by decide +kernel, rfl, by decide +kernel, by decide +kernel⟩
  have nd := sc.nd
  refine fnG_of (k := 3) (M := m0) F sc (by decide) (fun cdv A outer s H E hr hgd => ?_)
  have hu := room64 hr
  have hu1 := room65 hr
  have hc : (cxOf (L2.CX P w) P w K mg base ["deck", "hall", "size", "lines", "tops", "way", "one", "at", "bent"] "_law_bent_hall" (defScope s__law_bent_hall) f cdv A outer s H E).calm = true := rfl
  exact (ss_cons (s1_asgD (se_var 1) (sg_tup (by exact hc) (sgs_cons (sg_name (i := 2) rfl nd) (sgs_cons (sg_name (i := 3) rfl nd) (sgs_cons (sg_name (i := 4) rfl nd) sgs_nil)))))
  (ss_cons (s1_par (i := 5) (j := 6) hc (sw_cons (se_fz (se_callA (c__law_roll T) 0 (hr.mono (by decide)) hgd tk_def (sw_cons (se_fz se_int) sw_nil) (fun ρ ws r z => congrArg Nat.succ ((wlen_cons (fun _ _ _ z => wlen_nil z)) ρ ws r z)))) (sw_cons (se_fz (se_op or_mul (se_tup (sa_cons (se_tup (sa_cons se_int (sa_cons se_int sa_nil))) sa_nil)) (se_var 2))) sw_nil)) nd)
  (ss_cons (s1_if (st_cmp (or_eq hu) (se_var 5) se_int) (ss_cons (s1_ret (se_tup (sa_cons (se_callA (c__law_pick T) 0 (hr.mono (by decide)) hgd tk_def (sw_cons (se_fz (se_lst (sa_cons se_int (sa_cons se_int (sa_cons (se_neg se_int) (sa_cons se_bl (sa_cons se_non (sa_cons se_str (sa_cons (se_tup (sa_cons se_int sa_nil)) (sa_cons (se_op or_add (se_var 2) se_int) (sa_cons (se_var 2) sa_nil))))))))))) sw_nil) (fun ρ ws r z => congrArg Nat.succ ((wlen_cons (fun _ _ _ z => wlen_nil z)) ρ ws r z))) (sa_cons (se_var 3) (sa_cons (se_var 4) sa_nil)))))
  ss_nil) ss_nil)
  (ss_cons (s1_if (SW.T (sw_and (st_cmp (or_eq hu) (se_var 5) se_int) (sw_and1 (st_cmp or_gt (se_lenAt 3 T.z_len) se_int)))) (ss_cons (s1_set (i := 7) (se_fz (se_callA (c__law_roll T) 0 (hr.mono (by decide)) hgd tk_def (sw_cons (se_fz (se_lenAt 3 T.z_len)) sw_nil) (fun ρ ws r z => congrArg Nat.succ ((wlen_cons (fun _ _ _ z => wlen_nil z)) ρ ws r z)))) rfl nd)
  (ss_cons (s1_set (i := 8) (se_fz (se_callW (c__law_put T) (hr.mono (by decide)) hgd tk_def (sw_cons (se_fz (se_at 3 (se_var 7))) (sw_cons (se_fz (se_callA (c__law_roll T) 0 (hr.mono (by decide)) hgd tk_def (sw_cons (se_fz (se_var 2)) sw_nil) (fun ρ ws r z => congrArg Nat.succ ((wlen_cons (fun _ _ _ z => wlen_nil z)) ρ ws r z)))) (sw_cons (se_fz (se_callA (c__law_no_frac T) 0 (hr.mono (by decide)) hgd tk_def sw_nil (fun ρ ws r z => congrArg Nat.succ ((fun _ _ _ z => wlen_nil z) ρ ws r z)))) sw_nil))) (wlen_cons (wlen_cons (wlen_cons (fun _ _ _ z => wlen_nil z)))))) rfl nd)
  (ss_cons (s1_ret (se_tup (sa_cons (se_var 2) (sa_cons (se_callW (c__law_put T) (hr.mono (by decide)) hgd tk_def (sw_cons (se_fz (se_var 3)) (sw_cons (se_fz (se_var 7)) (sw_cons (se_fz (se_var 8)) sw_nil))) (wlen_cons (wlen_cons (wlen_cons (fun _ _ _ z => wlen_nil z))))) (sa_cons (se_var 4) sa_nil)))))
  ss_nil))) ss_nil)
  (ss_cons (s1_if (SW.T (sw_and (st_cmp (or_eq hu) (se_var 5) se_int) (sw_and1 (st_cmp or_gt (se_lenAt 3 T.z_len) se_int)))) (ss_cons (s1_ret (se_tup (sa_cons (se_var 2) (sa_cons (se_var 3) (sa_cons (se_callW (c__law_put T) (hr.mono (by decide)) hgd tk_def (sw_cons (se_fz (se_var 4)) (sw_cons (se_fz (se_callA (c__law_roll T) 0 (hr.mono (by decide)) hgd tk_def (sw_cons (se_fz (se_lenAt 4 T.z_len)) sw_nil) (fun ρ ws r z => congrArg Nat.succ ((wlen_cons (fun _ _ _ z => wlen_nil z)) ρ ws r z)))) (sw_cons (se_fz (se_callA (c__law_no_frac T) 0 (hr.mono (by decide)) hgd tk_def sw_nil (fun ρ ws r z => congrArg Nat.succ ((fun _ _ _ z => wlen_nil z) ρ ws r z)))) sw_nil))) (wlen_cons (wlen_cons (wlen_cons (fun _ _ _ z => wlen_nil z))))) sa_nil)))))
  ss_nil) ss_nil)
  (ss_cons (s1_if (st_cmp (or_eq hu) (se_var 5) se_int) (ss_cons (s1_ret (se_tup (sa_cons (se_var 2) (sa_cons (se_callA (c__law_pick T) 0 (hr.mono (by decide)) hgd tk_def (sw_cons (se_fz (se_lst (sa_cons (se_op or_add (se_var 3) (se_tup (sa_cons (se_var 6) sa_nil))) (sa_cons (se_cut (se_var 3) (sp_some se_int) sp_none) (sa_cons (se_callTy (cr_list) T.z_list bt_list (sa_cons (se_var 3) sa_nil)) (sa_cons se_non (sa_cons (se_op or_add (se_var 3) (se_tup (sa_cons (se_tup sa_nil) sa_nil))) (sa_cons (se_tup (sa_cons (se_var 3) sa_nil)) sa_nil)))))))) sw_nil) (fun ρ ws r z => congrArg Nat.succ ((wlen_cons (fun _ _ _ z => wlen_nil z)) ρ ws r z))) (sa_cons (se_var 4) sa_nil)))))
  ss_nil) ss_nil)
  (ss_cons (s1_if (st_cmp (or_eq hu) (se_var 5) se_int) (ss_cons (s1_ret (se_tup (sa_cons (se_var 2) (sa_cons (se_var 3) (sa_cons (se_callA (c__law_pick T) 0 (hr.mono (by decide)) hgd tk_def (sw_cons (se_fz (se_lst (sa_cons (se_op or_add (se_var 4) (se_tup (sa_cons (se_tup (sa_cons se_int (sa_cons se_int sa_nil))) sa_nil))) (sa_cons (se_cut (se_var 4) (sp_some se_int) sp_none) (sa_cons (se_callTy (cr_list) T.z_list bt_list (sa_cons (se_var 4) sa_nil)) (sa_cons se_non (sa_cons (se_tup (sa_cons (se_var 4) sa_nil)) sa_nil))))))) sw_nil) (fun ρ ws r z => congrArg Nat.succ ((wlen_cons (fun _ _ _ z => wlen_nil z)) ρ ws r z))) sa_nil)))))
  ss_nil) ss_nil)
  (ss_cons (s1_if (st_cmp (or_eq hu) (se_var 5) se_int) (ss_cons (s1_ret (se_callA (c__law_pick T) 0 (hr.mono (by decide)) hgd tk_def (sw_cons (se_fz (se_lst (sa_cons (se_tup (sa_cons (se_var 2) (sa_cons (se_op or_mul (se_tup (sa_cons (se_var 6) sa_nil)) se_int) (sa_cons (se_op or_mul (se_tup (sa_cons (se_tup (sa_cons se_int (sa_cons se_int sa_nil))) sa_nil)) se_int) sa_nil)))) (sa_cons (se_tup (sa_cons (se_var 2) (sa_cons (se_op or_mul (se_tup (sa_cons (se_var 6) sa_nil)) se_int) (sa_cons (se_op or_mul (se_tup (sa_cons (se_tup (sa_cons se_int (sa_cons se_int sa_nil))) sa_nil)) se_int) sa_nil)))) sa_nil)))) sw_nil) (fun ρ ws r z => congrArg Nat.succ ((wlen_cons (fun _ _ _ z => wlen_nil z)) ρ ws r z))))
  ss_nil) ss_nil)
  (ss_cons (s1_if (st_cmp (or_eq hu) (se_var 5) se_int) (ss_cons (s1_ret (se_callA (c__law_pick T) 0 (hr.mono (by decide)) hgd tk_def (sw_cons (se_fz (se_lst (sa_cons (se_callTy (cr_list) T.z_list bt_list (sa_cons (se_var 1) sa_nil)) (sa_cons (se_op or_add (se_var 1) (se_tup (sa_cons se_int sa_nil))) (sa_cons (se_cut (se_var 1) sp_none (sp_some se_int)) (sa_cons (se_tup (sa_cons (se_var 3) (sa_cons (se_var 4) (sa_cons (se_var 2) sa_nil)))) (sa_cons (se_tup (sa_cons (se_var 2) (sa_cons (se_var 4) (sa_cons (se_var 3) sa_nil)))) (sa_cons se_non sa_nil)))))))) sw_nil) (fun ρ ws r z => congrArg Nat.succ ((wlen_cons (fun _ _ _ z => wlen_nil z)) ρ ws r z))))
  ss_nil) ss_nil)
  (ss_cons (s1_ret (se_if (st_cmp (or_eq hu) (se_var 5) se_int) (se_callA (c__law_odd T) 0 (hr.mono (by decide)) hgd tk_def sw_nil (fun ρ ws r z => congrArg Nat.succ ((fun _ _ _ z => wlen_nil z) ρ ws r z))) (se_tup (sa_cons (se_var 2) (sa_cons (se_op or_add (se_var 3) (se_tup (sa_cons (se_op or_mul (se_tup (sa_cons (se_tup (sa_cons se_int (sa_cons se_int sa_nil))) sa_nil)) (se_var 2)) sa_nil))) (sa_cons (se_op or_add (se_var 4) (se_tup (sa_cons (se_tup (sa_cons se_int (sa_cons se_int sa_nil))) sa_nil))) sa_nil))))))
  ss_nil))))))))))
theorem c__law_bent_hall (T : Tx K mg) : Cal P w K mg base 4 2 "_law_bent_hall" d__law_bent_hall := by
  obtain ⟨f, fd, F, hm, hk, hb, _⟩ := T.f__law_bent_hall
  exact ⟨f, fd, ["deck", "hall"], FF__law_bent_hall T F, hm, hk, hb⟩
theorem FF__law_moved (T : Tx K mg) {f : Addr} {fd : FuncData} (F : Fun K "_law_moved" "_law_moved" s__law_moved f fd) : FnG P w K mg base 4 f fd ["hall", "spot", "amount"] (spD K mg 3 d__law_moved) := by
  have sc : FnScope ["hall", "spot", "amount"] ["hall", "spot", "amount"] (defScope s__law_moved) := ⟨rfl, rfl, rfl, by decide +kernel, rfl, by decide +kernel, by decide +kernel⟩
  have nd := sc.nd
  refine fnG_of (k := 3) (M := mF) F sc (by decide) (fun cdv A outer s H E hr hgd => ?_)
  have hu := room64 hr
  have hu1 := room65 hr
  have hc : (cxOf (L2.CX P w) P w K mg base ["hall", "spot", "amount"] "_law_moved" (defScope s__law_moved) f cdv A outer s H E).calm = true := rfl
  exact (ss_cons (s1_ret (se_op or_add (se_tup (sa_cons (se_callW (c__law_plus T) (hr.mono (by decide)) hgd tk_def (sw_cons (se_fz (se_at 1 se_int)) (sw_cons (se_fz (se_var 2)) sw_nil)) (wlen_cons (wlen_cons (fun _ _ _ z => wlen_nil z)))) sa_nil)) (se_cut (se_var 1) (sp_some se_int) sp_none)))
  ss_nil)
theorem c__law_moved (T : Tx K mg) : Cal P w K mg base 4 3 "_law_moved" d__law_moved := by
  obtain ⟨f, fd, F, hm, hk, hb, _⟩ := T.f__law_moved
  exact ⟨f, fd, ["hall", "spot", "amount"], FF__law_moved T F, hm, hk, hb⟩
theorem FF_law (T : Tx K mg) {f : Addr} {fd : FuncData} (F : Fun K "law" "law" s_law f fd) : FnG P w K mg base 8 f fd ["script"] (spD K mg 1 d_law) := by
  have sc : FnScope ["script", "turn", "deck", "size", "spot", "hall", "thing", "odd", "told", "is_one", "some", "again", "each"] ["script"] (defScope s_law) := ⟨rfl, rfl, rfl, by decide +kernel, rfl, by decide +kernel, by decide +kernel⟩
  have nd := sc.nd
  refine fnG_of (k := 7) (M := m0) F sc (by decide) (fun cdv A outer s H E hr hgd => ?_)
  have hu := room64 hr
  have hu1 := room65 hr
  have hc : (cxOf (L2.CX P w) P w K mg base ["script", "turn", "deck", "size", "spot", "hall", "thing", "odd", "told", "is_one", "some", "again", "each"] "law" (defScope s_law) f cdv A outer s H E).calm = true := rfl
  exact (ss_cons (s1_for ps_def hc (si_range1 T.z_range (sa_cons (se_callB (cr_max2 (by exact hc)) T.z_max bt_max (sa_cons se_int (sa_cons (se_callB (cr_min2 (by exact hc)) T.z_min bt_min (sa_cons (se_lenAt 0 T.z_len) (sa_cons se_int sa_nil))) sa_nil))) sa_nil)) (sg_name (i := 1) rfl nd) (ss_cons (s1_set (i := 2) (se_callA (c__law_deck T) 0 (hr.mono (by decide)) hgd tk_def (sw_cons (se_fz (se_var 1)) (sw_cons (se_fz se_int) sw_nil)) (fun ρ ws r z => congrArg Nat.succ ((wlen_cons (wlen_cons (fun _ _ _ z => wlen_nil z))) ρ ws r z))) rfl nd)
  (ss_cons (s1_set (i := 3) (se_fz (se_callA (c__law_pick T) 2 (hr.mono (by decide)) hgd tk_def (sw_cons (se_fz (se_lst (sa_cons se_int (sa_cons se_int (sa_cons se_int (sa_cons se_int sa_nil)))))) sw_nil) (fun ρ ws r z => congrArg Nat.succ ((wlen_cons (fun _ _ _ z => wlen_nil z)) ρ ws r z)))) rfl nd)
  (ss_cons (s1_set (i := 4) (se_fz (se_callA (c__law_spot T) 2 (hr.mono (by decide)) hgd tk_def (sw_cons (se_fz (se_var 3)) sw_nil) (fun ρ ws r z => congrArg Nat.succ ((wlen_cons (fun _ _ _ z => wlen_nil z)) ρ ws r z)))) rfl nd)
  (ss_cons (s1_set (i := 5) (se_fz (se_callA (c__law_hall T) 2 (hr.mono (by decide)) hgd tk_def (sw_cons (se_fz (se_var 3)) (sw_cons (se_fz se_int) (sw_cons (se_fz (se_var 4)) sw_nil))) (fun ρ ws r z => congrArg Nat.succ ((wlen_cons (wlen_cons (wlen_cons (fun _ _ _ z => wlen_nil z)))) ρ ws r z)))) rfl nd)
  (ss_cons (s1_par (i := 6) (j := 7) hc (sw_cons (se_fz (se_callA (c__law_bent_hall T) 2 (hr.mono (by decide)) hgd tk_def (sw_cons (se_fz (se_var 5)) sw_nil) (fun ρ ws r z => congrArg Nat.succ ((wlen_cons (fun _ _ _ z => wlen_nil z)) ρ ws r z)))) (sw_cons (se_fz (se_callA (c__law_odd T) 2 (hr.mono (by decide)) hgd tk_def sw_nil (fun ρ ws r z => congrArg Nat.succ ((fun _ _ _ z => wlen_nil z) ρ ws r z)))) sw_nil)) nd)
  (ss_cons (s1_set (i := 8) (se_fz (se_lst (sa_cons (se_callW (c_is_room T) (hr.mono (by decide)) hgd tk_def (sw_cons (se_fz (se_var 5)) sw_nil) (wlen_cons (fun _ _ _ z => wlen_nil z))) (sa_cons (se_callW (c_is_room T) (hr.mono (by decide)) hgd tk_def (sw_cons (se_fz (se_var 6)) sw_nil) (wlen_cons (fun _ _ _ z => wlen_nil z))) (sa_cons (se_callK (k_is_room__value T) (hr.mono (by decide)) hgd tk_def (sk_cons (se_var 6) sk_nil) (fun ds h => match ds, h with | [_], _ => rfl)) (sa_cons (se_callW (c_is_room T) (hr.mono (by decide)) hgd tk_def (sw_cons (se_fz (se_var 7)) sw_nil) (wlen_cons (fun _ _ _ z => wlen_nil z))) sa_nil)))))) rfl nd)
  (ss_cons (s1_set (i := 9) (se_fz (se_callW (c__law_is_hall T) (hr.mono (by decide)) hgd tk_def (sw_cons (se_fz (se_var 6)) sw_nil) (wlen_cons (fun _ _ _ z => wlen_nil z)))) rfl nd)
  (ss_cons (s1_if (st_cmp (or_ne hu) (se_callB (cr_repr (by exact hr) (by exact hgd)) T.z_repr bt_repr (sa_cons (se_var 8) sa_nil)) (se_callB (cr_repr (by exact hr) (by exact hgd)) T.z_repr bt_repr (sa_cons (se_lst (sa_cons se_bl (sa_cons (se_var 9) (sa_cons (se_var 9) (sa_cons (se_callW (c__law_is_hall T) (hr.mono (by decide)) hgd tk_def (sw_cons (se_fz (se_var 7)) sw_nil) (wlen_cons (fun _ _ _ z => wlen_nil z))) sa_nil))))) sa_nil))) (ss_cons (s1_ret se_bl)
  ss_nil) ss_nil)
  (ss_cons (s1_set (i := 10) (se_lst (sa_cons (se_var 4) (sa_cons (se_callW (c__law_moved T) (hr.mono (by decide)) hgd tk_def (sw_cons (se_fz (se_var 5)) (sw_cons (se_fz (se_var 4)) (sw_cons (se_fz (se_tup (sa_cons se_int (sa_cons se_int sa_nil)))) sw_nil))) (wlen_cons (wlen_cons (wlen_cons (fun _ _ _ z => wlen_nil z))))) (sa_cons (se_callW (c__law_moved T) (hr.mono (by decide)) hgd tk_def (sw_cons (se_fz (se_var 5)) (sw_cons (se_fz (se_var 4)) (sw_cons (se_fz (se_tup (sa_cons (se_neg se_int) (sa_cons se_int sa_nil)))) sw_nil))) (wlen_cons (wlen_cons (wlen_cons (fun _ _ _ z => wlen_nil z))))) sa_nil)))) rfl nd)
  (ss_cons (s1_for ps_def hc (si_range1 T.z_range (sa_cons se_int sa_nil)) (sg_name (i := 11) rfl nd) (ss_cons (s1_app 10 (se_fz (se_callA (c__law_spot T) 2 (hr.mono (by decide)) hgd tk_def (sw_cons (se_fz (se_var 3)) sw_nil) (fun ρ ws r z => congrArg Nat.succ ((wlen_cons (fun _ _ _ z => wlen_nil z)) ρ ws r z)))))
  ss_nil))
  (ss_cons (s1_set (i := 8) (se_fz (se_op or_add (se_comp (by exact hc) (by exact nd) (si_seq (se_var 10)) (blkOk_by (own := [("each", 12)]) (by rfl)) (fun s0 H0 C0 cl0 fp0 => (sg_name (i := 12) rfl nd)) (fun s0 H0 C0 cl0 fp0 => st_nil) (fun s0 H0 C0 cl0 fp0 => (se_fz (se_callW (c_is_in T) (hr.mono (by decide)) hgd tk_EF (sw_cons (se_fz (se_var 5)) (sw_cons (se_fz (se_var 12)) sw_nil)) (wlen_cons (wlen_cons (fun _ _ _ z => wlen_nil z))))))) (se_lst (sa_cons (se_callK (k_is_in__place_room T) (hr.mono (by decide)) hgd tk_def (sk_cons (se_at 10 se_int) (sk_cons (se_var 5) sk_nil)) (fun ds h => match ds, h with | [_, _], _ => rfl)) sa_nil)))) rfl nd)
  (ss_cons (s1_if (st_cmp (or_ne hu) (se_callB (cr_repr (by exact hr) (by exact hgd)) T.z_repr bt_repr (sa_cons (se_var 8) sa_nil)) (se_callB (cr_repr (by exact hr) (by exact hgd)) T.z_repr bt_repr (sa_cons (se_comp (by exact hc) (by exact nd) (si_seq (se_op or_add (se_var 10) (se_lst (sa_cons (se_at 10 se_int) sa_nil)))) (blkOk_by (own := [("each", 12)]) (by rfl)) (fun s0 H0 C0 cl0 fp0 => (sg_name (i := 12) rfl nd)) (fun s0 H0 C0 cl0 fp0 => st_nil) (fun s0 H0 C0 cl0 fp0 => (se_fz (se_callW (c__law_inside T) (hr.mono (by decide)) hgd tk_EF (sw_cons (se_fz (se_var 5)) (sw_cons (se_fz (se_var 12)) sw_nil)) (wlen_cons (wlen_cons (fun _ _ _ z => wlen_nil z))))))) sa_nil))) (ss_cons (s1_ret se_bl)
  ss_nil) ss_nil)
  ss_nil)))))))))))))
  (ss_cons (s1_ret se_bl)
  ss_nil))
theorem c_law (T : Tx K mg) : Cal P w K mg base 8 1 "law" d_law := by
  obtain ⟨f, fd, F, hm, hk, hb, _⟩ := T.f_law
  exact ⟨f, fd, ["script"], FF_law T F, hm, hk, hb⟩
theorem tf_is_whole {h : Heap} {mg : Mg} (X : K.In h) (G : h.Ns mainGlobals mg) {f : Addr} {od an : Option Addr} {sl : Array (Option Value)} {oc kV dc pm cd ct : Value} (a : PySem.W.nsIn K mainGlobals "is_whole" = some (some (.ref f))) (l : K.lookup f = some ⟨oc, od, .func (PySem.W.fnOf "is_whole" "is_whole" (defArgs s_is_whole) (defBody s_is_whole) (defScope s_is_whole) .none kV dc pm an cd ct), sl⟩) (c : PySem.W.codeIn K cd "is_whole" = true) (k : PySem.W.keepIn K (.ref f) = true) : TF_is_whole K mg :=
  ⟨f, _, fun_mk l c k, PySem.W.mg_of X G a, k, (fun_mk l c k).binds (fun _ _ _ _ _ _ us hl => match us, hl with | [_], _ => rfl), trivial⟩
theorem tf_is_between {h : Heap} {mg : Mg} (X : K.In h) (G : h.Ns mainGlobals mg) {f : Addr} {od an : Option Addr} {sl : Array (Option Value)} {oc kV dc pm cd ct : Value} (a : PySem.W.nsIn K mainGlobals "is_between" = some (some (.ref f))) (l : K.lookup f = some ⟨oc, od, .func (PySem.W.fnOf "is_between" "is_between" (defArgs s_is_between) (defBody s_is_between) (defScope s_is_between) .none kV dc pm an cd ct), sl⟩) (c : PySem.W.codeIn K cd "is_between" = true) (k : PySem.W.keepIn K (.ref f) = true) : TF_is_between K mg :=
  ⟨f, _, fun_mk l c k, PySem.W.mg_of X G a, k, (fun_mk l c k).binds (fun _ _ _ _ _ _ us hl => match us, hl with | [_, _, _], _ => rfl), trivial⟩
theorem tf_are_wholes {h : Heap} {mg : Mg} (X : K.In h) (G : h.Ns mainGlobals mg) {f : Addr} {od an : Option Addr} {sl : Array (Option Value)} {oc kV dc pm cd ct : Value} (a : PySem.W.nsIn K mainGlobals "are_wholes" = some (some (.ref f))) (l : K.lookup f = some ⟨oc, od, .func (PySem.W.fnOf "are_wholes" "are_wholes" (defArgs s_are_wholes) (defBody s_are_wholes) (defScope s_are_wholes) .none kV dc pm an cd ct), sl⟩) (c : PySem.W.codeIn K cd "are_wholes" = true) (k : PySem.W.keepIn K (.ref f) = true) : TF_are_wholes K mg :=
  ⟨f, _, fun_mk l c k, PySem.W.mg_of X G a, k, (fun_mk l c k).binds (fun _ _ _ _ _ _ us hl => match us, hl with | [_, _], _ => rfl), trivial⟩
theorem tf_divisor_of {h : Heap} {mg : Mg} (X : K.In h) (G : h.Ns mainGlobals mg) {f : Addr} {od an : Option Addr} {sl : Array (Option Value)} {oc kV dc pm cd ct : Value} (a : PySem.W.nsIn K mainGlobals "divisor_of" = some (some (.ref f))) (l : K.lookup f = some ⟨oc, od, .func (PySem.W.fnOf "divisor_of" "divisor_of" (defArgs s_divisor_of) (defBody s_divisor_of) (defScope s_divisor_of) .none kV dc pm an cd ct), sl⟩) (c : PySem.W.codeIn K cd "divisor_of" = true) (k : PySem.W.keepIn K (.ref f) = true) : TF_divisor_of K mg :=
  ⟨f, _, fun_mk l c k, PySem.W.mg_of X G a, k, (fun_mk l c k).binds (fun _ _ _ _ _ _ us hl => match us, hl with | [_], _ => rfl), trivial⟩
theorem tf_is_reduced {h : Heap} {mg : Mg} (X : K.In h) (G : h.Ns mainGlobals mg) {f : Addr} {od an : Option Addr} {sl : Array (Option Value)} {oc kV dc pm cd ct : Value} (a : PySem.W.nsIn K mainGlobals "is_reduced" = some (some (.ref f))) (l : K.lookup f = some ⟨oc, od, .func (PySem.W.fnOf "is_reduced" "is_reduced" (defArgs s_is_reduced) (defBody s_is_reduced) (defScope s_is_reduced) .none kV dc pm an cd ct), sl⟩) (c : PySem.W.codeIn K cd "is_reduced" = true) (k : PySem.W.keepIn K (.ref f) = true) : TF_is_reduced K mg :=
  ⟨f, _, fun_mk l c k, PySem.W.mg_of X G a, k, (fun_mk l c k).binds (fun _ _ _ _ _ _ us hl => match us, hl with | [_], _ => rfl), trivial⟩
theorem tf_is_ratio {h : Heap} {mg : Mg} (X : K.In h) (G : h.Ns mainGlobals mg) {f : Addr} {od an : Option Addr} {sl : Array (Option Value)} {oc kV dc pm cd ct : Value} (a : PySem.W.nsIn K mainGlobals "is_ratio" = some (some (.ref f))) (l : K.lookup f = some ⟨oc, od, .func (PySem.W.fnOf "is_ratio" "is_ratio" (defArgs s_is_ratio) (defBody s_is_ratio) (defScope s_is_ratio) .none kV dc pm an cd ct), sl⟩) (c : PySem.W.codeIn K cd "is_ratio" = true) (k : PySem.W.keepIn K (.ref f) = true) : TF_is_ratio K mg :=
  ⟨f, _, fun_mk l c k, PySem.W.mg_of X G a, k, (fun_mk l c k).binds (fun _ _ _ _ _ _ us hl => match us, hl with | [_], _ => rfl), trivial⟩
theorem tf_are_ratios {h : Heap} {mg : Mg} (X : K.In h) (G : h.Ns mainGlobals mg) {f : Addr} {od an : Option Addr} {sl : Array (Option Value)} {oc kV dc pm cd ct : Value} (a : PySem.W.nsIn K mainGlobals "are_ratios" = some (some (.ref f))) (l : K.lookup f = some ⟨oc, od, .func (PySem.W.fnOf "are_ratios" "are_ratios" (defArgs s_are_ratios) (defBody s_are_ratios) (defScope s_are_ratios) .none kV dc pm an cd ct), sl⟩) (c : PySem.W.codeIn K cd "are_ratios" = true) (k : PySem.W.keepIn K (.ref f) = true) : TF_are_ratios K mg :=
  ⟨f, _, fun_mk l c k, PySem.W.mg_of X G a, k, (fun_mk l c k).binds (fun _ _ _ _ _ _ us hl => match us, hl with | [_, _], _ => rfl), trivial⟩
theorem tf_is_roomed {h : Heap} {mg : Mg} (X : K.In h) (G : h.Ns mainGlobals mg) {f : Addr} {od an : Option Addr} {sl : Array (Option Value)} {oc kV dc pm cd ct : Value} (a : PySem.W.nsIn K mainGlobals "is_roomed" = some (some (.ref f))) (l : K.lookup f = some ⟨oc, od, .func (PySem.W.fnOf "is_roomed" "is_roomed" (defArgs s_is_roomed) (defBody s_is_roomed) (defScope s_is_roomed) .none kV dc pm an cd ct), sl⟩) (c : PySem.W.codeIn K cd "is_roomed" = true) (k : PySem.W.keepIn K (.ref f) = true) : TF_is_roomed K mg :=
  ⟨f, _, fun_mk l c k, PySem.W.mg_of X G a, k, (fun_mk l c k).binds (fun _ _ _ _ _ _ us hl => match us, hl with | [_], _ => rfl), trivial⟩
theorem tf_is_room {h : Heap} {mg : Mg} (X : K.In h) (G : h.Ns mainGlobals mg) {f : Addr} {od an : Option Addr} {sl : Array (Option Value)} {oc kV dc pm cd ct : Value} (a : PySem.W.nsIn K mainGlobals "is_room" = some (some (.ref f))) (l : K.lookup f = some ⟨oc, od, .func (PySem.W.fnOf "is_room" "is_room" (defArgs s_is_room) (defBody s_is_room) (defScope s_is_room) .none kV dc pm an cd ct), sl⟩) (c : PySem.W.codeIn K cd "is_room" = true) (k : PySem.W.keepIn K (.ref f) = true) : TF_is_room K mg :=
  ⟨f, _, fun_mk l c k, PySem.W.mg_of X G a, k, (fun_mk l c k).binds (fun _ _ _ _ _ _ us hl => match us, hl with | [_], _ => rfl), ⟨fun s ws _ hl => match ws, hl with | [_], _ => .of_eq rfl⟩⟩
theorem tf_check_row_of {h : Heap} {mg : Mg} (X : K.In h) (G : h.Ns mainGlobals mg) {f : Addr} {od an : Option Addr} {sl : Array (Option Value)} {oc kV dc pm cd ct : Value} (a : PySem.W.nsIn K mainGlobals "check_row_of" = some (some (.ref f))) (l : K.lookup f = some ⟨oc, od, .func (PySem.W.fnOf "check_row_of" "check_row_of" (defArgs s_check_row_of) (defBody s_check_row_of) (defScope s_check_row_of) .none kV dc pm an cd ct), sl⟩) (c : PySem.W.codeIn K cd "check_row_of" = true) (k : PySem.W.keepIn K (.ref f) = true) : TF_check_row_of K mg :=
  ⟨f, _, fun_mk l c k, PySem.W.mg_of X G a, k, (fun_mk l c k).binds (fun _ _ _ _ _ _ us hl => match us, hl with | [_, _], _ => rfl), trivial⟩
theorem tf_is_lower {h : Heap} {mg : Mg} (X : K.In h) (G : h.Ns mainGlobals mg) {f : Addr} {od an : Option Addr} {sl : Array (Option Value)} {oc kV dc pm cd ct : Value} (a : PySem.W.nsIn K mainGlobals "is_lower" = some (some (.ref f))) (l : K.lookup f = some ⟨oc, od, .func (PySem.W.fnOf "is_lower" "is_lower" (defArgs s_is_lower) (defBody s_is_lower) (defScope s_is_lower) .none kV dc pm an cd ct), sl⟩) (c : PySem.W.codeIn K cd "is_lower" = true) (k : PySem.W.keepIn K (.ref f) = true) : TF_is_lower K mg :=
  ⟨f, _, fun_mk l c k, PySem.W.mg_of X G a, k, (fun_mk l c k).binds (fun _ _ _ _ _ _ us hl => match us, hl with | [_, _], _ => rfl), trivial⟩
theorem tf_ratio_with {h : Heap} {mg : Mg} (X : K.In h) (G : h.Ns mainGlobals mg) {f : Addr} {od an : Option Addr} {sl : Array (Option Value)} {oc kV dc pm cd ct : Value} (a : PySem.W.nsIn K mainGlobals "ratio_with" = some (some (.ref f))) (l : K.lookup f = some ⟨oc, od, .func (PySem.W.fnOf "ratio_with" "ratio_with" (defArgs s_ratio_with) (defBody s_ratio_with) (defScope s_ratio_with) .none kV dc pm an cd ct), sl⟩) (c : PySem.W.codeIn K cd "ratio_with" = true) (k : PySem.W.keepIn K (.ref f) = true) : TF_ratio_with K mg :=
  ⟨f, _, fun_mk l c k, PySem.W.mg_of X G a, k, (fun_mk l c k).binds (fun _ _ _ _ _ _ us hl => match us, hl with | [_, _], _ => rfl), trivial⟩
theorem tf_ratio_product {h : Heap} {mg : Mg} (X : K.In h) (G : h.Ns mainGlobals mg) {f : Addr} {od an : Option Addr} {sl : Array (Option Value)} {oc kV dc pm cd ct : Value} (a : PySem.W.nsIn K mainGlobals "ratio_product" = some (some (.ref f))) (l : K.lookup f = some ⟨oc, od, .func (PySem.W.fnOf "ratio_product" "ratio_product" (defArgs s_ratio_product) (defBody s_ratio_product) (defScope s_ratio_product) .none kV dc pm an cd ct), sl⟩) (c : PySem.W.codeIn K cd "ratio_product" = true) (k : PySem.W.keepIn K (.ref f) = true) : TF_ratio_product K mg :=
  ⟨f, _, fun_mk l c k, PySem.W.mg_of X G a, k, (fun_mk l c k).binds (fun _ _ _ _ _ _ us hl => match us, hl with | [_, _], _ => rfl), trivial⟩
theorem tf_ratio_sum {h : Heap} {mg : Mg} (X : K.In h) (G : h.Ns mainGlobals mg) {f : Addr} {od an : Option Addr} {sl : Array (Option Value)} {oc kV dc pm cd ct : Value} (a : PySem.W.nsIn K mainGlobals "ratio_sum" = some (some (.ref f))) (l : K.lookup f = some ⟨oc, od, .func (PySem.W.fnOf "ratio_sum" "ratio_sum" (defArgs s_ratio_sum) (defBody s_ratio_sum) (defScope s_ratio_sum) .none kV dc pm an cd ct), sl⟩) (c : PySem.W.codeIn K cd "ratio_sum" = true) (k : PySem.W.keepIn K (.ref f) = true) : TF_ratio_sum K mg :=
  ⟨f, _, fun_mk l c k, PySem.W.mg_of X G a, k, (fun_mk l c k).binds (fun _ _ _ _ _ _ us hl => match us, hl with | [_, _], _ => rfl), trivial⟩
theorem tf_total_of {h : Heap} {mg : Mg} (X : K.In h) (G : h.Ns mainGlobals mg) {f : Addr} {od an : Option Addr} {sl : Array (Option Value)} {oc kV dc pm cd ct : Value} (a : PySem.W.nsIn K mainGlobals "total_of" = some (some (.ref f))) (l : K.lookup f = some ⟨oc, od, .func (PySem.W.fnOf "total_of" "total_of" (defArgs s_total_of) (defBody s_total_of) (defScope s_total_of) .none kV dc pm an cd ct), sl⟩) (c : PySem.W.codeIn K cd "total_of" = true) (k : PySem.W.keepIn K (.ref f) = true) : TF_total_of K mg :=
  ⟨f, _, fun_mk l c k, PySem.W.mg_of X G a, k, (fun_mk l c k).binds (fun _ _ _ _ _ _ us hl => match us, hl with | [_], _ => rfl), trivial⟩
theorem tf_dot {h : Heap} {mg : Mg} (X : K.In h) (G : h.Ns mainGlobals mg) {f : Addr} {od an : Option Addr} {sl : Array (Option Value)} {oc kV dc pm cd ct : Value} (a : PySem.W.nsIn K mainGlobals "dot" = some (some (.ref f))) (l : K.lookup f = some ⟨oc, od, .func (PySem.W.fnOf "dot" "dot" (defArgs s_dot) (defBody s_dot) (defScope s_dot) .none kV dc pm an cd ct), sl⟩) (c : PySem.W.codeIn K cd "dot" = true) (k : PySem.W.keepIn K (.ref f) = true) : TF_dot K mg :=
  ⟨f, _, fun_mk l c k, PySem.W.mg_of X G a, k, (fun_mk l c k).binds (fun _ _ _ _ _ _ us hl => match us, hl with | [_, _], _ => rfl), trivial⟩
theorem tf_is_held {h : Heap} {mg : Mg} (X : K.In h) (G : h.Ns mainGlobals mg) {f : Addr} {od an : Option Addr} {sl : Array (Option Value)} {oc kV dc pm cd ct : Value} (a : PySem.W.nsIn K mainGlobals "is_held" = some (some (.ref f))) (l : K.lookup f = some ⟨oc, od, .func (PySem.W.fnOf "is_held" "is_held" (defArgs s_is_held) (defBody s_is_held) (defScope s_is_held) .none kV dc pm an cd ct), sl⟩) (c : PySem.W.codeIn K cd "is_held" = true) (k : PySem.W.keepIn K (.ref f) = true) : TF_is_held K mg :=
  ⟨f, _, fun_mk l c k, PySem.W.mg_of X G a, k, (fun_mk l c k).binds (fun _ _ _ _ _ _ us hl => match us, hl with | [_, _], _ => rfl), trivial⟩
theorem tf_check_room {h : Heap} {mg : Mg} (X : K.In h) (G : h.Ns mainGlobals mg) {f : Addr} {od an : Option Addr} {sl : Array (Option Value)} {oc kV dc pm cd ct : Value} (a : PySem.W.nsIn K mainGlobals "check_room" = some (some (.ref f))) (l : K.lookup f = some ⟨oc, od, .func (PySem.W.fnOf "check_room" "check_room" (defArgs s_check_room) (defBody s_check_room) (defScope s_check_room) .none kV dc pm an cd ct), sl⟩) (c : PySem.W.codeIn K cd "check_room" = true) (k : PySem.W.keepIn K (.ref f) = true) : TF_check_room K mg :=
  ⟨f, _, fun_mk l c k, PySem.W.mg_of X G a, k, (fun_mk l c k).binds (fun _ _ _ _ _ _ us hl => match us, hl with | [_], _ => rfl), trivial⟩
theorem tf_is_in {h : Heap} {mg : Mg} (X : K.In h) (G : h.Ns mainGlobals mg) {f : Addr} {od an : Option Addr} {sl : Array (Option Value)} {oc kV dc pm cd ct : Value} (a : PySem.W.nsIn K mainGlobals "is_in" = some (some (.ref f))) (l : K.lookup f = some ⟨oc, od, .func (PySem.W.fnOf "is_in" "is_in" (defArgs s_is_in) (defBody s_is_in) (defScope s_is_in) .none kV dc pm an cd ct), sl⟩) (c : PySem.W.codeIn K cd "is_in" = true) (k : PySem.W.keepIn K (.ref f) = true) : TF_is_in K mg :=
  ⟨f, _, fun_mk l c k, PySem.W.mg_of X G a, k, (fun_mk l c k).binds (fun _ _ _ _ _ _ us hl => match us, hl with | [_, _], _ => rfl), ⟨fun s ws _ hl => match ws, hl with | [_, _], _ => .of_eq rfl⟩⟩
theorem tf__law_deck {h : Heap} {mg : Mg} (X : K.In h) (G : h.Ns mainGlobals mg) {f : Addr} {od an : Option Addr} {sl : Array (Option Value)} {oc kV dc pm cd ct : Value} (a : PySem.W.nsIn K mainGlobals "_law_deck" = some (some (.ref f))) (l : K.lookup f = some ⟨oc, od, .func (PySem.W.fnOf "_law_deck" "_law_deck" (defArgs s__law_deck) (defBody s__law_deck) (defScope s__law_deck) .none kV dc pm an cd ct), sl⟩) (c : PySem.W.codeIn K cd "_law_deck" = true) (k : PySem.W.keepIn K (.ref f) = true) : TF__law_deck K mg :=
  ⟨f, _, fun_mk l c k, PySem.W.mg_of X G a, k, (fun_mk l c k).binds (fun _ _ _ _ _ _ us hl => match us, hl with | [_, _, _], _ => rfl), trivial⟩
theorem tf__law_roll {h : Heap} {mg : Mg} (X : K.In h) (G : h.Ns mainGlobals mg) {f : Addr} {od an : Option Addr} {sl : Array (Option Value)} {oc kV dc pm cd ct : Value} (a : PySem.W.nsIn K mainGlobals "_law_roll" = some (some (.ref f))) (l : K.lookup f = some ⟨oc, od, .func (PySem.W.fnOf "_law_roll" "_law_roll" (defArgs s__law_roll) (defBody s__law_roll) (defScope s__law_roll) .none kV dc pm an cd ct), sl⟩) (c : PySem.W.codeIn K cd "_law_roll" = true) (k : PySem.W.keepIn K (.ref f) = true) : TF__law_roll K mg :=
  ⟨f, _, fun_mk l c k, PySem.W.mg_of X G a, k, (fun_mk l c k).binds (fun _ _ _ _ _ _ us hl => match us, hl with | [_, _], _ => rfl), trivial⟩
theorem tf__law_pick {h : Heap} {mg : Mg} (X : K.In h) (G : h.Ns mainGlobals mg) {f : Addr} {od an : Option Addr} {sl : Array (Option Value)} {oc kV dc pm cd ct : Value} (a : PySem.W.nsIn K mainGlobals "_law_pick" = some (some (.ref f))) (l : K.lookup f = some ⟨oc, od, .func (PySem.W.fnOf "_law_pick" "_law_pick" (defArgs s__law_pick) (defBody s__law_pick) (defScope s__law_pick) .none kV dc pm an cd ct), sl⟩) (c : PySem.W.codeIn K cd "_law_pick" = true) (k : PySem.W.keepIn K (.ref f) = true) : TF__law_pick K mg :=
  ⟨f, _, fun_mk l c k, PySem.W.mg_of X G a, k, (fun_mk l c k).binds (fun _ _ _ _ _ _ us hl => match us, hl with | [_, _], _ => rfl), trivial⟩
theorem tf__law_odd {h : Heap} {mg : Mg} (X : K.In h) (G : h.Ns mainGlobals mg) {f : Addr} {od an : Option Addr} {sl : Array (Option Value)} {oc kV dc pm cd ct : Value} (a : PySem.W.nsIn K mainGlobals "_law_odd" = some (some (.ref f))) (l : K.lookup f = some ⟨oc, od, .func (PySem.W.fnOf "_law_odd" "_law_odd" (defArgs s__law_odd) (defBody s__law_odd) (defScope s__law_odd) .none kV dc pm an cd ct), sl⟩) (c : PySem.W.codeIn K cd "_law_odd" = true) (k : PySem.W.keepIn K (.ref f) = true) : TF__law_odd K mg :=
  ⟨f, _, fun_mk l c k, PySem.W.mg_of X G a, k, (fun_mk l c k).binds (fun _ _ _ _ _ _ us hl => match us, hl with | [_], _ => rfl), trivial⟩
theorem tf__law_gcd {h : Heap} {mg : Mg} (X : K.In h) (G : h.Ns mainGlobals mg) {f : Addr} {od an : Option Addr} {sl : Array (Option Value)} {oc kV dc pm cd ct : Value} (a : PySem.W.nsIn K mainGlobals "_law_gcd" = some (some (.ref f))) (l : K.lookup f = some ⟨oc, od, .func (PySem.W.fnOf "_law_gcd" "_law_gcd" (defArgs s__law_gcd) (defBody s__law_gcd) (defScope s__law_gcd) .none kV dc pm an cd ct), sl⟩) (c : PySem.W.codeIn K cd "_law_gcd" = true) (k : PySem.W.keepIn K (.ref f) = true) : TF__law_gcd K mg :=
  ⟨f, _, fun_mk l c k, PySem.W.mg_of X G a, k, (fun_mk l c k).binds (fun _ _ _ _ _ _ us hl => match us, hl with | [_, _], _ => rfl), trivial⟩
theorem tf__law_frac {h : Heap} {mg : Mg} (X : K.In h) (G : h.Ns mainGlobals mg) {f : Addr} {od an : Option Addr} {sl : Array (Option Value)} {oc kV dc pm cd ct : Value} (a : PySem.W.nsIn K mainGlobals "_law_frac" = some (some (.ref f))) (l : K.lookup f = some ⟨oc, od, .func (PySem.W.fnOf "_law_frac" "_law_frac" (defArgs s__law_frac) (defBody s__law_frac) (defScope s__law_frac) .none kV dc pm an cd ct), sl⟩) (c : PySem.W.codeIn K cd "_law_frac" = true) (k : PySem.W.keepIn K (.ref f) = true) : TF__law_frac K mg :=
  ⟨f, _, fun_mk l c k, PySem.W.mg_of X G a, k, (fun_mk l c k).binds (fun _ _ _ _ _ _ us hl => match us, hl with | [_, _], _ => rfl), trivial⟩
theorem tf__law_spot {h : Heap} {mg : Mg} (X : K.In h) (G : h.Ns mainGlobals mg) {f : Addr} {od an : Option Addr} {sl : Array (Option Value)} {oc kV dc pm cd ct : Value} (a : PySem.W.nsIn K mainGlobals "_law_spot" = some (some (.ref f))) (l : K.lookup f = some ⟨oc, od, .func (PySem.W.fnOf "_law_spot" "_law_spot" (defArgs s__law_spot) (defBody s__law_spot) (defScope s__law_spot) .none kV dc pm an cd ct), sl⟩) (c : PySem.W.codeIn K cd "_law_spot" = true) (k : PySem.W.keepIn K (.ref f) = true) : TF__law_spot K mg :=
  ⟨f, _, fun_mk l c k, PySem.W.mg_of X G a, k, (fun_mk l c k).binds (fun _ _ _ _ _ _ us hl => match us, hl with | [_, _], _ => rfl), trivial⟩
theorem tf__law_wholes {h : Heap} {mg : Mg} (X : K.In h) (G : h.Ns mainGlobals mg) {f : Addr} {od an : Option Addr} {sl : Array (Option Value)} {oc kV dc pm cd ct : Value} (a : PySem.W.nsIn K mainGlobals "_law_wholes" = some (some (.ref f))) (l : K.lookup f = some ⟨oc, od, .func (PySem.W.fnOf "_law_wholes" "_law_wholes" (defArgs s__law_wholes) (defBody s__law_wholes) (defScope s__law_wholes) .none kV dc pm an cd ct), sl⟩) (c : PySem.W.codeIn K cd "_law_wholes" = true) (k : PySem.W.keepIn K (.ref f) = true) : TF__law_wholes K mg :=
  ⟨f, _, fun_mk l c k, PySem.W.mg_of X G a, k, (fun_mk l c k).binds (fun _ _ _ _ _ _ us hl => match us, hl with | [_, _, _, _], _ => rfl), trivial⟩
theorem tf__law_plus {h : Heap} {mg : Mg} (X : K.In h) (G : h.Ns mainGlobals mg) {f : Addr} {od an : Option Addr} {sl : Array (Option Value)} {oc kV dc pm cd ct : Value} (a : PySem.W.nsIn K mainGlobals "_law_plus" = some (some (.ref f))) (l : K.lookup f = some ⟨oc, od, .func (PySem.W.fnOf "_law_plus" "_law_plus" (defArgs s__law_plus) (defBody s__law_plus) (defScope s__law_plus) .none kV dc pm an cd ct), sl⟩) (c : PySem.W.codeIn K cd "_law_plus" = true) (k : PySem.W.keepIn K (.ref f) = true) : TF__law_plus K mg :=
  ⟨f, _, fun_mk l c k, PySem.W.mg_of X G a, k, (fun_mk l c k).binds (fun _ _ _ _ _ _ us hl => match us, hl with | [_, _], _ => rfl), trivial⟩
theorem tf__law_times {h : Heap} {mg : Mg} (X : K.In h) (G : h.Ns mainGlobals mg) {f : Addr} {od an : Option Addr} {sl : Array (Option Value)} {oc kV dc pm cd ct : Value} (a : PySem.W.nsIn K mainGlobals "_law_times" = some (some (.ref f))) (l : K.lookup f = some ⟨oc, od, .func (PySem.W.fnOf "_law_times" "_law_times" (defArgs s__law_times) (defBody s__law_times) (defScope s__law_times) .none kV dc pm an cd ct), sl⟩) (c : PySem.W.codeIn K cd "_law_times" = true) (k : PySem.W.keepIn K (.ref f) = true) : TF__law_times K mg :=
  ⟨f, _, fun_mk l c k, PySem.W.mg_of X G a, k, (fun_mk l c k).binds (fun _ _ _ _ _ _ us hl => match us, hl with | [_, _], _ => rfl), trivial⟩
theorem tf__law_dot {h : Heap} {mg : Mg} (X : K.In h) (G : h.Ns mainGlobals mg) {f : Addr} {od an : Option Addr} {sl : Array (Option Value)} {oc kV dc pm cd ct : Value} (a : PySem.W.nsIn K mainGlobals "_law_dot" = some (some (.ref f))) (l : K.lookup f = some ⟨oc, od, .func (PySem.W.fnOf "_law_dot" "_law_dot" (defArgs s__law_dot) (defBody s__law_dot) (defScope s__law_dot) .none kV dc pm an cd ct), sl⟩) (c : PySem.W.codeIn K cd "_law_dot" = true) (k : PySem.W.keepIn K (.ref f) = true) : TF__law_dot K mg :=
  ⟨f, _, fun_mk l c k, PySem.W.mg_of X G a, k, (fun_mk l c k).binds (fun _ _ _ _ _ _ us hl => match us, hl with | [_, _], _ => rfl), trivial⟩
theorem tf__law_hall {h : Heap} {mg : Mg} (X : K.In h) (G : h.Ns mainGlobals mg) {f : Addr} {od an : Option Addr} {sl : Array (Option Value)} {oc kV dc pm cd ct : Value} (a : PySem.W.nsIn K mainGlobals "_law_hall" = some (some (.ref f))) (l : K.lookup f = some ⟨oc, od, .func (PySem.W.fnOf "_law_hall" "_law_hall" (defArgs s__law_hall) (defBody s__law_hall) (defScope s__law_hall) .none kV dc pm an cd ct), sl⟩) (c : PySem.W.codeIn K cd "_law_hall" = true) (k : PySem.W.keepIn K (.ref f) = true) : TF__law_hall K mg :=
  ⟨f, _, fun_mk l c k, PySem.W.mg_of X G a, k, (fun_mk l c k).binds (fun _ _ _ _ _ _ us hl => match us, hl with | [_, _, _, _], _ => rfl), trivial⟩
theorem tf__law_under {h : Heap} {mg : Mg} (X : K.In h) (G : h.Ns mainGlobals mg) {f : Addr} {od an : Option Addr} {sl : Array (Option Value)} {oc kV dc pm cd ct : Value} (a : PySem.W.nsIn K mainGlobals "_law_under" = some (some (.ref f))) (l : K.lookup f = some ⟨oc, od, .func (PySem.W.fnOf "_law_under" "_law_under" (defArgs s__law_under) (defBody s__law_under) (defScope s__law_under) .none kV dc pm an cd ct), sl⟩) (c : PySem.W.codeIn K cd "_law_under" = true) (k : PySem.W.keepIn K (.ref f) = true) : TF__law_under K mg :=
  ⟨f, _, fun_mk l c k, PySem.W.mg_of X G a, k, (fun_mk l c k).binds (fun _ _ _ _ _ _ us hl => match us, hl with | [_, _], _ => rfl), trivial⟩
theorem tf__law_inside {h : Heap} {mg : Mg} (X : K.In h) (G : h.Ns mainGlobals mg) {f : Addr} {od an : Option Addr} {sl : Array (Option Value)} {oc kV dc pm cd ct : Value} (a : PySem.W.nsIn K mainGlobals "_law_inside" = some (some (.ref f))) (l : K.lookup f = some ⟨oc, od, .func (PySem.W.fnOf "_law_inside" "_law_inside" (defArgs s__law_inside) (defBody s__law_inside) (defScope s__law_inside) .none kV dc pm an cd ct), sl⟩) (c : PySem.W.codeIn K cd "_law_inside" = true) (k : PySem.W.keepIn K (.ref f) = true) : TF__law_inside K mg :=
  ⟨f, _, fun_mk l c k, PySem.W.mg_of X G a, k, (fun_mk l c k).binds (fun _ _ _ _ _ _ us hl => match us, hl with | [_, _], _ => rfl), trivial⟩
theorem tf__law_whole {h : Heap} {mg : Mg} (X : K.In h) (G : h.Ns mainGlobals mg) {f : Addr} {od an : Option Addr} {sl : Array (Option Value)} {oc kV dc pm cd ct : Value} (a : PySem.W.nsIn K mainGlobals "_law_whole" = some (some (.ref f))) (l : K.lookup f = some ⟨oc, od, .func (PySem.W.fnOf "_law_whole" "_law_whole" (defArgs s__law_whole) (defBody s__law_whole) (defScope s__law_whole) .none kV dc pm an cd ct), sl⟩) (c : PySem.W.codeIn K cd "_law_whole" = true) (k : PySem.W.keepIn K (.ref f) = true) : TF__law_whole K mg :=
  ⟨f, _, fun_mk l c k, PySem.W.mg_of X G a, k, (fun_mk l c k).binds (fun _ _ _ _ _ _ us hl => match us, hl with | [_], _ => rfl), trivial⟩
theorem tf__law_is_frac {h : Heap} {mg : Mg} (X : K.In h) (G : h.Ns mainGlobals mg) {f : Addr} {od an : Option Addr} {sl : Array (Option Value)} {oc kV dc pm cd ct : Value} (a : PySem.W.nsIn K mainGlobals "_law_is_frac" = some (some (.ref f))) (l : K.lookup f = some ⟨oc, od, .func (PySem.W.fnOf "_law_is_frac" "_law_is_frac" (defArgs s__law_is_frac) (defBody s__law_is_frac) (defScope s__law_is_frac) .none kV dc pm an cd ct), sl⟩) (c : PySem.W.codeIn K cd "_law_is_frac" = true) (k : PySem.W.keepIn K (.ref f) = true) : TF__law_is_frac K mg :=
  ⟨f, _, fun_mk l c k, PySem.W.mg_of X G a, k, (fun_mk l c k).binds (fun _ _ _ _ _ _ us hl => match us, hl with | [_], _ => rfl), trivial⟩
theorem tf__law_is_line {h : Heap} {mg : Mg} (X : K.In h) (G : h.Ns mainGlobals mg) {f : Addr} {od an : Option Addr} {sl : Array (Option Value)} {oc kV dc pm cd ct : Value} (a : PySem.W.nsIn K mainGlobals "_law_is_line" = some (some (.ref f))) (l : K.lookup f = some ⟨oc, od, .func (PySem.W.fnOf "_law_is_line" "_law_is_line" (defArgs s__law_is_line) (defBody s__law_is_line) (defScope s__law_is_line) .none kV dc pm an cd ct), sl⟩) (c : PySem.W.codeIn K cd "_law_is_line" = true) (k : PySem.W.keepIn K (.ref f) = true) : TF__law_is_line K mg :=
  ⟨f, _, fun_mk l c k, PySem.W.mg_of X G a, k, (fun_mk l c k).binds (fun _ _ _ _ _ _ us hl => match us, hl with | [_, _], _ => rfl), trivial⟩
theorem tf__law_is_hall {h : Heap} {mg : Mg} (X : K.In h) (G : h.Ns mainGlobals mg) {f : Addr} {od an : Option Addr} {sl : Array (Option Value)} {oc kV dc pm cd ct : Value} (a : PySem.W.nsIn K mainGlobals "_law_is_hall" = some (some (.ref f))) (l : K.lookup f = some ⟨oc, od, .func (PySem.W.fnOf "_law_is_hall" "_law_is_hall" (defArgs s__law_is_hall) (defBody s__law_is_hall) (defScope s__law_is_hall) .none kV dc pm an cd ct), sl⟩) (c : PySem.W.codeIn K cd "_law_is_hall" = true) (k : PySem.W.keepIn K (.ref f) = true) : TF__law_is_hall K mg :=
  ⟨f, _, fun_mk l c k, PySem.W.mg_of X G a, k, (fun_mk l c k).binds (fun _ _ _ _ _ _ us hl => match us, hl with | [_], _ => rfl), trivial⟩
theorem tf__law_no_frac {h : Heap} {mg : Mg} (X : K.In h) (G : h.Ns mainGlobals mg) {f : Addr} {od an : Option Addr} {sl : Array (Option Value)} {oc kV dc pm cd ct : Value} (a : PySem.W.nsIn K mainGlobals "_law_no_frac" = some (some (.ref f))) (l : K.lookup f = some ⟨oc, od, .func (PySem.W.fnOf "_law_no_frac" "_law_no_frac" (defArgs s__law_no_frac) (defBody s__law_no_frac) (defScope s__law_no_frac) .none kV dc pm an cd ct), sl⟩) (c : PySem.W.codeIn K cd "_law_no_frac" = true) (k : PySem.W.keepIn K (.ref f) = true) : TF__law_no_frac K mg :=
  ⟨f, _, fun_mk l c k, PySem.W.mg_of X G a, k, (fun_mk l c k).binds (fun _ _ _ _ _ _ us hl => match us, hl with | [_], _ => rfl), trivial⟩
theorem tf__law_put {h : Heap} {mg : Mg} (X : K.In h) (G : h.Ns mainGlobals mg) {f : Addr} {od an : Option Addr} {sl : Array (Option Value)} {oc kV dc pm cd ct : Value} (a : PySem.W.nsIn K mainGlobals "_law_put" = some (some (.ref f))) (l : K.lookup f = some ⟨oc, od, .func (PySem.W.fnOf "_law_put" "_law_put" (defArgs s__law_put) (defBody s__law_put) (defScope s__law_put) .none kV dc pm an cd ct), sl⟩) (c : PySem.W.codeIn K cd "_law_put" = true) (k : PySem.W.keepIn K (.ref f) = true) : TF__law_put K mg :=
  ⟨f, _, fun_mk l c k, PySem.W.mg_of X G a, k, (fun_mk l c k).binds (fun _ _ _ _ _ _ us hl => match us, hl with | [_, _, _], _ => rfl), trivial⟩
theorem tf__law_bent_hall {h : Heap} {mg : Mg} (X : K.In h) (G : h.Ns mainGlobals mg) {f : Addr} {od an : Option Addr} {sl : Array (Option Value)} {oc kV dc pm cd ct : Value} (a : PySem.W.nsIn K mainGlobals "_law_bent_hall" = some (some (.ref f))) (l : K.lookup f = some ⟨oc, od, .func (PySem.W.fnOf "_law_bent_hall" "_law_bent_hall" (defArgs s__law_bent_hall) (defBody s__law_bent_hall) (defScope s__law_bent_hall) .none kV dc pm an cd ct), sl⟩) (c : PySem.W.codeIn K cd "_law_bent_hall" = true) (k : PySem.W.keepIn K (.ref f) = true) : TF__law_bent_hall K mg :=
  ⟨f, _, fun_mk l c k, PySem.W.mg_of X G a, k, (fun_mk l c k).binds (fun _ _ _ _ _ _ us hl => match us, hl with | [_, _], _ => rfl), trivial⟩
theorem tf__law_moved {h : Heap} {mg : Mg} (X : K.In h) (G : h.Ns mainGlobals mg) {f : Addr} {od an : Option Addr} {sl : Array (Option Value)} {oc kV dc pm cd ct : Value} (a : PySem.W.nsIn K mainGlobals "_law_moved" = some (some (.ref f))) (l : K.lookup f = some ⟨oc, od, .func (PySem.W.fnOf "_law_moved" "_law_moved" (defArgs s__law_moved) (defBody s__law_moved) (defScope s__law_moved) .none kV dc pm an cd ct), sl⟩) (c : PySem.W.codeIn K cd "_law_moved" = true) (k : PySem.W.keepIn K (.ref f) = true) : TF__law_moved K mg :=
  ⟨f, _, fun_mk l c k, PySem.W.mg_of X G a, k, (fun_mk l c k).binds (fun _ _ _ _ _ _ us hl => match us, hl with | [_, _, _], _ => rfl), trivial⟩
theorem tf_law {h : Heap} {mg : Mg} (X : K.In h) (G : h.Ns mainGlobals mg) {f : Addr} {od an : Option Addr} {sl : Array (Option Value)} {oc kV dc pm cd ct : Value} (a : PySem.W.nsIn K mainGlobals "law" = some (some (.ref f))) (l : K.lookup f = some ⟨oc, od, .func (PySem.W.fnOf "law" "law" (defArgs s_law) (defBody s_law) (defScope s_law) .none kV dc pm an cd ct), sl⟩) (c : PySem.W.codeIn K cd "law" = true) (k : PySem.W.keepIn K (.ref f) = true) : TF_law K mg :=
  ⟨f, _, fun_mk l c k, PySem.W.mg_of X G a, k, (fun_mk l c k).binds (fun _ _ _ _ _ _ us hl => match us, hl with | [_], _ => rfl), trivial⟩
theorem all_mk {h : Heap} {mg : Mg} {fa : Addr} (X : K.In h) (G : h.Ns mainGlobals mg) (hfa : mg "law" = some (.ref fa)) {f : Addr} {od an : Option Addr} {sl : Array (Option Value)} {oc kV dc pm cd ct : Value} (a : PySem.W.nsIn K mainGlobals "law" = some (some (.ref f))) (l : K.lookup f = some ⟨oc, od, .func (PySem.W.fnOf "law" "law" (defArgs s_law) (defBody s_law) (defScope s_law) .none kV dc pm an cd ct), sl⟩) (c : PySem.W.codeIn K cd "law" = true) (k : PySem.W.keepIn K (.ref f) = true) (T : Tx K mg) :
    ∃ fd : FuncData, (∀ (s : Shared) (v : Value), BindsTo s fd ⟨[v], []⟩ [("script", v)]) ∧ ∀ base : Heap, K.In base → base.Ns mainGlobals mg → FnG P w K mg base 8 fa fd ["script"] (spD K mg 1 d_law) := by
  have e := hfa.symm.trans (PySem.W.mg_of X G a)
  cases e
  exact ⟨_, fun s v => .of_eq rfl, fun base _ _ => FF_law T (fun_mk l c k)⟩
end
end LW

set_option Elab.async false
set_option linter.all false
set_option maxRecDepth 100000
set_option maxHeartbeats 4000001
namespace LW
open PySem PySem.Spec FW
open L2 (atI)


noncomputable def q_is_whole (value_ : D) : R D :=
 (andV (isiE "int" (pur value_)) (notV (isiE "bool" (pur value_))))
noncomputable def p_is_whole : List D → R D := fun ds => match ds with
 | [value_] => q_is_whole value_
 | _ => .bad
@[simp] theorem e_is_whole {value_ : D} : p_is_whole [value_] = q_is_whole value_ := rfl
theorem sd_is_whole : Sd d_is_whole p_is_whole := by
  refine sd_of ?_ ?_
  · intro ds h
    match ds, h with
    | [value_], _ =>
    show J (m := R) [.d value_] _ (q_is_whole value_) (TV true (rtD anyP))
    unfold q_is_whole
    exact (j_escT (jt_ret (je_and (je_isi (je_var 0)) (je_not (je_isi (je_var 0)))) any_ok))
  · intro ds h
    rcases ds with _ | ⟨a0, _ | ⟨a1, ds⟩⟩ <;> first | exact absurd rfl h | rfl
noncomputable def q_is_between (value_ low_ high_ : D) : R D :=
 (andV (call p_is_whole (acons (pur value_) (pur []))) (chn leB leB (pur low_) (pur value_) (pur high_)))
noncomputable def p_is_between : List D → R D := fun ds => match ds with
 | [value_, low_, high_] => q_is_between value_ low_ high_
 | _ => .bad
@[simp] theorem e_is_between {value_ low_ high_ : D} : p_is_between [value_, low_, high_] = q_is_between value_ low_ high_ := rfl
theorem sd_is_between : Sd d_is_between p_is_between := by
  refine sd_of ?_ ?_
  · intro ds h
    match ds, h with
    | [value_, low_, high_], _ =>
    show J (m := R) [.d value_, .d low_, .d high_] _ (q_is_between value_ low_ high_) (TV true (rtD anyP))
    unfold q_is_between
    exact (j_escT (jt_ret (je_and (je_call sd_is_whole (jw_cons (je_var 0) jw_nil)) (je_chn (je_var 1) (je_var 0) (je_var 2))) any_ok))
  · intro ds h
    rcases ds with _ | ⟨a0, _ | ⟨a1, _ | ⟨a2, _ | ⟨a3, ds⟩⟩⟩⟩ <;> first | exact absurd rfl h | rfl
noncomputable def q_are_wholes (value_ many_ : D) : R D :=
 (andV (isiE "tuple" (pur value_)) (andV (bin pEq (lenE value_) (pur many_)) (prim pAll (acons (lstD (cap 1000000 (items (pur value_)) (mapM' fun number_ => (Mo.nx (call p_is_whole (acons (pur number_) (pur []))))))) (pur [])))))
noncomputable def p_are_wholes : List D → R D := fun ds => match ds with
 | [value_, many_] => q_are_wholes value_ many_
 | _ => .bad
@[simp] theorem e_are_wholes {value_ many_ : D} : p_are_wholes [value_, many_] = q_are_wholes value_ many_ := rfl
theorem sd_are_wholes : Sd d_are_wholes p_are_wholes := by
  refine sd_of ?_ ?_
  · intro ds h
    match ds, h with
    | [value_, many_], _ =>
    show J (m := R) [.d value_, .d many_, .j] _ (q_are_wholes value_ many_) (TV true (rtD anyP))
    unfold q_are_wholes
    exact (j_escT (jt_ret (je_and (je_isi (je_var 0)) (je_and (je_bin (je_len 0) (je_var 1)) (je_prim (ja_cons (je_own (jo_comp (ji_seq (je_var 0)) (fun number_ => (jg_n (of_decide_eq_true rfl) (jc_elt (je_call sd_is_whole (jw_cons (je_var 2) jw_nil)) (Le.cons SLe.re <| Le.cons SLe.re <| Le.cons SLe.ju <| Le.nil)))))) ja_nil)))) any_ok))
  · intro ds h
    rcases ds with _ | ⟨a0, _ | ⟨a1, _ | ⟨a2, ds⟩⟩⟩ <;> first | exact absurd rfl h | rfl
noncomputable def q_divisor_of (numbers_ : D) : R D :=
 (Mo.bind (pur (.int 0)) fun found_ =>
 (Mo.bind (Mo.bind (items (pur numbers_)) fun xs => foldM' (fun number_ found_ => (Mo.bind (prim pGcd (acons (pur found_) (acons (pur number_) (pur [])))) fun found_ =>
 (pur found_))) xs found_) fun found_ =>
 (pur found_)))
noncomputable def p_divisor_of : List D → R D := fun ds => match ds with
 | [numbers_] => q_divisor_of numbers_
 | _ => .bad
@[simp] theorem e_divisor_of {numbers_ : D} : p_divisor_of [numbers_] = q_divisor_of numbers_ := rfl
theorem sd_divisor_of : Sd d_divisor_of p_divisor_of := by
  refine sd_of ?_ ?_
  · intro ds h
    match ds, h with
    | [numbers_], _ =>
    show J (m := R) [.d numbers_, .j, .j] _ (q_divisor_of numbers_) (TV true (rtD anyP))
    unfold q_divisor_of
    exact (j_seqE (C' := (fun (found_ : D) => ([.d numbers_, .d found_, .j] : List Sl))) (js_set (β := D) (jv_fz je_k)) (fun _ => rfl) (fun found_ =>
 (j_seq (js_for (B' := (fun (found_ : D) => ([.d numbers_, .d found_, .j] : List Sl))) (ji_seq (je_var 0)) Le.rfl' (fun number_ found_ => (jg_n (of_decide_eq_true rfl) (j_seqE (C' := (fun (found_ : D) => ([.d numbers_, .d found_, .d number_] : List Sl))) (js_set (β := D) (jv_fz (je_prim (ja_cons (je_var 1) (ja_cons (je_var 2) ja_nil))))) (fun _ => rfl) (fun found_ =>
 (jn_end (Le.cons SLe.re <| Le.cons SLe.re <| Le.cons SLe.ju <| Le.nil))))))) (fun found_ =>
 (j_escT (jt_ret (je_move 1) any_ok))))))
  · intro ds h
    rcases ds with _ | ⟨a0, _ | ⟨a1, ds⟩⟩ <;> first | exact absurd rfl h | rfl
noncomputable def q_is_reduced (numbers_ : D) : R D :=
 (bin pEq (call p_divisor_of (acons (pur numbers_) (pur []))) (pur (.int 1)))
noncomputable def p_is_reduced : List D → R D := fun ds => match ds with
 | [numbers_] => q_is_reduced numbers_
 | _ => .bad
@[simp] theorem e_is_reduced {numbers_ : D} : p_is_reduced [numbers_] = q_is_reduced numbers_ := rfl
theorem sd_is_reduced : Sd d_is_reduced p_is_reduced := by
  refine sd_of ?_ ?_
  · intro ds h
    match ds, h with
    | [numbers_], _ =>
    show J (m := R) [.d numbers_] _ (q_is_reduced numbers_) (TV true (rtD anyP))
    unfold q_is_reduced
    exact (j_escT (jt_ret (je_bin (je_call sd_divisor_of (jw_cons (je_var 0) jw_nil)) je_k) any_ok))
  · intro ds h
    rcases ds with _ | ⟨a0, _ | ⟨a1, ds⟩⟩ <;> first | exact absurd rfl h | rfl
noncomputable def q_is_ratio (value_ : D) : R D :=
 (andV (call p_are_wholes (acons (pur value_) (acons (pur (.int 2)) (pur [])))) (andV (bin pGt (atE value_ (pur (.int 1))) (pur (.int 0))) (call p_is_reduced (acons (pur value_) (pur [])))))
noncomputable def p_is_ratio : List D → R D := fun ds => match ds with
 | [value_] => q_is_ratio value_
 | _ => .bad
@[simp] theorem e_is_ratio {value_ : D} : p_is_ratio [value_] = q_is_ratio value_ := rfl
theorem sd_is_ratio : Sd d_is_ratio p_is_ratio := by
  refine sd_of ?_ ?_
  · intro ds h
    match ds, h with
    | [value_], _ =>
    show J (m := R) [.d value_] _ (q_is_ratio value_) (TV true (rtD anyP))
    unfold q_is_ratio
    exact (j_escT (jt_ret (je_and (je_call sd_are_wholes (jw_cons (je_var 0) (jw_cons je_k jw_nil))) (je_and (je_bin (je_at 0 je_k) je_k) (je_call sd_is_reduced (jw_cons (je_var 0) jw_nil)))) any_ok))
  · intro ds h
    rcases ds with _ | ⟨a0, _ | ⟨a1, ds⟩⟩ <;> first | exact absurd rfl h | rfl
noncomputable def q_are_ratios (value_ many_ : D) : R D :=
 (andV (isiE "tuple" (pur value_)) (andV (bin pEq (lenE value_) (pur many_)) (prim pAll (acons (lstD (cap 1000000 (items (pur value_)) (mapM' fun each_ => (Mo.nx (call p_is_ratio (acons (pur each_) (pur []))))))) (pur [])))))
noncomputable def p_are_ratios : List D → R D := fun ds => match ds with
 | [value_, many_] => q_are_ratios value_ many_
 | _ => .bad
@[simp] theorem e_are_ratios {value_ many_ : D} : p_are_ratios [value_, many_] = q_are_ratios value_ many_ := rfl
theorem sd_are_ratios : Sd d_are_ratios p_are_ratios := by
  refine sd_of ?_ ?_
  · intro ds h
    match ds, h with
    | [value_, many_], _ =>
    show J (m := R) [.d value_, .d many_, .j] _ (q_are_ratios value_ many_) (TV true (rtD anyP))
    unfold q_are_ratios
    exact (j_escT (jt_ret (je_and (je_isi (je_var 0)) (je_and (je_bin (je_len 0) (je_var 1)) (je_prim (ja_cons (je_own (jo_comp (ji_seq (je_var 0)) (fun each_ => (jg_n (of_decide_eq_true rfl) (jc_elt (je_call sd_is_ratio (jw_cons (je_var 2) jw_nil)) (Le.cons SLe.re <| Le.cons SLe.re <| Le.cons SLe.ju <| Le.nil)))))) ja_nil)))) any_ok))
  · intro ds h
    rcases ds with _ | ⟨a0, _ | ⟨a1, _ | ⟨a2, ds⟩⟩⟩ <;> first | exact absurd rfl h | rfl
noncomputable def q_is_roomed (value_ : D) : R D :=
 (ifE (tor (tnot (tst (isiE "tuple" (pur value_)))) (tor (tst (bin pNe (lenE value_) (pur (.int 3)))) (tnot (tst (call p_is_between (acons (atE value_ (pur (.int 0))) (acons (pur (.int 1)) (acons (pur (.int 3)) (pur []))))))))) (pur (.bool false)) (ifE (tor (tnot (tst (isiE "tuple" (atE value_ (pur (.int 1)))))) (tst (bin pGt (prim pLen (acons (atE value_ (pur (.int 1))) (pur []))) (pur (.int 6))))) (pur (.bool false)) (andV (prim pAll (acons (lstD (cap 1000000 (items (atE value_ (pur (.int 1)))) (mapM' fun row_ => (Mo.nx (call p_are_ratios (acons (pur row_) (acons (atE value_ (pur (.int 0))) (pur [])))))))) (pur []))) (call p_are_ratios (acons (atE value_ (pur (.int 2))) (acons (prim pLen (acons (atE value_ (pur (.int 1))) (pur []))) (pur [])))))))
noncomputable def p_is_roomed : List D → R D := fun ds => match ds with
 | [value_] => q_is_roomed value_
 | _ => .bad
@[simp] theorem e_is_roomed {value_ : D} : p_is_roomed [value_] = q_is_roomed value_ := rfl
theorem sd_is_roomed : Sd d_is_roomed p_is_roomed := by
  refine sd_of ?_ ?_
  · intro ds h
    match ds, h with
    | [value_], _ =>
    show J (m := R) [.d value_, .j] _ (q_is_roomed value_) (TV true (rtD anyP))
    unfold q_is_roomed
    exact (j_ifc (jt_or (jt_not (jt_val (je_isi (je_var 0)))) (jt_or (jt_val (je_bin (je_len 0) je_k)) (jt_not (jt_val (je_call sd_is_between (jw_cons (je_at 0 je_k) (jw_cons je_k (jw_cons je_k jw_nil)))))))) (j_escT (j_escT (jt_ret je_k any_ok))) (j_nilc (j_ifc (jt_or (jt_not (jt_val (je_isi (je_at 0 je_k)))) (jt_val (je_bin (je_prim (ja_cons (je_at 0 je_k) ja_nil)) je_k))) (j_escT (j_escT (jt_ret je_k any_ok))) (j_nilc (j_escT (jt_ret (je_and (je_prim (ja_cons (je_own (jo_comp (ji_seq (je_at 0 je_k)) (fun row_ => (jg_n (of_decide_eq_true rfl) (jc_elt (je_call sd_are_ratios (jw_cons (je_var 1) (jw_cons (je_at 0 je_k) jw_nil))) (Le.cons SLe.re <| Le.cons SLe.ju <| Le.nil)))))) ja_nil)) (je_call sd_are_ratios (jw_cons (je_at 0 je_k) (jw_cons (je_prim (ja_cons (je_at 0 je_k) ja_nil)) jw_nil)))) any_ok))))))
  · intro ds h
    rcases ds with _ | ⟨a0, _ | ⟨a1, ds⟩⟩ <;> first | exact absurd rfl h | rfl
noncomputable def q_is_room (value_ : D) : R D :=
 (call p_is_roomed (acons (pur value_) (pur [])))
noncomputable def p_is_room : List D → R D := fun ds => match ds with
 | [value_] => q_is_room value_
 | _ => .bad
@[simp] theorem e_is_room {value_ : D} : p_is_room [value_] = q_is_room value_ := rfl
theorem sd_is_room : Sd d_is_room p_is_room := by
  refine sd_of ?_ ?_
  · intro ds h
    match ds, h with
    | [value_], _ =>
    show J (m := R) [.d value_] _ (q_is_room value_) (TV true (rtD anyP))
    unfold q_is_room
    exact (j_escT (jt_ret (je_call sd_is_roomed (jw_cons (je_var 0) jw_nil)) any_ok))
  · intro ds h
    rcases ds with _ | ⟨a0, _ | ⟨a1, ds⟩⟩ <;> first | exact absurd rfl h | rfl
noncomputable def q_check_row_of (many_ value_ : D) : R D :=
 (ifE (tor (tnot (tst (isiE "tuple" (pur value_)))) (tst (bin pNe (lenE value_) (pur many_)))) (Mo.lift .bad) (thenL (Mo.bind (enuE (acons (pur value_) (pur []))) fun xs => forM' (μ := D) (fun it0 _ => (un2 it0 fun index_ each_ => (ifE (tnot (tst (call p_is_ratio (acons (pur each_) (pur []))))) (Mo.lift .bad) (pur (.nx (())))))) xs (())) fun _ =>
 (pur .none)))
noncomputable def p_check_row_of : List D → R D := fun ds => match ds with
 | [many_, value_] => q_check_row_of many_ value_
 | _ => .bad
@[simp] theorem e_check_row_of {many_ value_ : D} : p_check_row_of [many_, value_] = q_check_row_of many_ value_ := rfl
theorem sd_check_row_of : Sd d_check_row_of p_check_row_of := by
  refine sd_of ?_ ?_
  · intro ds h
    match ds, h with
    | [many_, value_], _ =>
    show J (m := R) [.d many_, .d value_, .j, .j] _ (q_check_row_of many_ value_) (TV true (rtD anyP))
    unfold q_check_row_of
    exact (j_ifc (jt_or (jt_not (jt_val (je_isi (je_var 1)))) (jt_val (je_bin (je_len 1) (je_var 0)))) (j_escT (j_escT j_bad)) (j_nilc (j_thenL (jl_for (B' := (fun (_ : Unit) => ([.d many_, .d value_, .j, .j] : List Sl))) (ji_enum (ja_cons (je_var 1) ja_nil)) Le.rfl' (fun it0 _ => (jg_2 fun index_ each_ => (jg_n (of_decide_eq_true rfl) (jg_n (of_decide_eq_true rfl) (j_ifc (jt_not (jt_val (je_call sd_is_ratio (jw_cons (je_var 3) jw_nil)))) (j_escB (j_escB j_bad)) (j_nilc (jb_end (Le.cons SLe.re <| Le.cons SLe.re <| Le.cons SLe.ju <| Le.cons SLe.ju <| Le.nil))))))))) (fun _ =>
 (jt_nil any_ok)))))
  · intro ds h
    rcases ds with _ | ⟨a0, _ | ⟨a1, _ | ⟨a2, ds⟩⟩⟩ <;> first | exact absurd rfl h | rfl
noncomputable def q_is_lower (one_ two_ : D) : R D :=
 (bin pLt (bin pMul (atE one_ (pur (.int 0))) (atE two_ (pur (.int 1)))) (bin pMul (atE two_ (pur (.int 0))) (atE one_ (pur (.int 1)))))
noncomputable def p_is_lower : List D → R D := fun ds => match ds with
 | [one_, two_] => q_is_lower one_ two_
 | _ => .bad
@[simp] theorem e_is_lower {one_ two_ : D} : p_is_lower [one_, two_] = q_is_lower one_ two_ := rfl
theorem sd_is_lower : Sd d_is_lower p_is_lower := by
  refine sd_of ?_ ?_
  · intro ds h
    match ds, h with
    | [one_, two_], _ =>
    show J (m := R) [.d one_, .d two_] _ (q_is_lower one_ two_) (TV true (rtD anyP))
    unfold q_is_lower
    exact (j_escT (jt_ret (je_bin (je_bin (je_at 0 je_k) (je_at 1 je_k)) (je_bin (je_at 1 je_k) (je_at 0 je_k))) any_ok))
  · intro ds h
    rcases ds with _ | ⟨a0, _ | ⟨a1, _ | ⟨a2, ds⟩⟩⟩ <;> first | exact absurd rfl h | rfl
noncomputable def q_ratio_with (number_ under_ : D) : R D :=
 (Mo.bind (call p_divisor_of (acons (tupE (acons (pur number_) (acons (pur under_) (pur [])))) (pur []))) fun part_ =>
 (Mo.bind (ifE (tst (bin pGt (pur under_) (pur (.int 0)))) (pur part_) (negV (pur part_))) fun part_ =>
 (tupE (acons (bin pDiv (pur number_) (pur part_)) (acons (bin pDiv (pur under_) (pur part_)) (pur []))))))
noncomputable def p_ratio_with : List D → R D := fun ds => match ds with
 | [number_, under_] => q_ratio_with number_ under_
 | _ => .bad
@[simp] theorem e_ratio_with {number_ under_ : D} : p_ratio_with [number_, under_] = q_ratio_with number_ under_ := rfl
theorem sd_ratio_with : Sd d_ratio_with p_ratio_with := by
  refine sd_of ?_ ?_
  · intro ds h
    match ds, h with
    | [number_, under_], _ =>
    show J (m := R) [.d number_, .d under_, .j] _ (q_ratio_with number_ under_) (TV true (rtD anyP))
    unfold q_ratio_with
    exact (j_seqE (C' := (fun (part_ : D) => ([.d number_, .d under_, .d part_] : List Sl))) (js_set (β := D) (jv_fz (je_call sd_divisor_of (jw_cons (je_tup (ja_cons (je_var 0) (ja_cons (je_var 1) ja_nil))) jw_nil)))) (fun _ => rfl) (fun part_ =>
 (j_seqE (C' := (fun (part_ : D) => ([.d number_, .d under_, .d part_] : List Sl))) (js_set (β := D) (jv_fz (je_if (jt_val (je_bin (je_var 1) je_k)) (je_var 2) (je_neg (je_var 2))))) (fun _ => rfl) (fun part_ =>
 (j_escT (jt_ret (je_tup (ja_cons (je_bin (je_var 0) (je_var 2)) (ja_cons (je_bin (je_var 1) (je_var 2)) ja_nil))) any_ok))))))
  · intro ds h
    rcases ds with _ | ⟨a0, _ | ⟨a1, _ | ⟨a2, ds⟩⟩⟩ <;> first | exact absurd rfl h | rfl
noncomputable def q_ratio_product (one_ two_ : D) : R D :=
 (call p_ratio_with (acons (bin pMul (atE one_ (pur (.int 0))) (atE two_ (pur (.int 0)))) (acons (bin pMul (atE one_ (pur (.int 1))) (atE two_ (pur (.int 1)))) (pur []))))
noncomputable def p_ratio_product : List D → R D := fun ds => match ds with
 | [one_, two_] => q_ratio_product one_ two_
 | _ => .bad
@[simp] theorem e_ratio_product {one_ two_ : D} : p_ratio_product [one_, two_] = q_ratio_product one_ two_ := rfl
theorem sd_ratio_product : Sd d_ratio_product p_ratio_product := by
  refine sd_of ?_ ?_
  · intro ds h
    match ds, h with
    | [one_, two_], _ =>
    show J (m := R) [.d one_, .d two_] _ (q_ratio_product one_ two_) (TV true (rtD anyP))
    unfold q_ratio_product
    exact (j_escT (jt_ret (je_call sd_ratio_with (jw_cons (je_bin (je_at 0 je_k) (je_at 1 je_k)) (jw_cons (je_bin (je_at 0 je_k) (je_at 1 je_k)) jw_nil))) any_ok))
  · intro ds h
    rcases ds with _ | ⟨a0, _ | ⟨a1, _ | ⟨a2, ds⟩⟩⟩ <;> first | exact absurd rfl h | rfl
noncomputable def q_ratio_sum (one_ two_ : D) : R D :=
 (call p_ratio_with (acons (bin pAdd (bin pMul (atE one_ (pur (.int 0))) (atE two_ (pur (.int 1)))) (bin pMul (atE two_ (pur (.int 0))) (atE one_ (pur (.int 1))))) (acons (bin pMul (atE one_ (pur (.int 1))) (atE two_ (pur (.int 1)))) (pur []))))
noncomputable def p_ratio_sum : List D → R D := fun ds => match ds with
 | [one_, two_] => q_ratio_sum one_ two_
 | _ => .bad
@[simp] theorem e_ratio_sum {one_ two_ : D} : p_ratio_sum [one_, two_] = q_ratio_sum one_ two_ := rfl
theorem sd_ratio_sum : Sd d_ratio_sum p_ratio_sum := by
  refine sd_of ?_ ?_
  · intro ds h
    match ds, h with
    | [one_, two_], _ =>
    show J (m := R) [.d one_, .d two_] _ (q_ratio_sum one_ two_) (TV true (rtD anyP))
    unfold q_ratio_sum
    exact (j_escT (jt_ret (je_call sd_ratio_with (jw_cons (je_bin (je_bin (je_at 0 je_k) (je_at 1 je_k)) (je_bin (je_at 1 je_k) (je_at 0 je_k))) (jw_cons (je_bin (je_at 0 je_k) (je_at 1 je_k)) jw_nil))) any_ok))
  · intro ds h
    rcases ds with _ | ⟨a0, _ | ⟨a1, _ | ⟨a2, ds⟩⟩⟩ <;> first | exact absurd rfl h | rfl
noncomputable def q_total_of (numbers_ : D) : R D :=
 (Mo.bind (pur (.tuple [(.int 0), (.int 1)])) fun found_ =>
 (Mo.bind (Mo.bind (items (pur numbers_)) fun xs => foldM' (fun number_ found_ => (Mo.bind (call p_ratio_sum (acons (pur found_) (acons (pur number_) (pur [])))) fun found_ =>
 (pur found_))) xs found_) fun found_ =>
 (pur found_)))
noncomputable def p_total_of : List D → R D := fun ds => match ds with
 | [numbers_] => q_total_of numbers_
 | _ => .bad
@[simp] theorem e_total_of {numbers_ : D} : p_total_of [numbers_] = q_total_of numbers_ := rfl
theorem sd_total_of : Sd d_total_of p_total_of := by
  refine sd_of ?_ ?_
  · intro ds h
    match ds, h with
    | [numbers_], _ =>
    show J (m := R) [.d numbers_, .j, .j] _ (q_total_of numbers_) (TV true (rtD anyP))
    unfold q_total_of
    exact (j_seqE (C' := (fun (found_ : D) => ([.d numbers_, .d found_, .j] : List Sl))) (js_set (β := D) (jv_fz je_k)) (fun _ => rfl) (fun found_ =>
 (j_seq (js_for (B' := (fun (found_ : D) => ([.d numbers_, .d found_, .j] : List Sl))) (ji_seq (je_var 0)) Le.rfl' (fun number_ found_ => (jg_n (of_decide_eq_true rfl) (j_seqE (C' := (fun (found_ : D) => ([.d numbers_, .d found_, .d number_] : List Sl))) (js_set (β := D) (jv_fz (je_call sd_ratio_sum (jw_cons (je_var 1) (jw_cons (je_var 2) jw_nil))))) (fun _ => rfl) (fun found_ =>
 (jn_end (Le.cons SLe.re <| Le.cons SLe.re <| Le.cons SLe.ju <| Le.nil))))))) (fun found_ =>
 (j_escT (jt_ret (je_move 1) any_ok))))))
  · intro ds h
    rcases ds with _ | ⟨a0, _ | ⟨a1, ds⟩⟩ <;> first | exact absurd rfl h | rfl
noncomputable def q_dot (row_ other_ : D) : R D :=
 (call p_total_of (acons (lstD (cap 1000000 (zipE (acons (pur row_) (acons (pur other_) (pur [])))) (mapM' fun it0 => (un2 it0 fun one_ two_ => (Mo.nx (call p_ratio_product (acons (pur one_) (acons (pur two_) (pur []))))))))) (pur [])))
noncomputable def p_dot : List D → R D := fun ds => match ds with
 | [row_, other_] => q_dot row_ other_
 | _ => .bad
@[simp] theorem e_dot {row_ other_ : D} : p_dot [row_, other_] = q_dot row_ other_ := rfl
theorem sd_dot : Sd d_dot p_dot := by
  refine sd_of ?_ ?_
  · intro ds h
    match ds, h with
    | [row_, other_], _ =>
    show J (m := R) [.d row_, .d other_, .j, .j] _ (q_dot row_ other_) (TV true (rtD anyP))
    unfold q_dot
    exact (j_escT (jt_ret (je_call sd_total_of (jw_cons (je_own (jo_comp (ji_zip (ja_cons (je_var 0) (ja_cons (je_var 1) ja_nil))) (fun it0 => (jg_2 fun one_ two_ => (jg_n (of_decide_eq_true rfl) (jg_n (of_decide_eq_true rfl) (jc_elt (je_call sd_ratio_product (jw_cons (je_var 2) (jw_cons (je_var 3) jw_nil))) (Le.cons SLe.re <| Le.cons SLe.re <| Le.cons SLe.ju <| Le.cons SLe.ju <| Le.nil)))))))) jw_nil)) any_ok))
  · intro ds h
    rcases ds with _ | ⟨a0, _ | ⟨a1, _ | ⟨a2, ds⟩⟩⟩ <;> first | exact absurd rfl h | rfl
noncomputable def q_is_held (room_ place_ : D) : R D :=
 (notV (prim pAny (acons (lstD (cap 1000000 (zipE (acons (atE room_ (pur (.int 1))) (acons (atE room_ (pur (.int 2))) (pur [])))) (mapM' fun it0 => (un2 it0 fun row_ limit_ => (Mo.nx (call p_is_lower (acons (pur limit_) (acons (call p_dot (acons (pur row_) (acons (pur place_) (pur [])))) (pur []))))))))) (pur []))))
noncomputable def p_is_held : List D → R D := fun ds => match ds with
 | [room_, place_] => q_is_held room_ place_
 | _ => .bad
@[simp] theorem e_is_held {room_ place_ : D} : p_is_held [room_, place_] = q_is_held room_ place_ := rfl
theorem sd_is_held : Sd d_is_held p_is_held := by
  refine sd_of ?_ ?_
  · intro ds h
    match ds, h with
    | [room_, place_], _ =>
    show J (m := R) [.d room_, .d place_, .j, .j] _ (q_is_held room_ place_) (TV true (rtD anyP))
    unfold q_is_held
    exact (j_escT (jt_ret (je_not (je_prim (ja_cons (je_own (jo_comp (ji_zip (ja_cons (je_at 0 je_k) (ja_cons (je_at 0 je_k) ja_nil))) (fun it0 => (jg_2 fun row_ limit_ => (jg_n (of_decide_eq_true rfl) (jg_n (of_decide_eq_true rfl) (jc_elt (je_call sd_is_lower (jw_cons (je_var 3) (jw_cons (je_call sd_dot (jw_cons (je_var 2) (jw_cons (je_var 1) jw_nil))) jw_nil))) (Le.cons SLe.re <| Le.cons SLe.re <| Le.cons SLe.ju <| Le.cons SLe.ju <| Le.nil)))))))) ja_nil))) any_ok))
  · intro ds h
    rcases ds with _ | ⟨a0, _ | ⟨a1, _ | ⟨a2, ds⟩⟩⟩ <;> first | exact absurd rfl h | rfl
noncomputable def q_check_room (value_ : D) : R D :=
 (ifE (tnot (tst (call p_is_roomed (acons (pur value_) (pur []))))) (Mo.lift .bad) (pur .none))
noncomputable def p_check_room : List D → R D := fun ds => match ds with
 | [value_] => q_check_room value_
 | _ => .bad
@[simp] theorem e_check_room {value_ : D} : p_check_room [value_] = q_check_room value_ := rfl
theorem sd_check_room : Sd d_check_room p_check_room := by
  refine sd_of ?_ ?_
  · intro ds h
    match ds, h with
    | [value_], _ =>
    show J (m := R) [.d value_] _ (q_check_room value_) (TV true (rtD anyP))
    unfold q_check_room
    exact (j_ifc (jt_not (jt_val (je_call sd_is_roomed (jw_cons (je_var 0) jw_nil)))) (j_escT (j_escT j_bad)) (j_nilc (jt_nil any_ok)))
  · intro ds h
    rcases ds with _ | ⟨a0, _ | ⟨a1, ds⟩⟩ <;> first | exact absurd rfl h | rfl
noncomputable def q_is_in (room_ place_ : D) : R D :=
 (Mo.bind (Mo.bind (call p_check_room (acons (pur room_) (pur []))) fun _ => pur ()) fun _ =>
 (Mo.bind (Mo.bind (call p_check_row_of (acons (atE room_ (pur (.int 0))) (acons (pur place_) (pur [])))) fun _ => pur ()) fun _ =>
 (call p_is_held (acons (pur room_) (acons (pur place_) (pur []))))))
noncomputable def p_is_in : List D → R D := fun ds => match ds with
 | [room_, place_] => q_is_in room_ place_
 | _ => .bad
@[simp] theorem e_is_in {room_ place_ : D} : p_is_in [room_, place_] = q_is_in room_ place_ := rfl
theorem sd_is_in : Sd d_is_in p_is_in := by
  refine sd_of ?_ ?_
  · intro ds h
    match ds, h with
    | [room_, place_], _ =>
    show J (m := R) [.d room_, .d place_] _ (q_is_in room_ place_) (TV true (rtD anyP))
    unfold q_is_in
    exact (j_seqE (C' := (fun (_ : Unit) => ([.d room_, .d place_] : List Sl))) (js_drop (je_call sd_check_room (jw_cons (je_var 0) jw_nil))) (fun _ => rfl) (fun _ =>
 (j_seqE (C' := (fun (_ : Unit) => ([.d room_, .d place_] : List Sl))) (js_drop (je_call sd_check_row_of (jw_cons (je_at 0 je_k) (jw_cons (je_var 1) jw_nil)))) (fun _ => rfl) (fun _ =>
 (j_escT (jt_ret (je_call sd_is_held (jw_cons (je_var 0) (jw_cons (je_var 1) jw_nil))) any_ok))))))
  · intro ds h
    rcases ds with _ | ⟨a0, _ | ⟨a1, _ | ⟨a2, ds⟩⟩⟩ <;> first | exact absurd rfl h | rfl
noncomputable def q__law_deck (ns_ : List Int) (turn_ salt_ : D) : R (List D) :=
 (Mo.bind (bin pAdd (pur salt_) (bin pMul (pur (.int 104651)) (pur turn_))) fun mixed_ =>
 (Mo.bind (Mo.bind (items (lstD (pur ((cutD ns_ none (some 12)).map .int)))) fun xs => foldM' (fun cell_ mixed_ => (Mo.bind (bin pMod (prim pInt (acons (bin pAdd (bin pAdd (bin pMul (pur mixed_) (pur (.int 48073))) (bin pMul (bin pMod (prim pInt (acons (pur cell_) (pur []))) (pur (.int 1000000093))) (pur (.int 3)))) (pur (.int 77))) (pur []))) (pur (.int 2147483629))) fun mixed_ =>
 (pur mixed_))) xs mixed_) fun mixed_ =>
 (Mo.bind (ifE (tst (bin pLt (pur turn_) (pur (.int ns_.length)))) (prim pAbs (acons (prim pInt (acons (atE (.list (ns_.map .int)) (pur turn_)) (pur []))) (pur []))) (pur (.int 0))) fun great_ =>
 (capd (acons (ifE (tst (bin pGe (pur great_) (bin pPow (pur (.int 10)) (pur (.int 18))))) (pur great_) (pur (.int 0))) (acons (pur mixed_) (acons (pur salt_) (pur []))))))))
noncomputable def p__law_deck : List Int → List D → R (List D) := fun ns_ ds => match ds with
 | [turn_, salt_] => q__law_deck ns_ turn_ salt_
 | _ => .bad
@[simp] theorem e__law_deck {ns_ : List Int} {turn_ salt_ : D} : p__law_deck ns_ [turn_, salt_] = q__law_deck ns_ turn_ salt_ := rfl
theorem sd__law_deck : SdS d__law_deck p__law_deck := by
  refine sdS_of ?_ ?_
  · intro ns_ ds h
    match ds, h with
    | [turn_, salt_], _ =>
    show J (m := R) [.s ns_, .d turn_, .d salt_, .j, .j, .j] _ (q__law_deck ns_ turn_ salt_) (TV false (rtO (sP ns_)))
    unfold q__law_deck
    exact (j_seqE (C' := (fun (mixed_ : D) => ([.s ns_, .d turn_, .d salt_, .d mixed_, .j, .j] : List Sl))) (js_set (β := D) (jv_fz (je_bin (je_var 2) (je_bin je_k (je_var 1))))) (fun _ => rfl) (fun mixed_ =>
 (j_seq (js_for (B' := (fun (mixed_ : D) => ([.s ns_, .d turn_, .d salt_, .d mixed_, .j, .j] : List Sl))) (ji_seq (je_own (jo_cutS 0))) Le.rfl' (fun cell_ mixed_ => (jg_n (of_decide_eq_true rfl) (j_seqE (C' := (fun (mixed_ : D) => ([.s ns_, .d turn_, .d salt_, .d mixed_, .d cell_, .j] : List Sl))) (js_set (β := D) (jv_fz (je_bin (je_prim (ja_cons (je_bin (je_bin (je_bin (je_var 3) je_k) (je_bin (je_bin (je_prim (ja_cons (je_var 4) ja_nil)) je_k) je_k)) je_k) ja_nil)) je_k))) (fun _ => rfl) (fun mixed_ =>
 (jn_end (Le.cons SLe.re <| Le.cons SLe.re <| Le.cons SLe.re <| Le.cons SLe.re <| Le.cons SLe.ju <| Le.cons SLe.re <| Le.nil))))))) (fun mixed_ =>
 (j_seqE (C' := (fun (great_ : D) => ([.s ns_, .d turn_, .d salt_, .d mixed_, .j, .d great_] : List Sl))) (js_set (β := D) (jv_fz (je_if (jt_val (je_bin (je_var 1) (je_lenS 0))) (je_prim (ja_cons (je_prim (ja_cons (je_atS 0 (je_var 1)) ja_nil)) ja_nil)) je_k))) (fun _ => rfl) (fun great_ =>
 (j_escT (jt_retO (jo_lst (ja_cons (je_if (jt_val (je_bin (je_var 5) (je_bin je_k je_k))) (je_var 5) je_k) (ja_cons (je_var 3) (ja_cons (je_var 2) ja_nil)))) (s_ok rfl)))))))))
  · intro ns_ ds h
    rcases ds with _ | ⟨a0, _ | ⟨a1, _ | ⟨a2, ds⟩⟩⟩ <;> first | exact absurd rfl h | rfl
noncomputable def q__law_roll (width_ : D) : S D :=
 (ifE (tst (bin pGt (atK (pur (.int 0))) (pur (.int 0)))) (Mo.bind (bin pMod (prim pInt (acons (atK (pur (.int 0))) (pur []))) (pur width_)) fun figure_ =>
 (Mo.bind (setK (some 0) (bin pDiv (atK (pur (.int 0))) (pur width_))) fun _ =>
 (pur figure_))) (Mo.bind (setK (some 2) (bin pMod (prim pInt (acons (bin pAdd (bin pMul (atK (pur (.int 2))) (pur (.int 5))) (pur (.int 4021))) (pur []))) (pur (.int 65536)))) fun _ =>
 (Mo.bind (setK (some 1) (bin pMod (prim pInt (acons (bin pAdd (bin pAdd (bin pMul (atK (pur (.int 1))) (pur (.int 39373))) (atK (pur (.int 2)))) (pur (.int 1))) (pur []))) (pur (.int 2147483629)))) fun _ =>
 (bin pMod (prim pInt (acons (bin pDiv (atK (pur (.int 1))) (pur (.int 1013))) (pur []))) (pur width_)))))
noncomputable def p__law_roll : List D → S D := fun ds => match ds with
 | [width_] => q__law_roll width_
 | _ => (fun _ => .bad)
@[simp] theorem e__law_roll {width_ : D} : p__law_roll [width_] = q__law_roll width_ := rfl
theorem sd__law_roll : SdA d__law_roll p__law_roll := by
  refine sdA_of ?_ ?_
  · intro ds h
    match ds, h with
    | [width_], _ =>
    show J (m := S) [.k, .d width_, .j] _ (q__law_roll width_) (TV true (rtD kP))
    unfold q__law_roll
    exact (j_ifc (jt_val (je_bin (je_atK 0 je_k) je_k)) (j_escT (j_seqE (C' := (fun (figure_ : D) => ([.k, .d width_, .d figure_] : List Sl))) (js_set (β := D) (jv_fz (je_bin (je_prim (ja_cons (je_atK 0 je_k) ja_nil)) (je_var 1)))) (fun _ => rfl) (fun figure_ =>
 (j_seqE (C' := (fun (_ : Unit) => ([.k, .d width_, .d figure_] : List Sl))) (js_atK 0 (je_bin (je_atK 0 je_k) (je_var 1)) ji_int) (fun _ => rfl) (fun _ =>
 (j_escT (jt_ret (je_move 2) (k_ok rfl)))))))) (j_nilc (j_seqE (C' := (fun (_ : Unit) => ([.k, .d width_, .j] : List Sl))) (js_atK 0 (je_bin (je_prim (ja_cons (je_bin (je_bin (je_atK 0 je_k) je_k) je_k) ja_nil)) je_k) ji_int) (fun _ => rfl) (fun _ =>
 (j_seqE (C' := (fun (_ : Unit) => ([.k, .d width_, .j] : List Sl))) (js_atK 0 (je_bin (je_prim (ja_cons (je_bin (je_bin (je_bin (je_atK 0 je_k) je_k) (je_atK 0 je_k)) je_k) ja_nil)) je_k) ji_int) (fun _ => rfl) (fun _ =>
 (j_escT (jt_ret (je_bin (je_prim (ja_cons (je_bin (je_atK 0 je_k) je_k) ja_nil)) (je_var 1)) (k_ok rfl)))))))))
  · intro ds dk h
    rcases ds with _ | ⟨a0, _ | ⟨a1, ds⟩⟩ <;> first | exact absurd rfl h | rfl
noncomputable def q__law_pick (some_ : D) : S D :=
 (atE some_ (callA p__law_roll (acons (lenE some_) (pur []))))
noncomputable def p__law_pick : List D → S D := fun ds => match ds with
 | [some_] => q__law_pick some_
 | _ => (fun _ => .bad)
@[simp] theorem e__law_pick {some_ : D} : p__law_pick [some_] = q__law_pick some_ := rfl
theorem sd__law_pick : SdA d__law_pick p__law_pick := by
  refine sdA_of ?_ ?_
  · intro ds h
    match ds, h with
    | [some_], _ =>
    show J (m := S) [.k, .d some_] _ (q__law_pick some_) (TV true (rtD kP))
    unfold q__law_pick
    exact (j_escT (jt_ret (je_at 1 (je_callA 0 sd__law_roll (jw_cons (je_len 1) jw_nil))) (k_ok rfl)))
  · intro ds dk h
    rcases ds with _ | ⟨a0, _ | ⟨a1, ds⟩⟩ <;> first | exact absurd rfl h | rfl
noncomputable def q__law_odd : S D :=
 (Mo.bind (lstD (capd (acons (pur .none) (acons (pur (.bool true)) (acons (pur (.bool false)) (acons (pur (.int 0)) (acons (pur (.int 1)) (acons (negV (pur (.int 3))) (acons (pur (.int 7)) (acons (bin pPow (pur (.int 10)) (pur (.int 30))) (acons (pur (.str "")) (acons (pur (.str "x")) (acons (pur (.str "1")) (acons (tupE (pur [])) (acons (tupE (acons (pur (.int 1)) (pur []))) (acons (tupE (acons (pur (.int 1)) (acons (pur (.int 1)) (pur [])))) (acons (tupE (acons (pur (.int 0)) (acons (pur (.int 1)) (pur [])))) (acons (tupE (acons (pur (.int 2)) (acons (pur (.int 4)) (pur [])))) (acons (tupE (acons (tupE (acons (pur (.int 1)) (acons (pur (.int 1)) (pur [])))) (pur []))) (pur [])))))))))))))))))))) fun some_ =>
 (Mo.bind (bin pAdd (pur some_) (lstD (capd (acons (tupE (acons (tupE (acons (tupE (acons (pur (.int 1)) (acons (pur (.int 1)) (pur [])))) (pur []))) (pur []))) (acons (tupE (acons (tupE (acons (tupE (acons (pur (.bool true)) (acons (pur (.int 1)) (pur [])))) (pur []))) (pur []))) (acons (tupE (acons (tupE (acons (tupE (acons (pur (.int 1)) (acons (pur (.int 0)) (pur [])))) (pur []))) (pur []))) (acons (tupE (acons (tupE (acons (tupE (acons (pur (.int 2)) (acons (pur (.int 4)) (pur [])))) (pur []))) (pur []))) (acons (lstD (capd (pur []))) (acons (lstD (capd (acons (pur (.int 1)) (acons (pur (.int 1)) (pur []))))) (acons (lstD (capd (acons (tupE (acons (pur (.int 1)) (acons (pur (.int 1)) (pur [])))) (pur [])))) (acons (pur (.dict [])) (acons (pur (.dict [(.str "x", .int 1)])) (pur []))))))))))))) fun some_ =>
 (Mo.bind (bin pAdd (pur some_) (lstD (capd (acons (tupE (acons (pur .none) (pur []))) (acons (tupE (acons (tupE (pur [])) (pur []))) (acons (tupE (acons (pur (.str "1")) (acons (pur (.int 1)) (pur [])))) (acons (tupE (acons (tupE (acons (pur (.int 0)) (acons (pur (.int 1)) (pur [])))) (acons (tupE (acons (pur (.int 0)) (acons (pur (.int 1)) (pur [])))) (pur [])))) (acons (tupE (acons (pur (.int 1)) (acons (tupE (pur [])) (acons (tupE (pur [])) (pur []))))) (acons (tupE (acons (pur (.int 2)) (acons (tupE (pur [])) (acons (tupE (pur [])) (pur []))))) (acons (tupE (acons (pur (.bool true)) (acons (tupE (pur [])) (acons (tupE (pur [])) (pur []))))) (acons (tupE (acons (pur (.int 0)) (acons (tupE (pur [])) (acons (tupE (pur [])) (pur []))))) (pur [])))))))))))) fun some_ =>
 (callA p__law_pick (acons (pur some_) (pur []))))))
noncomputable def p__law_odd : List D → S D := fun ds => match ds with
 | [] => q__law_odd 
 | _ => (fun _ => .bad)
@[simp] theorem e__law_odd : p__law_odd [] = q__law_odd  := rfl
theorem sd__law_odd : SdA d__law_odd p__law_odd := by
  refine sdA_of ?_ ?_
  · intro ds h
    match ds, h with
    | [], _ =>
    show J (m := S) [.k, .j] _ (q__law_odd ) (TV true (rtD kP))
    unfold q__law_odd
    exact (j_seqE (C' := (fun (some_ : D) => ([.k, .d some_] : List Sl))) (js_set (β := D) (jv_fz (je_own (jo_lst (ja_cons je_k (ja_cons je_k (ja_cons je_k (ja_cons je_k (ja_cons je_k (ja_cons (je_neg je_k) (ja_cons je_k (ja_cons (je_bin je_k je_k) (ja_cons je_k (ja_cons je_k (ja_cons je_k (ja_cons (je_tup ja_nil) (ja_cons (je_tup (ja_cons je_k ja_nil)) (ja_cons (je_tup (ja_cons je_k (ja_cons je_k ja_nil))) (ja_cons (je_tup (ja_cons je_k (ja_cons je_k ja_nil))) (ja_cons (je_tup (ja_cons je_k (ja_cons je_k ja_nil))) (ja_cons (je_tup (ja_cons (je_tup (ja_cons je_k (ja_cons je_k ja_nil))) ja_nil)) ja_nil))))))))))))))))))))) (fun _ => rfl) (fun some_ =>
 (j_seqE (C' := (fun (some_ : D) => ([.k, .d some_] : List Sl))) (js_set (β := D) (jv_fz (je_bin (je_var 1) (je_own (jo_lst (ja_cons (je_tup (ja_cons (je_tup (ja_cons (je_tup (ja_cons je_k (ja_cons je_k ja_nil))) ja_nil)) ja_nil)) (ja_cons (je_tup (ja_cons (je_tup (ja_cons (je_tup (ja_cons je_k (ja_cons je_k ja_nil))) ja_nil)) ja_nil)) (ja_cons (je_tup (ja_cons (je_tup (ja_cons (je_tup (ja_cons je_k (ja_cons je_k ja_nil))) ja_nil)) ja_nil)) (ja_cons (je_tup (ja_cons (je_tup (ja_cons (je_tup (ja_cons je_k (ja_cons je_k ja_nil))) ja_nil)) ja_nil)) (ja_cons (je_own (jo_lst ja_nil)) (ja_cons (je_own (jo_lst (ja_cons je_k (ja_cons je_k ja_nil)))) (ja_cons (je_own (jo_lst (ja_cons (je_tup (ja_cons je_k (ja_cons je_k ja_nil))) ja_nil))) (ja_cons je_k (ja_cons je_k ja_nil)))))))))))))) (fun _ => rfl) (fun some_ =>
 (j_seqE (C' := (fun (some_ : D) => ([.k, .d some_] : List Sl))) (js_set (β := D) (jv_fz (je_bin (je_var 1) (je_own (jo_lst (ja_cons (je_tup (ja_cons je_k ja_nil)) (ja_cons (je_tup (ja_cons (je_tup ja_nil) ja_nil)) (ja_cons (je_tup (ja_cons je_k (ja_cons je_k ja_nil))) (ja_cons (je_tup (ja_cons (je_tup (ja_cons je_k (ja_cons je_k ja_nil))) (ja_cons (je_tup (ja_cons je_k (ja_cons je_k ja_nil))) ja_nil))) (ja_cons (je_tup (ja_cons je_k (ja_cons (je_tup ja_nil) (ja_cons (je_tup ja_nil) ja_nil)))) (ja_cons (je_tup (ja_cons je_k (ja_cons (je_tup ja_nil) (ja_cons (je_tup ja_nil) ja_nil)))) (ja_cons (je_tup (ja_cons je_k (ja_cons (je_tup ja_nil) (ja_cons (je_tup ja_nil) ja_nil)))) (ja_cons (je_tup (ja_cons je_k (ja_cons (je_tup ja_nil) (ja_cons (je_tup ja_nil) ja_nil)))) ja_nil))))))))))))) (fun _ => rfl) (fun some_ =>
 (j_escT (jt_ret (je_callA 0 sd__law_pick (jw_cons (je_var 1) jw_nil)) (k_ok rfl)))))))))
  · intro ds dk h
    rcases ds with _ | ⟨a0, ds⟩ <;> first | exact absurd rfl h | rfl
noncomputable def q__law_gcd (one_ two_ : D) : R D :=
 (Mo.bind (goL (whileR (μ := Empty) (fun (one_, two_) => (tst (bin pGt (pur two_) (pur (.int 0))))) (fun (one_, two_) => (Mo.bind (pair (pur two_) (bin pMod (prim pInt (acons (pur one_) (pur []))) (pur two_))) fun (one_, two_) =>
 (pur (.nx ((one_, two_)))))) ((one_, two_)))) fun (one_, two_) =>
 (pur one_))
noncomputable def p__law_gcd : List D → R D := fun ds => match ds with
 | [one_, two_] => q__law_gcd one_ two_
 | _ => .bad
@[simp] theorem e__law_gcd {one_ two_ : D} : p__law_gcd [one_, two_] = q__law_gcd one_ two_ := rfl
theorem sd__law_gcd : Sd d__law_gcd p__law_gcd := by
  refine sd_of ?_ ?_
  · intro ds h
    match ds, h with
    | [one_, two_], _ =>
    show J (m := R) [.d one_, .d two_] _ (q__law_gcd one_ two_) (TV true (rtD anyP))
    unfold q__law_gcd
    exact (j_seq (j_goL (jl_while (B' := (fun (t : D × D) => ([.d t.1, .d t.2] : List Sl))) (RT := fun _ _ _ _ => True) Le.rfl' (fun (one_, two_) => (jt_val (je_bin (je_var 1) je_k))) (fun (one_, two_) => (j_seqE (C' := (fun (t : D × D) => ([.d t.1, .d t.2] : List Sl))) (js_tup2 (β1 := D) (β2 := D) (jv_fz (je_var 1)) (jv_fz (je_bin (je_prim (ja_cons (je_var 0) ja_nil)) (je_var 1)))) (fun _ => rfl) (fun (one_, two_) =>
 (jb_end Le.rfl')))))) (fun (one_, two_) =>
 (j_escT (jt_ret (je_move 0) any_ok))))
  · intro ds h
    rcases ds with _ | ⟨a0, _ | ⟨a1, _ | ⟨a2, ds⟩⟩⟩ <;> first | exact absurd rfl h | rfl
noncomputable def q__law_frac (top_ down_ : D) : R D :=
 (Mo.bind (ifE (tst (bin pLt (pur down_) (pur (.int 0)))) (negV (pur (.int 1))) (pur (.int 1))) fun sign_ =>
 (Mo.bind (call p__law_gcd (acons (prim pAbs (acons (pur down_) (pur []))) (acons (prim pAbs (acons (pur top_) (pur []))) (pur [])))) fun common_ =>
 (tupE (acons (bin pDiv (bin pMul (pur sign_) (pur top_)) (pur common_)) (acons (bin pDiv (bin pMul (pur sign_) (pur down_)) (pur common_)) (pur []))))))
noncomputable def p__law_frac : List D → R D := fun ds => match ds with
 | [top_, down_] => q__law_frac top_ down_
 | _ => .bad
@[simp] theorem e__law_frac {top_ down_ : D} : p__law_frac [top_, down_] = q__law_frac top_ down_ := rfl
theorem sd__law_frac : Sd d__law_frac p__law_frac := by
  refine sd_of ?_ ?_
  · intro ds h
    match ds, h with
    | [top_, down_], _ =>
    show J (m := R) [.d top_, .d down_, .j, .j] _ (q__law_frac top_ down_) (TV true (rtD anyP))
    unfold q__law_frac
    exact (j_seqE (C' := (fun (sign_ : D) => ([.d top_, .d down_, .d sign_, .j] : List Sl))) (js_set (β := D) (jv_fz (je_if (jt_val (je_bin (je_var 1) je_k)) (je_neg je_k) je_k))) (fun _ => rfl) (fun sign_ =>
 (j_seqE (C' := (fun (common_ : D) => ([.d top_, .d down_, .d sign_, .d common_] : List Sl))) (js_set (β := D) (jv_fz (je_call sd__law_gcd (jw_cons (je_prim (ja_cons (je_var 1) ja_nil)) (jw_cons (je_prim (ja_cons (je_var 0) ja_nil)) jw_nil))))) (fun _ => rfl) (fun common_ =>
 (j_escT (jt_ret (je_tup (ja_cons (je_bin (je_bin (je_var 2) (je_var 0)) (je_var 3)) (ja_cons (je_bin (je_bin (je_var 2) (je_var 1)) (je_var 3)) ja_nil))) any_ok))))))
  · intro ds h
    rcases ds with _ | ⟨a0, _ | ⟨a1, _ | ⟨a2, ds⟩⟩⟩ <;> first | exact absurd rfl h | rfl
noncomputable def q__law_spot (size_ : D) : S D :=
 (Mo.bind (pair (bin pAdd (pur (.int 1)) (bin pDiv (callA p__law_roll (acons (pur (.int 4)) (pur []))) (pur (.int 3)))) (capd (pur []))) fun (down_, found_) =>
 (Mo.bind (Mo.bind (rng1 (acons (pur size_) (pur []))) fun xs => foldM' (fun turn_ found_ => (Mo.bind (appE found_ (call p__law_frac (acons (bin pSub (callA p__law_roll (acons (pur (.int 5)) (pur []))) (pur (.int 2))) (acons (pur down_) (pur []))))) fun found_ =>
 (pur found_))) xs found_) fun found_ =>
 (prim pTuple (acons (pur (.list found_)) (pur [])))))
noncomputable def p__law_spot : List D → S D := fun ds => match ds with
 | [size_] => q__law_spot size_
 | _ => (fun _ => .bad)
@[simp] theorem e__law_spot {size_ : D} : p__law_spot [size_] = q__law_spot size_ := rfl
theorem sd__law_spot : SdA d__law_spot p__law_spot := by
  refine sdA_of ?_ ?_
  · intro ds h
    match ds, h with
    | [size_], _ =>
    show J (m := S) [.k, .d size_, .j, .j, .j] _ (q__law_spot size_) (TV true (rtD kP))
    unfold q__law_spot
    exact (j_seqE (C' := (fun (t : D × List D) => ([.k, .d size_, .d t.1, .o t.2, .j] : List Sl))) (js_tup2 (β1 := D) (β2 := List D) (jv_fz (je_bin je_k (je_bin (je_callA 0 sd__law_roll (jw_cons je_k jw_nil)) je_k))) (jo_lst ja_nil)) (fun _ => rfl) (fun (down_, found_) =>
 (j_seq (js_for (B' := (fun (found_ : List D) => ([.k, .d size_, .d down_, .o found_, .j] : List Sl))) (ji_rng1 (ja_cons (je_var 1) ja_nil)) Le.rfl' (fun turn_ found_ => (jg_n (of_decide_eq_true rfl) (j_seqE (C' := (fun (found_ : List D) => ([.k, .d size_, .d down_, .o found_, .d turn_] : List Sl))) (js_app 3 (je_call sd__law_frac (jw_cons (je_bin (je_callA 0 sd__law_roll (jw_cons je_k jw_nil)) je_k) (jw_cons (je_var 2) jw_nil)))) (fun _ => rfl) (fun found_ =>
 (jn_end (Le.cons SLe.re <| Le.cons SLe.re <| Le.cons SLe.re <| Le.cons SLe.re <| Le.cons SLe.ju <| Le.nil))))))) (fun found_ =>
 (j_escT (jt_ret (je_prim (ja_cons (je_varO 3) ja_nil)) (k_ok rfl)))))))
  · intro ds dk h
    rcases ds with _ | ⟨a0, _ | ⟨a1, ds⟩⟩ <;> first | exact absurd rfl h | rfl
noncomputable def q__law_wholes (size_ low_ width_ : D) : S D :=
 (Mo.bind (capd (pur [])) fun found_ =>
 (Mo.bind (Mo.bind (rng1 (acons (pur size_) (pur []))) fun xs => foldM' (fun turn_ found_ => (Mo.bind (appE found_ (bin pAdd (pur low_) (callA p__law_roll (acons (pur width_) (pur []))))) fun found_ =>
 (pur found_))) xs found_) fun found_ =>
 (pur (.list found_))))
noncomputable def p__law_wholes : List D → S D := fun ds => match ds with
 | [size_, low_, width_] => q__law_wholes size_ low_ width_
 | _ => (fun _ => .bad)
@[simp] theorem e__law_wholes {size_ low_ width_ : D} : p__law_wholes [size_, low_, width_] = q__law_wholes size_ low_ width_ := rfl
theorem sd__law_wholes : SdA d__law_wholes p__law_wholes := by
  refine sdA_of ?_ ?_
  · intro ds h
    match ds, h with
    | [size_, low_, width_], _ =>
    show J (m := S) [.k, .d size_, .d low_, .d width_, .j, .j] _ (q__law_wholes size_ low_ width_) (TV true (rtD kP))
    unfold q__law_wholes
    exact (j_seqE (C' := (fun (found_ : List D) => ([.k, .d size_, .d low_, .d width_, .o found_, .j] : List Sl))) (js_setO (jo_lst ja_nil)) (fun _ => rfl) (fun found_ =>
 (j_seq (js_for (B' := (fun (found_ : List D) => ([.k, .d size_, .d low_, .d width_, .o found_, .j] : List Sl))) (ji_rng1 (ja_cons (je_var 1) ja_nil)) Le.rfl' (fun turn_ found_ => (jg_n (of_decide_eq_true rfl) (j_seqE (C' := (fun (found_ : List D) => ([.k, .d size_, .d low_, .d width_, .o found_, .d turn_] : List Sl))) (js_app 4 (je_bin (je_var 2) (je_callA 0 sd__law_roll (jw_cons (je_var 3) jw_nil)))) (fun _ => rfl) (fun found_ =>
 (jn_end (Le.cons SLe.re <| Le.cons SLe.re <| Le.cons SLe.re <| Le.cons SLe.re <| Le.cons SLe.re <| Le.cons SLe.ju <| Le.nil))))))) (fun found_ =>
 (j_escT (jt_ret (je_moveO 4) (k_ok rfl)))))))
  · intro ds dk h
    rcases ds with _ | ⟨a0, _ | ⟨a1, _ | ⟨a2, _ | ⟨a3, ds⟩⟩⟩⟩ <;> first | exact absurd rfl h | rfl
noncomputable def q__law_plus (one_ two_ : D) : R D :=
 (call p__law_frac (acons (bin pAdd (bin pMul (atE one_ (pur (.int 0))) (atE two_ (pur (.int 1)))) (bin pMul (atE two_ (pur (.int 0))) (atE one_ (pur (.int 1))))) (acons (bin pMul (atE one_ (pur (.int 1))) (atE two_ (pur (.int 1)))) (pur []))))
noncomputable def p__law_plus : List D → R D := fun ds => match ds with
 | [one_, two_] => q__law_plus one_ two_
 | _ => .bad
@[simp] theorem e__law_plus {one_ two_ : D} : p__law_plus [one_, two_] = q__law_plus one_ two_ := rfl
theorem sd__law_plus : Sd d__law_plus p__law_plus := by
  refine sd_of ?_ ?_
  · intro ds h
    match ds, h with
    | [one_, two_], _ =>
    show J (m := R) [.d one_, .d two_] _ (q__law_plus one_ two_) (TV true (rtD anyP))
    unfold q__law_plus
    exact (j_escT (jt_ret (je_call sd__law_frac (jw_cons (je_bin (je_bin (je_at 0 je_k) (je_at 1 je_k)) (je_bin (je_at 1 je_k) (je_at 0 je_k))) (jw_cons (je_bin (je_at 0 je_k) (je_at 1 je_k)) jw_nil))) any_ok))
  · intro ds h
    rcases ds with _ | ⟨a0, _ | ⟨a1, _ | ⟨a2, ds⟩⟩⟩ <;> first | exact absurd rfl h | rfl
noncomputable def q__law_times (one_ two_ : D) : R D :=
 (call p__law_frac (acons (bin pMul (atE one_ (pur (.int 0))) (atE two_ (pur (.int 0)))) (acons (bin pMul (atE one_ (pur (.int 1))) (atE two_ (pur (.int 1)))) (pur []))))
noncomputable def p__law_times : List D → R D := fun ds => match ds with
 | [one_, two_] => q__law_times one_ two_
 | _ => .bad
@[simp] theorem e__law_times {one_ two_ : D} : p__law_times [one_, two_] = q__law_times one_ two_ := rfl
theorem sd__law_times : Sd d__law_times p__law_times := by
  refine sd_of ?_ ?_
  · intro ds h
    match ds, h with
    | [one_, two_], _ =>
    show J (m := R) [.d one_, .d two_] _ (q__law_times one_ two_) (TV true (rtD anyP))
    unfold q__law_times
    exact (j_escT (jt_ret (je_call sd__law_frac (jw_cons (je_bin (je_at 0 je_k) (je_at 1 je_k)) (jw_cons (je_bin (je_at 0 je_k) (je_at 1 je_k)) jw_nil))) any_ok))
  · intro ds h
    rcases ds with _ | ⟨a0, _ | ⟨a1, _ | ⟨a2, ds⟩⟩⟩ <;> first | exact absurd rfl h | rfl
noncomputable def q__law_dot (one_ two_ : D) : R D :=
 (Mo.bind (tupE (acons (pur (.int 0)) (acons (pur (.int 1)) (pur [])))) fun total_ =>
 (Mo.bind (Mo.bind (zipE (acons (pur one_) (acons (pur two_) (pur [])))) fun xs => foldM' (fun it0 total_ => (un2 it0 fun left_ right_ => (Mo.bind (call p__law_plus (acons (pur total_) (acons (call p__law_times (acons (pur left_) (acons (pur right_) (pur [])))) (pur [])))) fun total_ =>
 (pur total_)))) xs total_) fun total_ =>
 (pur total_)))
noncomputable def p__law_dot : List D → R D := fun ds => match ds with
 | [one_, two_] => q__law_dot one_ two_
 | _ => .bad
@[simp] theorem e__law_dot {one_ two_ : D} : p__law_dot [one_, two_] = q__law_dot one_ two_ := rfl
theorem sd__law_dot : Sd d__law_dot p__law_dot := by
  refine sd_of ?_ ?_
  · intro ds h
    match ds, h with
    | [one_, two_], _ =>
    show J (m := R) [.d one_, .d two_, .j, .j, .j] _ (q__law_dot one_ two_) (TV true (rtD anyP))
    unfold q__law_dot
    exact (j_seqE (C' := (fun (total_ : D) => ([.d one_, .d two_, .d total_, .j, .j] : List Sl))) (js_set (β := D) (jv_fz (je_tup (ja_cons je_k (ja_cons je_k ja_nil))))) (fun _ => rfl) (fun total_ =>
 (j_seq (js_for (B' := (fun (total_ : D) => ([.d one_, .d two_, .d total_, .j, .j] : List Sl))) (ji_zip (ja_cons (je_var 0) (ja_cons (je_var 1) ja_nil))) Le.rfl' (fun it0 total_ => (jg_2 fun left_ right_ => (jg_n (of_decide_eq_true rfl) (jg_n (of_decide_eq_true rfl) (j_seqE (C' := (fun (total_ : D) => ([.d one_, .d two_, .d total_, .d left_, .d right_] : List Sl))) (js_set (β := D) (jv_fz (je_call sd__law_plus (jw_cons (je_var 2) (jw_cons (je_call sd__law_times (jw_cons (je_var 3) (jw_cons (je_var 4) jw_nil))) jw_nil))))) (fun _ => rfl) (fun total_ =>
 (jn_end (Le.cons SLe.re <| Le.cons SLe.re <| Le.cons SLe.re <| Le.cons SLe.ju <| Le.cons SLe.ju <| Le.nil))))))))) (fun total_ =>
 (j_escT (jt_ret (je_move 2) any_ok))))))
  · intro ds h
    rcases ds with _ | ⟨a0, _ | ⟨a1, _ | ⟨a2, ds⟩⟩⟩ <;> first | exact absurd rfl h | rfl
noncomputable def q__law_hall (size_ most_ spot_ : D) : S D :=
 (Mo.bind (quad (callA p__law_roll (acons (pur (.int 4)) (pur []))) (callA p__law_pick (acons (lstD (capd (acons (pur (.int 1)) (acons (pur (.int 1)) (acons (pur (.int 2)) (pur [])))))) (pur []))) (capd (pur [])) (capd (pur []))) fun (way_, down_, lines_, tops_) =>
 (Mo.bind (Mo.bind (rng1 (acons (callA p__law_roll (acons (bin pAdd (pur most_) (pur (.int 1))) (pur []))) (pur []))) fun xs => foldM' (fun turn_ (lines_, tops_) => (Mo.bind (callA p__law_wholes (acons (pur size_) (acons (negV (pur (.int 2))) (acons (pur (.int 5)) (pur []))))) fun whole_ =>
 (Mo.bind (ifE (tst (bin pEq (pur way_) (pur (.int 1))))
 (Mo.bind (lstD (cap 1000000 (rng1 (acons (pur size_) (pur []))) (mapM' fun at_ => (Mo.nx (bin pMul (bin pSub (pur (.int 1)) (bin pMul (bin pMod (pur turn_) (pur (.int 2))) (pur (.int 2)))) (prim pInt (acons (bin pEq (pur at_) (bin pMod (bin pDiv (pur turn_) (pur (.int 2))) (pur size_))) (pur [])))))))) fun whole_ =>
 (pur whole_))
 (pur whole_)) fun whole_ =>
 (Mo.bind (prim pTuple (acons (lstD (cap 1000000 (items (pur whole_)) (mapM' fun x_ => (Mo.nx (call p__law_frac (acons (pur x_) (acons (pur down_) (pur [])))))))) (pur []))) fun line_ =>
 (Mo.bind (ifE (tand (tst (bin pEq (pur way_) (pur (.int 2)))) (tst (bin pEq (bin pMod (pur turn_) (pur (.int 2))) (pur (.int 1)))))
 (Mo.bind (prim pTuple (acons (lstD (cap 1000000 (items (atE (.list lines_) (negV (pur (.int 1))))) (mapM' fun x_ => (Mo.nx (tupE (acons (negV (atE x_ (pur (.int 0)))) (acons (atE x_ (pur (.int 1))) (pur [])))))))) (pur []))) fun line_ =>
 (pur line_))
 (pur line_)) fun line_ =>
 (Mo.bind (appE lines_ (pur line_)) fun lines_ =>
 (Mo.bind (appE tops_ (call p__law_plus (acons (call p__law_dot (acons (pur line_) (acons (pur spot_) (pur [])))) (acons (callA p__law_pick (acons (lstD (capd (acons (tupE (acons (pur (.int 0)) (acons (pur (.int 1)) (pur [])))) (acons (tupE (acons (pur (.int 0)) (acons (pur (.int 1)) (pur [])))) (acons (tupE (acons (pur (.int 1)) (acons (pur (.int 1)) (pur [])))) (acons (tupE (acons (pur (.int 2)) (acons (pur (.int 1)) (pur [])))) (acons (tupE (acons (pur (.int 1)) (acons (pur (.int 2)) (pur [])))) (acons (tupE (acons (pur (.int 5)) (acons (pur (.int 1)) (pur [])))) (pur []))))))))) (pur []))) (pur []))))) fun tops_ =>
 (pur ((lines_, tops_)))))))))) xs ((lines_, tops_))) fun (lines_, tops_) =>
 (tupE (acons (pur size_) (acons (prim pTuple (acons (pur (.list lines_)) (pur []))) (acons (prim pTuple (acons (pur (.list tops_)) (pur []))) (pur [])))))))
noncomputable def p__law_hall : List D → S D := fun ds => match ds with
 | [size_, most_, spot_] => q__law_hall size_ most_ spot_
 | _ => (fun _ => .bad)
@[simp] theorem e__law_hall {size_ most_ spot_ : D} : p__law_hall [size_, most_, spot_] = q__law_hall size_ most_ spot_ := rfl
theorem sd__law_hall : SdA d__law_hall p__law_hall := by
  refine sdA_of ?_ ?_
  · intro ds h
    match ds, h with
    | [size_, most_, spot_], _ =>
    show J (m := S) [.k, .d size_, .d most_, .d spot_, .j, .j, .j, .j, .j, .j, .j, .j, .j] _ (q__law_hall size_ most_ spot_) (TV true (rtD kP))
    unfold q__law_hall
    exact (j_seqE (C' := (fun (t : D × D × List D × List D) => ([.k, .d size_, .d most_, .d spot_, .d t.1, .d t.2.1, .o t.2.2.1, .o t.2.2.2, .j, .j, .j, .j, .j] : List Sl))) (js_tup4 (β1 := D) (β2 := D) (β3 := List D) (β4 := List D) (jv_fz (je_callA 0 sd__law_roll (jw_cons je_k jw_nil))) (jv_fz (je_callA 0 sd__law_pick (jw_cons (je_own (jo_lst (ja_cons je_k (ja_cons je_k (ja_cons je_k ja_nil))))) jw_nil))) (jo_lst ja_nil) (jo_lst ja_nil)) (fun _ => rfl) (fun (way_, down_, lines_, tops_) =>
 (j_seq (js_for (B' := (fun (t : List D × List D) => ([.k, .d size_, .d most_, .d spot_, .d way_, .d down_, .o t.1, .o t.2, .j, .j, .j, .j, .j] : List Sl))) (ji_rng1 (ja_cons (je_callA 0 sd__law_roll (jw_cons (je_bin (je_var 2) je_k) jw_nil)) ja_nil)) Le.rfl' (fun turn_ (lines_, tops_) => (jg_n (of_decide_eq_true rfl) (j_seqE (C' := (fun (whole_ : D) => ([.k, .d size_, .d most_, .d spot_, .d way_, .d down_, .o lines_, .o tops_, .d turn_, .d whole_, .j, .j, .j] : List Sl))) (js_set (β := D) (jv_fz (je_callA 0 sd__law_wholes (jw_cons (je_var 1) (jw_cons (je_neg je_k) (jw_cons je_k jw_nil)))))) (fun _ => rfl) (fun whole_ =>
 (j_seq (C' := (fun (whole_ : D) => ([.k, .d size_, .d most_, .d spot_, .d way_, .d down_, .o lines_, .o tops_, .d turn_, .d whole_, .j, .j, .j] : List Sl))) (j_ite (jt_val (je_bin (je_var 4) je_k))
 (j_seqE (C' := (fun (whole_ : D) => ([.k, .d size_, .d most_, .d spot_, .d way_, .d down_, .o lines_, .o tops_, .d turn_, .d whole_, .j, .j, .j] : List Sl))) (js_setD (je_own (jo_comp (ji_rng1 (ja_cons (je_var 1) ja_nil)) (fun at_ => (jg_n (of_decide_eq_true rfl) (jc_elt (je_bin (je_bin je_k (je_bin (je_bin (je_var 8) je_k) je_k)) (je_prim (ja_cons (je_bin (je_var 11) (je_bin (je_bin (je_var 8) je_k) (je_var 1))) ja_nil))) (Le.cons SLe.re <| Le.cons SLe.re <| Le.cons SLe.re <| Le.cons SLe.re <| Le.cons SLe.re <| Le.cons SLe.re <| Le.cons SLe.re <| Le.cons SLe.re <| Le.cons SLe.re <| Le.cons SLe.re <| Le.cons SLe.re <| Le.cons SLe.ju <| Le.cons SLe.re <| Le.nil))))))) (fun _ => rfl) (fun whole_ =>
 (jn_end Le.rfl')))
 (jn_end Le.rfl')) (fun whole_ =>
 (j_seqE (C' := (fun (line_ : D) => ([.k, .d size_, .d most_, .d spot_, .d way_, .d down_, .o lines_, .o tops_, .d turn_, .d whole_, .d line_, .j, .j] : List Sl))) (js_set (β := D) (jv_fz (je_prim (ja_cons (je_own (jo_comp (ji_seq (je_var 9)) (fun x_ => (jg_n (of_decide_eq_true rfl) (jc_elt (je_call sd__law_frac (jw_cons (je_var 12) (jw_cons (je_var 5) jw_nil))) (Le.cons SLe.re <| Le.cons SLe.re <| Le.cons SLe.re <| Le.cons SLe.re <| Le.cons SLe.re <| Le.cons SLe.re <| Le.cons SLe.re <| Le.cons SLe.re <| Le.cons SLe.re <| Le.cons SLe.re <| Le.cons SLe.re <| Le.cons SLe.re <| Le.cons SLe.ju <| Le.nil)))))) ja_nil)))) (fun _ => rfl) (fun line_ =>
 (j_seq (C' := (fun (line_ : D) => ([.k, .d size_, .d most_, .d spot_, .d way_, .d down_, .o lines_, .o tops_, .d turn_, .d whole_, .d line_, .j, .j] : List Sl))) (j_ite (jt_and (jt_val (je_bin (je_var 4) je_k)) (jt_val (je_bin (je_bin (je_var 8) je_k) je_k)))
 (j_seqE (C' := (fun (line_ : D) => ([.k, .d size_, .d most_, .d spot_, .d way_, .d down_, .o lines_, .o tops_, .d turn_, .d whole_, .d line_, .j, .j] : List Sl))) (js_set (β := D) (jv_fz (je_prim (ja_cons (je_own (jo_comp (ji_seq (je_atO 6 (je_neg je_k))) (fun x_ => (jg_n (of_decide_eq_true rfl) (jc_elt (je_tup (ja_cons (je_neg (je_at 12 je_k)) (ja_cons (je_at 12 je_k) ja_nil))) (Le.cons SLe.re <| Le.cons SLe.re <| Le.cons SLe.re <| Le.cons SLe.re <| Le.cons SLe.re <| Le.cons SLe.re <| Le.cons SLe.re <| Le.cons SLe.re <| Le.cons SLe.re <| Le.cons SLe.re <| Le.cons SLe.re <| Le.cons SLe.re <| Le.cons SLe.ju <| Le.nil)))))) ja_nil)))) (fun _ => rfl) (fun line_ =>
 (jn_end Le.rfl')))
 (jn_end Le.rfl')) (fun line_ =>
 (j_seqE (C' := (fun (lines_ : List D) => ([.k, .d size_, .d most_, .d spot_, .d way_, .d down_, .o lines_, .o tops_, .d turn_, .d whole_, .d line_, .j, .j] : List Sl))) (js_app 6 (je_var 10)) (fun _ => rfl) (fun lines_ =>
 (j_seqE (C' := (fun (tops_ : List D) => ([.k, .d size_, .d most_, .d spot_, .d way_, .d down_, .o lines_, .o tops_, .d turn_, .d whole_, .d line_, .j, .j] : List Sl))) (js_app 7 (je_call sd__law_plus (jw_cons (je_call sd__law_dot (jw_cons (je_var 10) (jw_cons (je_var 3) jw_nil))) (jw_cons (je_callA 0 sd__law_pick (jw_cons (je_own (jo_lst (ja_cons (je_tup (ja_cons je_k (ja_cons je_k ja_nil))) (ja_cons (je_tup (ja_cons je_k (ja_cons je_k ja_nil))) (ja_cons (je_tup (ja_cons je_k (ja_cons je_k ja_nil))) (ja_cons (je_tup (ja_cons je_k (ja_cons je_k ja_nil))) (ja_cons (je_tup (ja_cons je_k (ja_cons je_k ja_nil))) (ja_cons (je_tup (ja_cons je_k (ja_cons je_k ja_nil))) ja_nil)))))))) jw_nil)) jw_nil)))) (fun _ => rfl) (fun tops_ =>
 (jn_end (Le.cons SLe.re <| Le.cons SLe.re <| Le.cons SLe.re <| Le.cons SLe.re <| Le.cons SLe.re <| Le.cons SLe.re <| Le.cons SLe.re <| Le.cons SLe.re <| Le.cons SLe.ju <| Le.cons SLe.ju <| Le.cons SLe.ju <| Le.cons SLe.re <| Le.cons SLe.re <| Le.nil))))))))))))))))) (fun (lines_, tops_) =>
 (j_escT (jt_ret (je_tup (ja_cons (je_var 1) (ja_cons (je_prim (ja_cons (je_varO 6) ja_nil)) (ja_cons (je_prim (ja_cons (je_varO 7) ja_nil)) ja_nil)))) (k_ok rfl)))))))
  · intro ds dk h
    rcases ds with _ | ⟨a0, _ | ⟨a1, _ | ⟨a2, _ | ⟨a3, ds⟩⟩⟩⟩ <;> first | exact absurd rfl h | rfl
noncomputable def q__law_under (one_ two_ : D) : R D :=
 (bin pLt (bin pMul (atE one_ (pur (.int 0))) (atE two_ (pur (.int 1)))) (bin pMul (atE two_ (pur (.int 0))) (atE one_ (pur (.int 1)))))
noncomputable def p__law_under : List D → R D := fun ds => match ds with
 | [one_, two_] => q__law_under one_ two_
 | _ => .bad
@[simp] theorem e__law_under {one_ two_ : D} : p__law_under [one_, two_] = q__law_under one_ two_ := rfl
theorem sd__law_under : Sd d__law_under p__law_under := by
  refine sd_of ?_ ?_
  · intro ds h
    match ds, h with
    | [one_, two_], _ =>
    show J (m := R) [.d one_, .d two_] _ (q__law_under one_ two_) (TV true (rtD anyP))
    unfold q__law_under
    exact (j_escT (jt_ret (je_bin (je_bin (je_at 0 je_k) (je_at 1 je_k)) (je_bin (je_at 1 je_k) (je_at 0 je_k))) any_ok))
  · intro ds h
    rcases ds with _ | ⟨a0, _ | ⟨a1, _ | ⟨a2, ds⟩⟩⟩ <;> first | exact absurd rfl h | rfl
noncomputable def q__law_inside (hall_ spot_ : D) : R D :=
 (bin pEq (lstD (cap 1000000 (rng1 (acons (prim pLen (acons (atE hall_ (pur (.int 1))) (pur []))) (pur []))) (optM fun k_ => (whenE (Mo.nx (tst (call p__law_under (acons (bin pIx (atE hall_ (pur (.int 2))) (pur k_)) (acons (call p__law_dot (acons (bin pIx (atE hall_ (pur (.int 1))) (pur k_)) (acons (pur spot_) (pur [])))) (pur [])))))) (Mo.nx (pur k_)))))) (lstD (capd (pur []))))
noncomputable def p__law_inside : List D → R D := fun ds => match ds with
 | [hall_, spot_] => q__law_inside hall_ spot_
 | _ => .bad
@[simp] theorem e__law_inside {hall_ spot_ : D} : p__law_inside [hall_, spot_] = q__law_inside hall_ spot_ := rfl
theorem sd__law_inside : Sd d__law_inside p__law_inside := by
  refine sd_of ?_ ?_
  · intro ds h
    match ds, h with
    | [hall_, spot_], _ =>
    show J (m := R) [.d hall_, .d spot_, .j] _ (q__law_inside hall_ spot_) (TV true (rtD anyP))
    unfold q__law_inside
    exact (j_escT (jt_ret (je_bin (je_own (jo_compO (ji_rng1 (ja_cons (je_prim (ja_cons (je_at 0 je_k) ja_nil)) ja_nil)) (fun k_ => (jg_n (of_decide_eq_true rfl) (jc_when (jt_val (je_call sd__law_under (jw_cons (je_bin (je_at 0 je_k) (je_var 2)) (jw_cons (je_call sd__law_dot (jw_cons (je_bin (je_at 0 je_k) (je_var 2)) (jw_cons (je_var 1) jw_nil))) jw_nil)))) (je_var 2) (Le.cons SLe.re <| Le.cons SLe.re <| Le.cons SLe.ju <| Le.nil)))))) (je_own (jo_lst ja_nil))) any_ok))
  · intro ds h
    rcases ds with _ | ⟨a0, _ | ⟨a1, _ | ⟨a2, ds⟩⟩⟩ <;> first | exact absurd rfl h | rfl
noncomputable def q__law_whole (thing_ : D) : R D :=
 (andV (isiE "int" (pur thing_)) (notV (isiE "bool" (pur thing_))))
noncomputable def p__law_whole : List D → R D := fun ds => match ds with
 | [thing_] => q__law_whole thing_
 | _ => .bad
@[simp] theorem e__law_whole {thing_ : D} : p__law_whole [thing_] = q__law_whole thing_ := rfl
theorem sd__law_whole : Sd d__law_whole p__law_whole := by
  refine sd_of ?_ ?_
  · intro ds h
    match ds, h with
    | [thing_], _ =>
    show J (m := R) [.d thing_] _ (q__law_whole thing_) (TV true (rtD anyP))
    unfold q__law_whole
    exact (j_escT (jt_ret (je_and (je_isi (je_var 0)) (je_not (je_isi (je_var 0)))) any_ok))
  · intro ds h
    rcases ds with _ | ⟨a0, _ | ⟨a1, ds⟩⟩ <;> first | exact absurd rfl h | rfl
noncomputable def q__law_is_frac (thing_ : D) : R D :=
 (ifE (tor (tnot (tst (isiE "tuple" (pur thing_)))) (tor (tst (bin pNe (lenE thing_) (pur (.int 2)))) (tor (tnot (tst (call p__law_whole (acons (atE thing_ (pur (.int 0))) (pur []))))) (tnot (tst (call p__law_whole (acons (atE thing_ (pur (.int 1))) (pur [])))))))) (pur (.bool false)) (andV (bin pGt (atE thing_ (pur (.int 1))) (pur (.int 0))) (bin pEq (call p__law_gcd (acons (atE thing_ (pur (.int 1))) (acons (prim pAbs (acons (atE thing_ (pur (.int 0))) (pur []))) (pur [])))) (pur (.int 1)))))
noncomputable def p__law_is_frac : List D → R D := fun ds => match ds with
 | [thing_] => q__law_is_frac thing_
 | _ => .bad
@[simp] theorem e__law_is_frac {thing_ : D} : p__law_is_frac [thing_] = q__law_is_frac thing_ := rfl
theorem sd__law_is_frac : Sd d__law_is_frac p__law_is_frac := by
  refine sd_of ?_ ?_
  · intro ds h
    match ds, h with
    | [thing_], _ =>
    show J (m := R) [.d thing_] _ (q__law_is_frac thing_) (TV true (rtD anyP))
    unfold q__law_is_frac
    exact (j_ifc (jt_or (jt_not (jt_val (je_isi (je_var 0)))) (jt_or (jt_val (je_bin (je_len 0) je_k)) (jt_or (jt_not (jt_val (je_call sd__law_whole (jw_cons (je_at 0 je_k) jw_nil)))) (jt_not (jt_val (je_call sd__law_whole (jw_cons (je_at 0 je_k) jw_nil))))))) (j_escT (j_escT (jt_ret je_k any_ok))) (j_nilc (j_escT (jt_ret (je_and (je_bin (je_at 0 je_k) je_k) (je_bin (je_call sd__law_gcd (jw_cons (je_at 0 je_k) (jw_cons (je_prim (ja_cons (je_at 0 je_k) ja_nil)) jw_nil))) je_k)) any_ok))))
  · intro ds h
    rcases ds with _ | ⟨a0, _ | ⟨a1, ds⟩⟩ <;> first | exact absurd rfl h | rfl
noncomputable def q__law_is_line (thing_ size_ : D) : R D :=
 (ifE (tor (tnot (tst (isiE "tuple" (pur thing_)))) (tst (bin pNe (lenE thing_) (pur size_)))) (pur (.bool false)) (bin pEq (lstD (cap 1000000 (items (pur thing_)) (optM fun each_ => (whenE (Mo.nx (tnot (tst (call p__law_is_frac (acons (pur each_) (pur [])))))) (Mo.nx (pur each_)))))) (lstD (capd (pur [])))))
noncomputable def p__law_is_line : List D → R D := fun ds => match ds with
 | [thing_, size_] => q__law_is_line thing_ size_
 | _ => .bad
@[simp] theorem e__law_is_line {thing_ size_ : D} : p__law_is_line [thing_, size_] = q__law_is_line thing_ size_ := rfl
theorem sd__law_is_line : Sd d__law_is_line p__law_is_line := by
  refine sd_of ?_ ?_
  · intro ds h
    match ds, h with
    | [thing_, size_], _ =>
    show J (m := R) [.d thing_, .d size_, .j] _ (q__law_is_line thing_ size_) (TV true (rtD anyP))
    unfold q__law_is_line
    exact (j_ifc (jt_or (jt_not (jt_val (je_isi (je_var 0)))) (jt_val (je_bin (je_len 0) (je_var 1)))) (j_escT (j_escT (jt_ret je_k any_ok))) (j_nilc (j_escT (jt_ret (je_bin (je_own (jo_compO (ji_seq (je_var 0)) (fun each_ => (jg_n (of_decide_eq_true rfl) (jc_when (jt_not (jt_val (je_call sd__law_is_frac (jw_cons (je_var 2) jw_nil)))) (je_var 2) (Le.cons SLe.re <| Le.cons SLe.re <| Le.cons SLe.ju <| Le.nil)))))) (je_own (jo_lst ja_nil))) any_ok))))
  · intro ds h
    rcases ds with _ | ⟨a0, _ | ⟨a1, _ | ⟨a2, ds⟩⟩⟩ <;> first | exact absurd rfl h | rfl
noncomputable def q__law_is_hall (thing_ : D) : R D :=
 (ifE (tor (tnot (tst (isiE "tuple" (pur thing_)))) (tor (tst (bin pNe (lenE thing_) (pur (.int 3)))) (tor (tnot (tst (call p__law_whole (acons (atE thing_ (pur (.int 0))) (pur []))))) (tnot (tst (chn leB leB (pur (.int 1)) (atE thing_ (pur (.int 0))) (pur (.int 3)))))))) (pur (.bool false)) (Mo.bind (Mo.bind (pur thing_) fun it0 => (un3 it0 fun size_ lines_ tops_ => (pur (size_, lines_, tops_)))) fun (size_, lines_, tops_) =>
 (ifE (tor (tnot (tst (isiE "tuple" (pur lines_)))) (tor (tst (bin pGt (lenE lines_) (pur (.int 6)))) (tnot (tst (call p__law_is_line (acons (pur tops_) (acons (lenE lines_) (pur [])))))))) (pur (.bool false)) (bin pEq (lstD (cap 1000000 (items (pur lines_)) (optM fun line_ => (whenE (Mo.nx (tnot (tst (call p__law_is_line (acons (pur line_) (acons (pur size_) (pur []))))))) (Mo.nx (pur line_)))))) (lstD (capd (pur [])))))))
noncomputable def p__law_is_hall : List D → R D := fun ds => match ds with
 | [thing_] => q__law_is_hall thing_
 | _ => .bad
@[simp] theorem e__law_is_hall {thing_ : D} : p__law_is_hall [thing_] = q__law_is_hall thing_ := rfl
theorem sd__law_is_hall : Sd d__law_is_hall p__law_is_hall := by
  refine sd_of ?_ ?_
  · intro ds h
    match ds, h with
    | [thing_], _ =>
    show J (m := R) [.d thing_, .j, .j, .j, .j] _ (q__law_is_hall thing_) (TV true (rtD anyP))
    unfold q__law_is_hall
    exact (j_ifc (jt_or (jt_not (jt_val (je_isi (je_var 0)))) (jt_or (jt_val (je_bin (je_len 0) je_k)) (jt_or (jt_not (jt_val (je_call sd__law_whole (jw_cons (je_at 0 je_k) jw_nil)))) (jt_not (jt_val (je_chn je_k (je_at 0 je_k) je_k)))))) (j_escT (j_escT (jt_ret je_k any_ok))) (j_nilc (j_seqE (C' := (fun (t : D × D × D) => ([.d thing_, .d t.1, .d t.2.1, .d t.2.2, .j] : List Sl))) (js_asgD (C' := (fun (t : D × D × D) => ([.d thing_, .d t.1, .d t.2.1, .d t.2.2, .j] : List Sl))) (je_var 0) (fun it0 => (jg_3 fun size_ lines_ tops_ => (jg_n (of_decide_eq_true rfl) (jg_n (of_decide_eq_true rfl) (jg_n (of_decide_eq_true rfl) (jg_ok Le.rfl'))))))) (fun _ => rfl) (fun (size_, lines_, tops_) =>
 (j_ifc (jt_or (jt_not (jt_val (je_isi (je_var 2)))) (jt_or (jt_val (je_bin (je_len 2) je_k)) (jt_not (jt_val (je_call sd__law_is_line (jw_cons (je_var 3) (jw_cons (je_len 2) jw_nil))))))) (j_escT (j_escT (jt_ret je_k any_ok))) (j_nilc (j_escT (jt_ret (je_bin (je_own (jo_compO (ji_seq (je_var 2)) (fun line_ => (jg_n (of_decide_eq_true rfl) (jc_when (jt_not (jt_val (je_call sd__law_is_line (jw_cons (je_var 4) (jw_cons (je_var 1) jw_nil))))) (je_var 4) (Le.cons SLe.re <| Le.cons SLe.re <| Le.cons SLe.re <| Le.cons SLe.re <| Le.cons SLe.ju <| Le.nil)))))) (je_own (jo_lst ja_nil))) any_ok))))))))
  · intro ds h
    rcases ds with _ | ⟨a0, _ | ⟨a1, ds⟩⟩ <;> first | exact absurd rfl h | rfl
noncomputable def q__law_no_frac : S D :=
 (Mo.bind (lstD (capd (acons (pur (.int 1)) (acons (pur (.int 0)) (acons (pur .none) (acons (pur (.str "1")) (acons (tupE (pur [])) (acons (tupE (acons (pur (.int 1)) (pur []))) (acons (tupE (acons (pur (.int 1)) (acons (pur (.int 2)) (acons (pur (.int 3)) (pur []))))) (acons (tupE (acons (pur (.int 2)) (acons (pur (.int 4)) (pur [])))) (acons (tupE (acons (pur (.int 0)) (acons (pur (.int 2)) (pur [])))) (acons (tupE (acons (pur (.int 1)) (acons (pur (.int 0)) (pur [])))) (acons (tupE (acons (pur (.int 0)) (acons (pur (.int 0)) (pur [])))) (acons (tupE (acons (pur (.int 1)) (acons (negV (pur (.int 1))) (pur [])))) (acons (tupE (acons (negV (pur (.int 2))) (acons (negV (pur (.int 1))) (pur [])))) (acons (tupE (acons (pur (.bool true)) (acons (pur (.int 1)) (pur [])))) (pur []))))))))))))))))) fun some_ =>
 (Mo.bind (bin pAdd (pur some_) (lstD (capd (acons (tupE (acons (pur (.int 1)) (acons (pur (.bool true)) (pur [])))) (acons (tupE (acons (pur (.int 1)) (acons (pur .none) (pur [])))) (acons (tupE (acons (pur (.str "1")) (acons (pur (.int 1)) (pur [])))) (acons (lstD (capd (acons (pur (.int 1)) (acons (pur (.int 1)) (pur []))))) (acons (tupE (acons (tupE (acons (pur (.int 1)) (acons (pur (.int 1)) (pur [])))) (acons (pur (.int 1)) (pur [])))) (acons (tupE (acons (bin pPow (pur (.int 10)) (pur (.int 20))) (acons (bin pPow (pur (.int 10)) (pur (.int 20))) (pur [])))) (acons (pur (.bool true)) (pur []))))))))))) fun some_ =>
 (callA p__law_pick (acons (pur some_) (pur [])))))
noncomputable def p__law_no_frac : List D → S D := fun ds => match ds with
 | [] => q__law_no_frac 
 | _ => (fun _ => .bad)
@[simp] theorem e__law_no_frac : p__law_no_frac [] = q__law_no_frac  := rfl
theorem sd__law_no_frac : SdA d__law_no_frac p__law_no_frac := by
  refine sdA_of ?_ ?_
  · intro ds h
    match ds, h with
    | [], _ =>
    show J (m := S) [.k, .j] _ (q__law_no_frac ) (TV true (rtD kP))
    unfold q__law_no_frac
    exact (j_seqE (C' := (fun (some_ : D) => ([.k, .d some_] : List Sl))) (js_set (β := D) (jv_fz (je_own (jo_lst (ja_cons je_k (ja_cons je_k (ja_cons je_k (ja_cons je_k (ja_cons (je_tup ja_nil) (ja_cons (je_tup (ja_cons je_k ja_nil)) (ja_cons (je_tup (ja_cons je_k (ja_cons je_k (ja_cons je_k ja_nil)))) (ja_cons (je_tup (ja_cons je_k (ja_cons je_k ja_nil))) (ja_cons (je_tup (ja_cons je_k (ja_cons je_k ja_nil))) (ja_cons (je_tup (ja_cons je_k (ja_cons je_k ja_nil))) (ja_cons (je_tup (ja_cons je_k (ja_cons je_k ja_nil))) (ja_cons (je_tup (ja_cons je_k (ja_cons (je_neg je_k) ja_nil))) (ja_cons (je_tup (ja_cons (je_neg je_k) (ja_cons (je_neg je_k) ja_nil))) (ja_cons (je_tup (ja_cons je_k (ja_cons je_k ja_nil))) ja_nil)))))))))))))))))) (fun _ => rfl) (fun some_ =>
 (j_seqE (C' := (fun (some_ : D) => ([.k, .d some_] : List Sl))) (js_set (β := D) (jv_fz (je_bin (je_var 1) (je_own (jo_lst (ja_cons (je_tup (ja_cons je_k (ja_cons je_k ja_nil))) (ja_cons (je_tup (ja_cons je_k (ja_cons je_k ja_nil))) (ja_cons (je_tup (ja_cons je_k (ja_cons je_k ja_nil))) (ja_cons (je_own (jo_lst (ja_cons je_k (ja_cons je_k ja_nil)))) (ja_cons (je_tup (ja_cons (je_tup (ja_cons je_k (ja_cons je_k ja_nil))) (ja_cons je_k ja_nil))) (ja_cons (je_tup (ja_cons (je_bin je_k je_k) (ja_cons (je_bin je_k je_k) ja_nil))) (ja_cons je_k ja_nil)))))))))))) (fun _ => rfl) (fun some_ =>
 (j_escT (jt_ret (je_callA 0 sd__law_pick (jw_cons (je_var 1) jw_nil)) (k_ok rfl)))))))
  · intro ds dk h
    rcases ds with _ | ⟨a0, ds⟩ <;> first | exact absurd rfl h | rfl
noncomputable def q__law_put (line_ at_ thing_ : D) : R D :=
 (bin pAdd (bin pAdd (cutE (pur line_) (pur none) (partE (pur at_))) (tupE (acons (pur thing_) (pur [])))) (cutE (pur line_) (partE (bin pAdd (pur at_) (pur (.int 1)))) (pur none)))
noncomputable def p__law_put : List D → R D := fun ds => match ds with
 | [line_, at_, thing_] => q__law_put line_ at_ thing_
 | _ => .bad
@[simp] theorem e__law_put {line_ at_ thing_ : D} : p__law_put [line_, at_, thing_] = q__law_put line_ at_ thing_ := rfl
theorem sd__law_put : Sd d__law_put p__law_put := by
  refine sd_of ?_ ?_
  · intro ds h
    match ds, h with
    | [line_, at_, thing_], _ =>
    show J (m := R) [.d line_, .d at_, .d thing_] _ (q__law_put line_ at_ thing_) (TV true (rtD anyP))
    unfold q__law_put
    exact (j_escT (jt_ret (je_bin (je_bin (je_cut (je_var 0) jp_none (jp_some (je_var 1))) (je_tup (ja_cons (je_var 2) ja_nil))) (je_cut (je_var 0) (jp_some (je_bin (je_var 1) je_k)) jp_none)) any_ok))
  · intro ds h
    rcases ds with _ | ⟨a0, _ | ⟨a1, _ | ⟨a2, _ | ⟨a3, ds⟩⟩⟩⟩ <;> first | exact absurd rfl h | rfl
noncomputable def q__law_bent_hall (hall_ : D) : S D :=
 (Mo.bind (Mo.bind (pur hall_) fun it0 => (un3 it0 fun size_ lines_ tops_ => (pur (size_, lines_, tops_)))) fun (size_, lines_, tops_) =>
 (Mo.bind (pair (callA p__law_roll (acons (pur (.int 9)) (pur []))) (bin pMul (tupE (acons (tupE (acons (pur (.int 1)) (acons (pur (.int 1)) (pur [])))) (pur []))) (pur size_))) fun (way_, one_) =>
 (ifE (tst (bin pEq (pur way_) (pur (.int 0)))) (tupE (acons (callA p__law_pick (acons (lstD (capd (acons (pur (.int 0)) (acons (pur (.int 4)) (acons (negV (pur (.int 1))) (acons (pur (.bool true)) (acons (pur .none) (acons (pur (.str "1")) (acons (tupE (acons (pur (.int 1)) (pur []))) (acons (bin pAdd (pur size_) (pur (.int 1))) (acons (pur size_) (pur [])))))))))))) (pur []))) (acons (pur lines_) (acons (pur tops_) (pur []))))) (ifE (tand (tst (bin pEq (pur way_) (pur (.int 1)))) (tst (bin pGt (lenE lines_) (pur (.int 0))))) (Mo.bind (callA p__law_roll (acons (lenE lines_) (pur []))) fun at_ =>
 (Mo.bind (call p__law_put (acons (atE lines_ (pur at_)) (acons (callA p__law_roll (acons (pur size_) (pur []))) (acons (callA p__law_no_frac (pur [])) (pur []))))) fun bent_ =>
 (tupE (acons (pur size_) (acons (call p__law_put (acons (pur lines_) (acons (pur at_) (acons (pur bent_) (pur []))))) (acons (pur tops_) (pur []))))))) (ifE (tand (tst (bin pEq (pur way_) (pur (.int 2)))) (tst (bin pGt (lenE lines_) (pur (.int 0))))) (tupE (acons (pur size_) (acons (pur lines_) (acons (call p__law_put (acons (pur tops_) (acons (callA p__law_roll (acons (lenE tops_) (pur []))) (acons (callA p__law_no_frac (pur [])) (pur []))))) (pur []))))) (ifE (tst (bin pEq (pur way_) (pur (.int 3)))) (tupE (acons (pur size_) (acons (callA p__law_pick (acons (lstD (capd (acons (bin pAdd (pur lines_) (tupE (acons (pur one_) (pur [])))) (acons (cutE (pur lines_) (partE (pur (.int 1))) (pur none)) (acons (prim pList (acons (pur lines_) (pur []))) (acons (pur .none) (acons (bin pAdd (pur lines_) (tupE (acons (tupE (pur [])) (pur [])))) (acons (tupE (acons (pur lines_) (pur []))) (pur []))))))))) (pur []))) (acons (pur tops_) (pur []))))) (ifE (tst (bin pEq (pur way_) (pur (.int 4)))) (tupE (acons (pur size_) (acons (pur lines_) (acons (callA p__law_pick (acons (lstD (capd (acons (bin pAdd (pur tops_) (tupE (acons (tupE (acons (pur (.int 0)) (acons (pur (.int 1)) (pur [])))) (pur [])))) (acons (cutE (pur tops_) (partE (pur (.int 1))) (pur none)) (acons (prim pList (acons (pur tops_) (pur []))) (acons (pur .none) (acons (tupE (acons (pur tops_) (pur []))) (pur [])))))))) (pur []))) (pur []))))) (ifE (tst (bin pEq (pur way_) (pur (.int 5)))) (callA p__law_pick (acons (lstD (capd (acons (tupE (acons (pur size_) (acons (bin pMul (tupE (acons (pur one_) (pur []))) (pur (.int 7))) (acons (bin pMul (tupE (acons (tupE (acons (pur (.int 1)) (acons (pur (.int 1)) (pur [])))) (pur []))) (pur (.int 7))) (pur []))))) (acons (tupE (acons (pur size_) (acons (bin pMul (tupE (acons (pur one_) (pur []))) (pur (.int 6))) (acons (bin pMul (tupE (acons (tupE (acons (pur (.int 1)) (acons (pur (.int 1)) (pur [])))) (pur []))) (pur (.int 6))) (pur []))))) (pur []))))) (pur []))) (ifE (tst (bin pEq (pur way_) (pur (.int 6)))) (callA p__law_pick (acons (lstD (capd (acons (prim pList (acons (pur hall_) (pur []))) (acons (bin pAdd (pur hall_) (tupE (acons (pur (.int 1)) (pur [])))) (acons (cutE (pur hall_) (pur none) (partE (pur (.int 2)))) (acons (tupE (acons (pur lines_) (acons (pur tops_) (acons (pur size_) (pur []))))) (acons (tupE (acons (pur size_) (acons (pur tops_) (acons (pur lines_) (pur []))))) (acons (pur .none) (pur []))))))))) (pur []))) (ifE (tst (bin pEq (pur way_) (pur (.int 7)))) (callA p__law_odd (pur [])) (tupE (acons (pur size_) (acons (bin pAdd (pur lines_) (tupE (acons (bin pMul (tupE (acons (tupE (acons (pur (.int 0)) (acons (pur (.int 1)) (pur [])))) (pur []))) (pur size_)) (pur [])))) (acons (bin pAdd (pur tops_) (tupE (acons (tupE (acons (pur (.int 0)) (acons (pur (.int 1)) (pur [])))) (pur [])))) (pur [])))))))))))))))
noncomputable def p__law_bent_hall : List D → S D := fun ds => match ds with
 | [hall_] => q__law_bent_hall hall_
 | _ => (fun _ => .bad)
@[simp] theorem e__law_bent_hall {hall_ : D} : p__law_bent_hall [hall_] = q__law_bent_hall hall_ := rfl
theorem sd__law_bent_hall : SdA d__law_bent_hall p__law_bent_hall := by
  refine sdA_of ?_ ?_
  · intro ds h
    match ds, h with
    | [hall_], _ =>
    show J (m := S) [.k, .d hall_, .j, .j, .j, .j, .j, .j, .j] _ (q__law_bent_hall hall_) (TV true (rtD kP))
    unfold q__law_bent_hall
    exact (j_seqE (C' := (fun (t : D × D × D) => ([.k, .d hall_, .d t.1, .d t.2.1, .d t.2.2, .j, .j, .j, .j] : List Sl))) (js_asgD (C' := (fun (t : D × D × D) => ([.k, .d hall_, .d t.1, .d t.2.1, .d t.2.2, .j, .j, .j, .j] : List Sl))) (je_var 1) (fun it0 => (jg_3 fun size_ lines_ tops_ => (jg_n (of_decide_eq_true rfl) (jg_n (of_decide_eq_true rfl) (jg_n (of_decide_eq_true rfl) (jg_ok Le.rfl'))))))) (fun _ => rfl) (fun (size_, lines_, tops_) =>
 (j_seqE (C' := (fun (t : D × D) => ([.k, .d hall_, .d size_, .d lines_, .d tops_, .d t.1, .d t.2, .j, .j] : List Sl))) (js_tup2 (β1 := D) (β2 := D) (jv_fz (je_callA 0 sd__law_roll (jw_cons je_k jw_nil))) (jv_fz (je_bin (je_tup (ja_cons (je_tup (ja_cons je_k (ja_cons je_k ja_nil))) ja_nil)) (je_var 2)))) (fun _ => rfl) (fun (way_, one_) =>
 (j_ifc (jt_val (je_bin (je_var 5) je_k)) (j_escT (j_escT (jt_ret (je_tup (ja_cons (je_callA 0 sd__law_pick (jw_cons (je_own (jo_lst (ja_cons je_k (ja_cons je_k (ja_cons (je_neg je_k) (ja_cons je_k (ja_cons je_k (ja_cons je_k (ja_cons (je_tup (ja_cons je_k ja_nil)) (ja_cons (je_bin (je_var 2) je_k) (ja_cons (je_var 2) ja_nil))))))))))) jw_nil)) (ja_cons (je_var 3) (ja_cons (je_var 4) ja_nil)))) (k_ok rfl)))) (j_nilc (j_ifc (jt_and (jt_val (je_bin (je_var 5) je_k)) (jt_val (je_bin (je_len 3) je_k))) (j_escT (j_seqE (C' := (fun (at_ : D) => ([.k, .d hall_, .d size_, .d lines_, .d tops_, .d way_, .d one_, .d at_, .j] : List Sl))) (js_set (β := D) (jv_fz (je_callA 0 sd__law_roll (jw_cons (je_len 3) jw_nil)))) (fun _ => rfl) (fun at_ =>
 (j_seqE (C' := (fun (bent_ : D) => ([.k, .d hall_, .d size_, .d lines_, .d tops_, .d way_, .d one_, .d at_, .d bent_] : List Sl))) (js_set (β := D) (jv_fz (je_call sd__law_put (jw_cons (je_at 3 (je_var 7)) (jw_cons (je_callA 0 sd__law_roll (jw_cons (je_var 2) jw_nil)) (jw_cons (je_callA 0 sd__law_no_frac jw_nil) jw_nil)))))) (fun _ => rfl) (fun bent_ =>
 (j_escT (jt_ret (je_tup (ja_cons (je_var 2) (ja_cons (je_call sd__law_put (jw_cons (je_var 3) (jw_cons (je_var 7) (jw_cons (je_var 8) jw_nil)))) (ja_cons (je_var 4) ja_nil)))) (k_ok rfl)))))))) (j_nilc (j_ifc (jt_and (jt_val (je_bin (je_var 5) je_k)) (jt_val (je_bin (je_len 3) je_k))) (j_escT (j_escT (jt_ret (je_tup (ja_cons (je_var 2) (ja_cons (je_var 3) (ja_cons (je_call sd__law_put (jw_cons (je_var 4) (jw_cons (je_callA 0 sd__law_roll (jw_cons (je_len 4) jw_nil)) (jw_cons (je_callA 0 sd__law_no_frac jw_nil) jw_nil)))) ja_nil)))) (k_ok rfl)))) (j_nilc (j_ifc (jt_val (je_bin (je_var 5) je_k)) (j_escT (j_escT (jt_ret (je_tup (ja_cons (je_var 2) (ja_cons (je_callA 0 sd__law_pick (jw_cons (je_own (jo_lst (ja_cons (je_bin (je_var 3) (je_tup (ja_cons (je_var 6) ja_nil))) (ja_cons (je_cut (je_var 3) (jp_some je_k) jp_none) (ja_cons (je_prim (ja_cons (je_var 3) ja_nil)) (ja_cons je_k (ja_cons (je_bin (je_var 3) (je_tup (ja_cons (je_tup ja_nil) ja_nil))) (ja_cons (je_tup (ja_cons (je_var 3) ja_nil)) ja_nil)))))))) jw_nil)) (ja_cons (je_var 4) ja_nil)))) (k_ok rfl)))) (j_nilc (j_ifc (jt_val (je_bin (je_var 5) je_k)) (j_escT (j_escT (jt_ret (je_tup (ja_cons (je_var 2) (ja_cons (je_var 3) (ja_cons (je_callA 0 sd__law_pick (jw_cons (je_own (jo_lst (ja_cons (je_bin (je_var 4) (je_tup (ja_cons (je_tup (ja_cons je_k (ja_cons je_k ja_nil))) ja_nil))) (ja_cons (je_cut (je_var 4) (jp_some je_k) jp_none) (ja_cons (je_prim (ja_cons (je_var 4) ja_nil)) (ja_cons je_k (ja_cons (je_tup (ja_cons (je_var 4) ja_nil)) ja_nil))))))) jw_nil)) ja_nil)))) (k_ok rfl)))) (j_nilc (j_ifc (jt_val (je_bin (je_var 5) je_k)) (j_escT (j_escT (jt_ret (je_callA 0 sd__law_pick (jw_cons (je_own (jo_lst (ja_cons (je_tup (ja_cons (je_var 2) (ja_cons (je_bin (je_tup (ja_cons (je_var 6) ja_nil)) je_k) (ja_cons (je_bin (je_tup (ja_cons (je_tup (ja_cons je_k (ja_cons je_k ja_nil))) ja_nil)) je_k) ja_nil)))) (ja_cons (je_tup (ja_cons (je_var 2) (ja_cons (je_bin (je_tup (ja_cons (je_var 6) ja_nil)) je_k) (ja_cons (je_bin (je_tup (ja_cons (je_tup (ja_cons je_k (ja_cons je_k ja_nil))) ja_nil)) je_k) ja_nil)))) ja_nil)))) jw_nil)) (k_ok rfl)))) (j_nilc (j_ifc (jt_val (je_bin (je_var 5) je_k)) (j_escT (j_escT (jt_ret (je_callA 0 sd__law_pick (jw_cons (je_own (jo_lst (ja_cons (je_prim (ja_cons (je_var 1) ja_nil)) (ja_cons (je_bin (je_var 1) (je_tup (ja_cons je_k ja_nil))) (ja_cons (je_cut (je_var 1) jp_none (jp_some je_k)) (ja_cons (je_tup (ja_cons (je_var 3) (ja_cons (je_var 4) (ja_cons (je_var 2) ja_nil)))) (ja_cons (je_tup (ja_cons (je_var 2) (ja_cons (je_var 4) (ja_cons (je_var 3) ja_nil)))) (ja_cons je_k ja_nil)))))))) jw_nil)) (k_ok rfl)))) (j_nilc (j_escT (jt_ret (je_if (jt_val (je_bin (je_var 5) je_k)) (je_callA 0 sd__law_odd jw_nil) (je_tup (ja_cons (je_var 2) (ja_cons (je_bin (je_var 3) (je_tup (ja_cons (je_bin (je_tup (ja_cons (je_tup (ja_cons je_k (ja_cons je_k ja_nil))) ja_nil)) (je_var 2)) ja_nil))) (ja_cons (je_bin (je_var 4) (je_tup (ja_cons (je_tup (ja_cons je_k (ja_cons je_k ja_nil))) ja_nil))) ja_nil))))) (k_ok rfl)))))))))))))))))))))
  · intro ds dk h
    rcases ds with _ | ⟨a0, _ | ⟨a1, ds⟩⟩ <;> first | exact absurd rfl h | rfl
noncomputable def q__law_moved (hall_ spot_ amount_ : D) : R D :=
 (bin pAdd (tupE (acons (call p__law_plus (acons (atE spot_ (pur (.int 0))) (acons (pur amount_) (pur [])))) (pur []))) (cutE (pur spot_) (partE (pur (.int 1))) (pur none)))
noncomputable def p__law_moved : List D → R D := fun ds => match ds with
 | [hall_, spot_, amount_] => q__law_moved hall_ spot_ amount_
 | _ => .bad
@[simp] theorem e__law_moved {hall_ spot_ amount_ : D} : p__law_moved [hall_, spot_, amount_] = q__law_moved hall_ spot_ amount_ := rfl
theorem sd__law_moved : Sd d__law_moved p__law_moved := by
  refine sd_of ?_ ?_
  · intro ds h
    match ds, h with
    | [hall_, spot_, amount_], _ =>
    show J (m := R) [.d hall_, .d spot_, .d amount_] _ (q__law_moved hall_ spot_ amount_) (TV true (rtD anyP))
    unfold q__law_moved
    exact (j_escT (jt_ret (je_bin (je_tup (ja_cons (je_call sd__law_plus (jw_cons (je_at 1 je_k) (jw_cons (je_var 2) jw_nil))) ja_nil)) (je_cut (je_var 1) (jp_some je_k) jp_none)) any_ok))
  · intro ds h
    rcases ds with _ | ⟨a0, _ | ⟨a1, _ | ⟨a2, _ | ⟨a3, ds⟩⟩⟩⟩ <;> first | exact absurd rfl h | rfl
noncomputable def p_law (ns_ : List Int) : S D :=
 ((thenL (Mo.bind (rng1 (acons (prim pMax2 (acons (pur (.int 1)) (acons (prim pMin2 (acons (pur (.int ns_.length)) (acons (pur (.int 3)) (pur [])))) (pur [])))) (pur []))) fun xs => forM' (μ := D) (fun turn_ _ => (Mo.bind (putK (Mo.bind (acons (pur turn_) (acons (pur (.int 22003)) (pur []))) fun ds => Mo.lift (p__law_deck ns_ ds))) fun _ =>
 (Mo.bind (callA p__law_pick (acons (lstD (capd (acons (pur (.int 1)) (acons (pur (.int 2)) (acons (pur (.int 2)) (acons (pur (.int 3)) (pur []))))))) (pur []))) fun size_ =>
 (Mo.bind (callA p__law_spot (acons (pur size_) (pur []))) fun spot_ =>
 (Mo.bind (callA p__law_hall (acons (pur size_) (acons (pur (.int 5)) (acons (pur spot_) (pur []))))) fun hall_ =>
 (Mo.bind (pair (callA p__law_bent_hall (acons (pur hall_) (pur []))) (callA p__law_odd (pur []))) fun (thing_, odd_) =>
 (Mo.bind (lstD (capd (acons (call p_is_room (acons (pur hall_) (pur []))) (acons (call p_is_room (acons (pur thing_) (pur []))) (acons (callK p_is_room 1 [0] (acons (pur thing_) (pur []))) (acons (call p_is_room (acons (pur odd_) (pur []))) (pur []))))))) fun told_ =>
 (Mo.bind (call p__law_is_hall (acons (pur thing_) (pur []))) fun is_one_ =>
 (ifE (tst (bin pNe (prim pRepr (acons (pur told_) (pur []))) (prim pRepr (acons (lstD (capd (acons (pur (.bool true)) (acons (pur is_one_) (acons (pur is_one_) (acons (call p__law_is_hall (acons (pur odd_) (pur []))) (pur []))))))) (pur []))))) (Mo.bind (pur (.bool false)) fun v => pur (.ret v)) (Mo.bind (capd (acons (pur spot_) (acons (call p__law_moved (acons (pur hall_) (acons (pur spot_) (acons (tupE (acons (pur (.int 1)) (acons (pur (.int 1000000007)) (pur [])))) (pur []))))) (acons (call p__law_moved (acons (pur hall_) (acons (pur spot_) (acons (tupE (acons (negV (pur (.int 1))) (acons (pur (.int 1000000007)) (pur [])))) (pur []))))) (pur []))))) fun some_ =>
 (Mo.bind (Mo.bind (rng1 (acons (pur (.int 3)) (pur []))) fun xs => foldM' (fun again_ some_ => (Mo.bind (appE some_ (callA p__law_spot (acons (pur size_) (pur [])))) fun some_ =>
 (pur some_))) xs some_) fun some_ =>
 (Mo.bind (bin pAdd (lstD (cap 1000000 (items (pur (.list some_))) (mapM' fun each_ => (Mo.nx (call p_is_in (acons (pur hall_) (acons (pur each_) (pur [])))))))) (lstD (capd (acons (callK p_is_in 2 [1, 0] (acons (atE (.list some_) (pur (.int 3))) (acons (pur hall_) (pur [])))) (pur []))))) fun told_ =>
 (ifE (tst (bin pNe (prim pRepr (acons (pur told_) (pur []))) (prim pRepr (acons (lstD (cap 1000000 (items (bin pAdd (pur (.list some_)) (lstD (capd (acons (atE (.list some_) (pur (.int 3))) (pur [])))))) (mapM' fun each_ => (Mo.nx (call p__law_inside (acons (pur hall_) (acons (pur each_) (pur [])))))))) (pur []))))) (Mo.bind (pur (.bool false)) fun v => pur (.ret v)) (pur (.nx (())))))))))))))))) xs (())) fun _ =>
 (pur (.bool true))))
theorem sd_law {ns_ : List Int} : J (m := S) [.s ns_, .j, .j, .j, .j, .j, .j, .j, .j, .j, .j, .j, .j] (sCons (sFor (iRange1 (aCons (sCall pMax2 (aCons (sK (.int 1)) (aCons (sCall pMin2 (aCons (sLenAt 0) (aCons (sK (.int 3)) aNil))) aNil))) aNil)) (gN 1) (sCons (sSet 2 (sCallA d__law_deck 0 (wCons (sFz (sVar 1)) (wCons (sFz (sK (.int 22003))) wNil))))
  (sCons (sSet 3 (sFz (sCallA d__law_pick 2 (wCons (sFz (sLst (aCons (sK (.int 1)) (aCons (sK (.int 2)) (aCons (sK (.int 2)) (aCons (sK (.int 3)) aNil)))))) wNil))))
  (sCons (sSet 4 (sFz (sCallA d__law_spot 2 (wCons (sFz (sVar 3)) wNil))))
  (sCons (sSet 5 (sFz (sCallA d__law_hall 2 (wCons (sFz (sVar 3)) (wCons (sFz (sK (.int 5))) (wCons (sFz (sVar 4)) wNil))))))
  (sCons (sTupW 2 (wsCons (wN 6) (wsCons (wN 7) wsNil)) (wCons (sFz (sCallA d__law_bent_hall 2 (wCons (sFz (sVar 5)) wNil))) (wCons (sFz (sCallA d__law_odd 2 wNil)) wNil)))
  (sCons (sSet 8 (sFz (sLst (aCons (sCallW d_is_room (wCons (sFz (sVar 5)) wNil)) (aCons (sCallW d_is_room (wCons (sFz (sVar 6)) wNil)) (aCons (sCallK d_is_room 1 [0] (aCons (sVar 6) aNil)) (aCons (sCallW d_is_room (wCons (sFz (sVar 7)) wNil)) aNil)))))))
  (sCons (sSet 9 (sFz (sCallW d__law_is_hall (wCons (sFz (sVar 6)) wNil))))
  (sCons (sIte (sT (sBin pNe (sCall pRepr (aCons (sVar 8) aNil)) (sCall pRepr (aCons (sLst (aCons (sK (.bool true)) (aCons (sVar 9) (aCons (sVar 9) (aCons (sCallW d__law_is_hall (wCons (sFz (sVar 7)) wNil)) aNil))))) aNil)))) (sCons (sRet (sK (.bool false)))
  sNil) sNil)
  (sCons (sSet 10 (sLst (aCons (sVar 4) (aCons (sCallW d__law_moved (wCons (sFz (sVar 5)) (wCons (sFz (sVar 4)) (wCons (sFz (sTup (aCons (sK (.int 1)) (aCons (sK (.int 1000000007)) aNil)))) wNil)))) (aCons (sCallW d__law_moved (wCons (sFz (sVar 5)) (wCons (sFz (sVar 4)) (wCons (sFz (sTup (aCons (sNeg (sK (.int 1))) (aCons (sK (.int 1000000007)) aNil)))) wNil)))) aNil)))))
  (sCons (sFor (iRange1 (aCons (sK (.int 3)) aNil)) (gN 11) (sCons (sApp 10 (sFz (sCallA d__law_spot 2 (wCons (sFz (sVar 3)) wNil))))
  sNil))
  (sCons (sSet 8 (sFz (sBin pAdd (sComp [12] (iSeq (sVar 10)) (gN 12) tYesB (sFz (sCallW d_is_in (wCons (sFz (sVar 5)) (wCons (sFz (sVar 12)) wNil))))) (sLst (aCons (sCallK d_is_in 2 [1, 0] (aCons (sAt 10 (sK (.int 3))) (aCons (sVar 5) aNil))) aNil)))))
  (sCons (sIte (sT (sBin pNe (sCall pRepr (aCons (sVar 8) aNil)) (sCall pRepr (aCons (sComp [12] (iSeq (sBin pAdd (sVar 10) (sLst (aCons (sAt 10 (sK (.int 3))) aNil)))) (gN 12) tYesB (sFz (sCallW d__law_inside (wCons (sFz (sVar 5)) (wCons (sFz (sVar 12)) wNil))))) aNil)))) (sCons (sRet (sK (.bool false)))
  sNil) sNil)
  sNil)))))))))))))
  (sCons (sRet (sK (.bool true)))
  sNil)) (p_law ns_) (TV true (rtD anyP)) := by
 unfold p_law
 exact (j_thenL (jl_for (B' := (fun (_ : Unit) => ([.s ns_, .j, .j, .j, .j, .j, .j, .j, .j, .j, .j, .j, .j] : List Sl))) (ji_rng1 (ja_cons (je_prim (ja_cons je_k (ja_cons (je_prim (ja_cons (je_lenS 0) (ja_cons je_k ja_nil))) ja_nil))) ja_nil)) Le.rfl' (fun turn_ _ => (jg_n (of_decide_eq_true rfl) (j_seqE (C' := (fun (_ : Unit) => ([.s ns_, .d turn_, .k, .j, .j, .j, .j, .j, .j, .j, .j, .j, .j] : List Sl))) (js_setK (jo_callS 0 sd__law_deck (jw_cons (je_var 1) (jw_cons je_k jw_nil)))) (fun _ => rfl) (fun _ =>
 (j_seqE (C' := (fun (size_ : D) => ([.s ns_, .d turn_, .k, .d size_, .j, .j, .j, .j, .j, .j, .j, .j, .j] : List Sl))) (js_set (β := D) (jv_fz (je_callA 2 sd__law_pick (jw_cons (je_own (jo_lst (ja_cons je_k (ja_cons je_k (ja_cons je_k (ja_cons je_k ja_nil)))))) jw_nil)))) (fun _ => rfl) (fun size_ =>
 (j_seqE (C' := (fun (spot_ : D) => ([.s ns_, .d turn_, .k, .d size_, .d spot_, .j, .j, .j, .j, .j, .j, .j, .j] : List Sl))) (js_set (β := D) (jv_fz (je_callA 2 sd__law_spot (jw_cons (je_var 3) jw_nil)))) (fun _ => rfl) (fun spot_ =>
 (j_seqE (C' := (fun (hall_ : D) => ([.s ns_, .d turn_, .k, .d size_, .d spot_, .d hall_, .j, .j, .j, .j, .j, .j, .j] : List Sl))) (js_set (β := D) (jv_fz (je_callA 2 sd__law_hall (jw_cons (je_var 3) (jw_cons je_k (jw_cons (je_var 4) jw_nil)))))) (fun _ => rfl) (fun hall_ =>
 (j_seqE (C' := (fun (t : D × D) => ([.s ns_, .d turn_, .k, .d size_, .d spot_, .d hall_, .d t.1, .d t.2, .j, .j, .j, .j, .j] : List Sl))) (js_tup2 (β1 := D) (β2 := D) (jv_fz (je_callA 2 sd__law_bent_hall (jw_cons (je_var 5) jw_nil))) (jv_fz (je_callA 2 sd__law_odd jw_nil))) (fun _ => rfl) (fun (thing_, odd_) =>
 (j_seqE (C' := (fun (told_ : D) => ([.s ns_, .d turn_, .k, .d size_, .d spot_, .d hall_, .d thing_, .d odd_, .d told_, .j, .j, .j, .j] : List Sl))) (js_set (β := D) (jv_fz (je_own (jo_lst (ja_cons (je_call sd_is_room (jw_cons (je_var 5) jw_nil)) (ja_cons (je_call sd_is_room (jw_cons (je_var 6) jw_nil)) (ja_cons (je_callK sd_is_room (ja_cons (je_var 6) ja_nil)) (ja_cons (je_call sd_is_room (jw_cons (je_var 7) jw_nil)) ja_nil)))))))) (fun _ => rfl) (fun told_ =>
 (j_seqE (C' := (fun (is_one_ : D) => ([.s ns_, .d turn_, .k, .d size_, .d spot_, .d hall_, .d thing_, .d odd_, .d told_, .d is_one_, .j, .j, .j] : List Sl))) (js_set (β := D) (jv_fz (je_call sd__law_is_hall (jw_cons (je_var 6) jw_nil)))) (fun _ => rfl) (fun is_one_ =>
 (j_ifc (jt_val (je_bin (je_prim (ja_cons (je_var 8) ja_nil)) (je_prim (ja_cons (je_own (jo_lst (ja_cons je_k (ja_cons (je_var 9) (ja_cons (je_var 9) (ja_cons (je_call sd__law_is_hall (jw_cons (je_var 7) jw_nil)) ja_nil)))))) ja_nil)))) (j_escB (j_escB (jb_ret je_k any_ok))) (j_nilc (j_seqE (C' := (fun (some_ : List D) => ([.s ns_, .d turn_, .k, .d size_, .d spot_, .d hall_, .d thing_, .d odd_, .d told_, .d is_one_, .o some_, .j, .j] : List Sl))) (js_setO (jo_lst (ja_cons (je_var 4) (ja_cons (je_call sd__law_moved (jw_cons (je_var 5) (jw_cons (je_var 4) (jw_cons (je_tup (ja_cons je_k (ja_cons je_k ja_nil))) jw_nil)))) (ja_cons (je_call sd__law_moved (jw_cons (je_var 5) (jw_cons (je_var 4) (jw_cons (je_tup (ja_cons (je_neg je_k) (ja_cons je_k ja_nil))) jw_nil)))) ja_nil))))) (fun _ => rfl) (fun some_ =>
 (j_seq (js_for (B' := (fun (some_ : List D) => ([.s ns_, .d turn_, .k, .d size_, .d spot_, .d hall_, .d thing_, .d odd_, .d told_, .d is_one_, .o some_, .j, .j] : List Sl))) (ji_rng1 (ja_cons je_k ja_nil)) Le.rfl' (fun again_ some_ => (jg_n (of_decide_eq_true rfl) (j_seqE (C' := (fun (some_ : List D) => ([.s ns_, .d turn_, .k, .d size_, .d spot_, .d hall_, .d thing_, .d odd_, .d told_, .d is_one_, .o some_, .d again_, .j] : List Sl))) (js_app 10 (je_callA 2 sd__law_spot (jw_cons (je_var 3) jw_nil))) (fun _ => rfl) (fun some_ =>
 (jn_end (Le.cons SLe.re <| Le.cons SLe.re <| Le.cons SLe.re <| Le.cons SLe.re <| Le.cons SLe.re <| Le.cons SLe.re <| Le.cons SLe.re <| Le.cons SLe.re <| Le.cons SLe.re <| Le.cons SLe.re <| Le.cons SLe.re <| Le.cons SLe.ju <| Le.cons SLe.re <| Le.nil))))))) (fun some_ =>
 (j_seqE (C' := (fun (told_ : D) => ([.s ns_, .d turn_, .k, .d size_, .d spot_, .d hall_, .d thing_, .d odd_, .d told_, .d is_one_, .d (.list some_), .j, .j] : List Sl))) (js_set (β := D) (jv_fz (je_bin (je_own (jo_comp (ji_seq (je_varO 10)) (fun each_ => (jg_n (of_decide_eq_true rfl) (jc_elt (je_call sd_is_in (jw_cons (je_var 5) (jw_cons (je_var 12) jw_nil))) (Le.cons SLe.re <| Le.cons SLe.re <| Le.cons SLe.re <| Le.cons SLe.re <| Le.cons SLe.re <| Le.cons SLe.re <| Le.cons SLe.re <| Le.cons SLe.re <| Le.cons SLe.re <| Le.cons SLe.re <| Le.cons SLe.re <| Le.cons SLe.re <| Le.cons SLe.ju <| Le.nil)))))) (je_own (jo_lst (ja_cons (je_callK sd_is_in (ja_cons (je_at 10 je_k) (ja_cons (je_var 5) ja_nil))) ja_nil)))))) (fun _ => rfl) (fun told_ =>
 (j_ifc (jt_val (je_bin (je_prim (ja_cons (je_var 8) ja_nil)) (je_prim (ja_cons (je_own (jo_comp (ji_seq (je_bin (je_var 10) (je_own (jo_lst (ja_cons (je_at 10 je_k) ja_nil))))) (fun each_ => (jg_n (of_decide_eq_true rfl) (jc_elt (je_call sd__law_inside (jw_cons (je_var 5) (jw_cons (je_var 12) jw_nil))) (Le.cons SLe.re <| Le.cons SLe.re <| Le.cons SLe.re <| Le.cons SLe.re <| Le.cons SLe.re <| Le.cons SLe.re <| Le.cons SLe.re <| Le.cons SLe.re <| Le.cons SLe.re <| Le.cons SLe.re <| Le.cons SLe.re <| Le.cons SLe.re <| Le.cons SLe.ju <| Le.nil)))))) ja_nil)))) (j_escB (j_escB (jb_ret je_k any_ok))) (j_nilc (jb_end (Le.cons SLe.re <| Le.cons SLe.ju <| Le.cons SLe.ju <| Le.cons SLe.ju <| Le.cons SLe.ju <| Le.cons SLe.ju <| Le.cons SLe.ju <| Le.cons SLe.ju <| Le.cons SLe.ju <| Le.cons SLe.ju <| Le.cons SLe.ju <| Le.cons SLe.re <| Le.cons SLe.re <| Le.nil))))))))))))))))))))))))))))) (fun _ =>
 (j_escT (jt_ret je_k any_ok))))
end LW

set_option Elab.async false
set_option linter.all false
set_option maxRecDepth 100000
set_option maxHeartbeats 2000001
namespace LW
open PySem PySem.Spec FW
open L2 (atI)
section
variable {a b : Int} {p q : Rat} {d : D} {m n k l : Nat}
theorem v_divisor2 : q_divisor_of (.tuple [.int a, .int b]) = .ok (.int (Nat.gcd a.natAbs b.natAbs : Nat)) := by
  unfold q_divisor_of
  simp
theorem v_whole : q_is_whole (.int a) = .ok (.bool true) := by
  unfold q_is_whole
  simp
theorem v_reduced : q_is_reduced (.tuple [.int a, .int b]) = .ok (.bool (decide (Nat.gcd a.natAbs b.natAbs = 1))) := by
  unfold q_is_reduced
  simp [v_divisor2]
  omega
theorem v_ratio_with (h : b ≠ 0) (ha : a.natAbs < 2 ^ n) (hb : b.natAbs < 2 ^ n) (hn : n ≤ lim) : q_ratio_with (.int a) (.int b) = .ok (rq (Rat.divInt a b)) := by
  have ba := big_le ha hn
  have bb := big_le hb hn
  obtain ⟨e1, e2⟩ := frac1 (a := a) h
  have g0 := gcd_ne (a := a) h
  unfold q_ratio_with
  by_cases hp : 0 < b
  · rw [if_pos hp] at e1 e2
    simp [v_divisor2, hp, ba, bb, e1, e2, rq, h]
  · rw [if_neg hp] at e1 e2
    simp [v_divisor2, hp, ba, bb, e1, e2, rq, h]
theorem v_product (hp : Sz m p) (hq : Sz n q) (h : m + n ≤ lim) : q_ratio_product (rq p) (rq q) = .ok (rq (p * q)) := by
  have c := v_ratio_with (a := p.num * q.num) (den_mul_ne p q) (natAbs_mul_lt hp.nm hq.nm) (natAbs_mul_lt hp.dn hq.dn) h
  rw [divInt_mul] at c
  unfold q_ratio_product
  simp [rq_eq p, rq_eq q, mul_fine hp.nm hq.nm h, mul_fine hp.dn hq.dn h, c]
theorem v_sum (hp : Sz m p) (hq : Sz n q) (h : m + n + 1 ≤ lim) : q_ratio_sum (rq p) (rq q) = .ok (rq (p + q)) := by
  have h' : m + n ≤ lim := by omega
  have c := v_ratio_with (a := p.num * q.den + q.num * p.den) (den_mul_ne p q) (add_mul_lt hp.nm hq.dn hq.nm hp.dn) (lt_up (natAbs_mul_lt hp.dn hq.dn) (Nat.le_succ _)) h
  rw [divInt_add] at c
  unfold q_ratio_sum
  simp [rq_eq p, rq_eq q, mul_fine hp.nm hq.dn h', mul_fine hq.nm hp.dn (by omega), mul_fine hp.dn hq.dn h', c]
theorem v_total {v : List Rat} (h : SzL k v) (hk : sb (v.length + 1) k + 1 ≤ lim) : q_total_of (.list (v.map rq)) = .ok (rq v.sum) := by
  unfold q_total_of
  have e : ∀ (xs : List Rat) (s : Rat) (j : Nat), SzL k xs → Sz (sb j k) s → j + xs.length ≤ v.length → foldM' (m := R) (fun number_ found_ => Mo.bind (call p_ratio_sum (acons (pur found_) (acons (pur number_) (pur [])))) fun found_ => pur found_) (xs.map rq) (rq s) = .ok (rq (s + xs.sum)) := by
    intro xs
    induction xs with
    | nil => intro s j _ _ _; simp [Rat.add_zero]
    | cons x xs ih =>
      intro s j hx hs hj
      rw [List.length_cons] at hj
      have hl : sb (j + 1) k ≤ sb (v.length + 1) k := Nat.succ_le_succ (Nat.mul_le_mul_right _ (by omega))
      have hs1 : sb j k + (k + 1) = sb (j + 1) k := by unfold sb; rw [Nat.succ_mul]; omega
      have c := v_sum hs (hx x (by simp)) (by omega)
      have i := ih (s + x) (j + 1) hx.tail ((hs.add (hx x (by simp))).mono (by omega)) (by omega)
      simp [c] at i ⊢
      rw [i]
      congr 2
      grind
  have z : PyData.tuple [.int 0, .int 1] = rq 0 := rfl
  have := e v 0 0 h (by simpa [sb] using sz_zero) (by omega)
  simp [z] at this ⊢
  rw [this]
  simp [Rat.zero_add]
theorem v_dot {u v : List Rat} (hu : SzL k u) (hv : SzL l v) (hl : u.length ≤ 20) (hk : sb (u.length + 1) (k + l) + 1 ≤ lim) : q_dot (rowD u) (rowD v) = .ok (rq (dotL u v)) := by
  unfold q_dot rowD
  have e : mapM' (m := R) (fun it0 => un2 it0 fun one_ two_ => Mo.nx (call p_ratio_product (acons (pur one_) (acons (pur two_) (pur []))))) ((u.zip v).map fun p => PyData.tuple [rq p.1, rq p.2]) = .ok ((u.zip v).map fun p => rq (p.1 * p.2)) := by
    refine mapM'_ok fun p hp => ?_
    obtain ⟨h1, h2⟩ := List.of_mem_zip hp
    have c := v_product (hu _ h1) (hv _ h2) (by unfold sb at hk; rw [Nat.succ_mul] at hk; omega)
    simp [c]
  have hz := szL_zip hu hv
  have hzl : (List.zipWith (· * ·) u v).length ≤ u.length := by simp; omega
  have t := v_total hz (by
    have : sb ((List.zipWith (· * ·) u v).length + 1) (k + l) ≤ sb (u.length + 1) (k + l) := Nat.succ_le_succ (Nat.mul_le_mul_right _ (by omega))
    omega)
  have e2 : (u.zip v).map (fun p => rq (p.1 * p.2)) = (List.zipWith (· * ·) u v).map rq := by
    rw [List.zip, List.map_zipWith, List.map_zipWith]
  have h3 : min u.length v.length ≤ 1000000 := by omega
  simp [zipD_row, h3]
  simp at e
  rw [e]
  simp [dotL]
  rw [e2, t]
end
section
variable {u v w : List Rat} {M : List (List Rat)}
def ledL (M : List (List Rat)) (v : List Rat) : List Rat := M.map fun r => dotL r v
def SzM (k : Nat) (M : List (List Rat)) : Prop := ∀ r ∈ M, SzL k r
/-- the size of a product of rows of at most n places -/
abbrev pb (n k l : Nat) : Nat := sb n (k + l)
theorem pb_mono {n' k' l' : Nat} (h1 : n ≤ n') (h2 : k ≤ k') (h3 : l ≤ l') : pb n k l ≤ pb n' k' l' := Nat.succ_le_succ (Nat.mul_le_mul h1 (by omega))
theorem zip_len {u v : List Rat} : (List.zipWith (· * ·) u v).length ≤ u.length := by simp; omega
theorem sz_dot (hu : SzL k u) (hv : SzL l v) (hl : u.length ≤ n) : Sz (pb n k l) (dotL u v) :=
  (sz_sum (szL_zip hu hv)).mono (Nat.succ_le_succ (Nat.mul_le_mul_right _ (Nat.le_trans zip_len hl)))
theorem sz_led (hM : SzM k M) (hv : SzL l v) (hl : ∀ r ∈ M, r.length ≤ n) : SzL (pb n k l) (ledL M v) := by
  intro x hx
  obtain ⟨r, hr, rfl⟩ := List.mem_map.mp hx
  exact sz_dot (hM r hr) hv (hl r hr)
theorem v_dot' (hu : SzL k u) (hv : SzL l v) (hl : u.length ≤ n) (hn : n ≤ 20) (hk : pb (n + 1) k l + 1 ≤ lim) : q_dot (rowD u) (rowD v) = .ok (rq (dotL u v)) :=
  v_dot hu hv (by omega) (Nat.le_trans (Nat.succ_le_succ (Nat.succ_le_succ (Nat.mul_le_mul_right _ (by omega)))) hk)
theorem v_lgcd {x y : Nat} : q__law_gcd (.int x) (.int y) = .ok (.int (Nat.gcd x y : Nat)) := by
  unfold q__law_gcd
  have key : Ok (whileR (μ := Empty) (fun (x : D × D) => match x with | (one_, two_) => tst (bin pGt (pur two_) (pur (.int 0)))) (fun (x : D × D) => match x with | (one_, two_) => Mo.bind (pair (pur two_) (bin pMod (prim pInt (acons (pur one_) (pur []))) (pur two_))) fun (x : D × D) => match x with | (one_, two_) => pur (.nx (one_, two_))) ((.int x, .int y) : D × D)) fun r => r = .go (.int (Nat.gcd x y : Nat), .int 0) := by
    refine whileR_inv (I := fun k t => ∃ a b : Nat, b = k ∧ Nat.gcd a b = Nat.gcd x y ∧ t = ((.int a, .int b) : D × D)) _ ?_ (k := y) ⟨x, y, rfl, rfl, rfl⟩
    rintro k t ⟨a, b, rfl, hg, rfl⟩
    by_cases h : 0 < b
    · have e : ((a : Int).fmod b) = ((a % b : Nat) : Int) := by
        rw [Int.fmod_eq_emod_of_nonneg _ (by omega)]; exact (Int.natCast_emod a b).symm
      have bn : b ≠ 0 := by omega
      simp [h, bn, e]
      exact ⟨a % b, Nat.mod_lt _ h, b, by rw [← hg, Nat.gcd_comm b, ← Nat.gcd_rec, Nat.gcd_comm], rfl, rfl⟩
    · have b0 : b = 0 := by omega
      subst b0
      simp at hg
      simp [hg]
  obtain ⟨r, e, rfl⟩ := key
  simp at e
  simp [e]
theorem v_lfrac (h : b ≠ 0) (ha : a.natAbs < 2 ^ n) (hb : b.natAbs < 2 ^ n) (hn : n ≤ lim) : q__law_frac (.int a) (.int b) = .ok (rq (Rat.divInt a b)) := by
  have ba := big_le ha hn
  have bb := big_le hb hn
  obtain ⟨e1, e2⟩ := frac2 (a := a) h
  have g0 := gcd_ne (a := a) h
  have ab : ∀ i : Int, (if i < 0 then -i else i) = (i.natAbs : Int) := fun i => by split <;> omega
  have b1 : big (-1) = 0 := by decide
  have b2 : big 1 = 0 := by decide
  have bneg : ∀ i : Int, big (-i) = big i := fun i => by unfold big; rw [Int.natAbs_neg]
  have c := v_lgcd (x := b.natAbs) (y := a.natAbs)
  rw [Nat.gcd_comm] at c
  have c1 : big a < 100000000 := by omega
  have c2 : big b < 100000000 := by omega
  unfold q__law_frac
  by_cases hn : b < 0
  · rw [if_pos hn] at e1 e2
    simp only [Int.neg_mul, Int.one_mul] at e1 e2
    rw [show (b.natAbs : Int) = -b by omega] at c
    simp [hn, ab, c, b1, b2, c1, c2, ba, bb, bneg, e1, e2, h, rq]
  · rw [if_neg hn] at e1 e2
    simp only [Int.one_mul] at e1 e2
    rw [show (b.natAbs : Int) = b by omega] at c
    simp [hn, ab, c, b1, b2, c1, c2, ba, bb, e1, e2, h, rq]
theorem v_ltimes (hp : Sz m p) (hq : Sz n q) (h : m + n ≤ lim) : q__law_times (rq p) (rq q) = .ok (rq (p * q)) := by
  have c := v_lfrac (a := p.num * q.num) (den_mul_ne p q) (natAbs_mul_lt hp.nm hq.nm) (natAbs_mul_lt hp.dn hq.dn) h
  rw [divInt_mul] at c
  unfold q__law_times
  simp [rq_eq p, rq_eq q, mul_fine hp.nm hq.nm h, mul_fine hp.dn hq.dn h, c]
theorem v_lplus (hp : Sz m p) (hq : Sz n q) (h : m + n + 1 ≤ lim) : q__law_plus (rq p) (rq q) = .ok (rq (p + q)) := by
  have h' : m + n ≤ lim := by omega
  have c := v_lfrac (a := p.num * q.den + q.num * p.den) (den_mul_ne p q) (add_mul_lt hp.nm hq.dn hq.nm hp.dn) (lt_up (natAbs_mul_lt hp.dn hq.dn) (Nat.le_succ _)) h
  rw [divInt_add] at c
  unfold q__law_plus
  simp [rq_eq p, rq_eq q, mul_fine hp.nm hq.dn h', mul_fine hq.nm hp.dn (by omega), mul_fine hp.dn hq.dn h', c]
theorem v_ldot (hu : SzL k u) (hv : SzL l v) (hl : u.length ≤ n) (hk : pb (n + 1) k l + 1 ≤ lim) : q__law_dot (rowD u) (rowD v) = .ok (rq (dotL u v)) := by
  unfold q__law_dot rowD
  have e : ∀ (ps : List (Rat × Rat)) (s : Rat) (j : Nat), (∀ p ∈ ps, Sz k p.1 ∧ Sz l p.2) → Sz (sb j (k + l)) s → j + ps.length ≤ n → foldM' (m := R) (fun it0 total_ => un2 it0 fun left_ right_ => Mo.bind (call p__law_plus (acons (pur total_) (acons (call p__law_times (acons (pur left_) (acons (pur right_) (pur [])))) (pur [])))) fun total_ => pur total_) (ps.map fun p => PyData.tuple [rq p.1, rq p.2]) (rq s) = .ok (rq (s + (ps.map fun p => p.1 * p.2).sum)) := by
    intro ps
    induction ps with
    | nil => intro s j _ _ _; simp [Rat.add_zero]
    | cons p ps ih =>
      intro s j hx hs hj
      rw [List.length_cons] at hj
      obtain ⟨h1, h2⟩ := hx p (by simp)
      have hl : sb (j + 1) (k + l) ≤ sb (n + 1) (k + l) := Nat.succ_le_succ (Nat.mul_le_mul_right _ (by omega))
      have hs1 : sb j (k + l) + (k + l + 1) = sb (j + 1) (k + l) := by unfold sb; rw [Nat.succ_mul]; omega
      have c0 := v_ltimes h1 h2 (by unfold pb at hk; omega)
      have c := v_lplus hs (h1.mul h2) (by unfold pb at hk; omega)
      have i := ih (s + p.1 * p.2) (j + 1) (fun q hq => hx q (by simp [hq])) ((hs.add (h1.mul h2)).mono (by omega)) (by omega)
      simp [c0, c] at i ⊢
      rw [i]
      congr 2
      grind
  have z : PyData.tuple [.int 0, .int 1] = rq 0 := rfl
  have := e (u.zip v) 0 0 (fun p hp => ⟨hu _ (List.of_mem_zip hp).1, hv _ (List.of_mem_zip hp).2⟩) (by simpa [sb] using sz_zero) (by simp; omega)
  simp [z, zipD_row] at this ⊢
  rw [this]
  simp [Rat.zero_add, dotL, List.zip, List.map_zipWith]
end
section
variable {a b : Int} {p q : Rat} {d : D} {m n k l : Nat} {ds : List D}
def isW : D → Bool
  | .int _ => true
  | _ => false
def fracB : D → Bool
  | .tuple [.int a, .int b] => decide (0 < b) && decide (Nat.gcd a.natAbs b.natAbs = 1)
  | _ => false
/-- a row of n fractions -/
def lineB (n : Nat) : D → Bool
  | .tuple ds => decide (ds.length = n) && ds.all fracB
  | _ => false
theorem w_whole (d : D) : q_is_whole d = .ok (.bool (isW d)) := by
  unfold q_is_whole
  cases d <;> simp [isiD, tyD, isW]
theorem w_lwhole (d : D) : q__law_whole d = .ok (.bool (isW d)) := by
  unfold q__law_whole
  cases d <;> simp [isiD, tyD, isW]
theorem isi_tup (d : D) : isiD "tuple" d = (match d with | .tuple _ => true | _ => false) := by cases d <;> rfl
theorem ratio_cases (ds : List D) : (∃ a b, ds = [.int a, .int b]) ∨ (∃ x y, ds = [x, y] ∧ (isW x && isW y) = false) ∨ ds.length ≠ 2 := by
  rcases ds with _ | ⟨x, _ | ⟨y, _ | ⟨z, ds⟩⟩⟩
  · exact .inr (.inr (by simp))
  · exact .inr (.inr (by simp))
  · cases x <;> cases y <;> first | exact .inl ⟨_, _, rfl⟩ | exact .inr (.inl ⟨_, _, rfl, rfl⟩)
  · exact .inr (.inr (by simp))
theorem fracB_not (h : ∀ a b, ds ≠ [.int a, .int b]) : fracB (.tuple ds) = false := by
  unfold fracB
  split
  · rename_i a b e; cases e; exact absurd rfl (h a b)
  · rfl
theorem fracB_len (h : ds.length ≠ 2) : fracB (.tuple ds) = false := fracB_not fun a b e => h (by rw [e]; rfl)
theorem fracB_two {x y : D} (h : (isW x && isW y) = false) : fracB (.tuple [x, y]) = false := fracB_not fun a b e => by cases e; simp [isW] at h
theorem all2 {x y : Bool} : pAll [.list [.bool x, .bool y]] = some (.d (.bool (x && y))) := by cases x <;> cases y <;> rfl
theorem w_ratio (d : D) : q_is_ratio d = .ok (.bool (fracB d)) := by
  unfold q_is_ratio
  cases d with
  | tuple ds =>
    rcases ratio_cases ds with ⟨a, b, rfl⟩ | ⟨x, y, rfl, h⟩ | h
    · simp [q_are_wholes, w_whole, all2, isW, v_reduced, fracB]
      by_cases hb : 0 < b <;> simp [hb]
    · simp [q_are_wholes, w_whole, all2, h, fracB_two h]
    · have h' : ¬ ((ds.length : Int) = 2) := by omega
      simp [q_are_wholes, h', fracB_len h]
  | _ => simp [q_are_wholes, isi_tup, fracB]
theorem w_lis_frac (d : D) : q__law_is_frac d = .ok (.bool (fracB d)) := by
  unfold q__law_is_frac
  cases d with
  | tuple ds =>
    rcases ratio_cases ds with ⟨a, b, rfl⟩ | ⟨x, y, rfl, h⟩ | h
    · simp [w_lwhole, isW, fracB]
      by_cases hb : 0 < b
      · have ab : (if a < 0 then -a else a) = (a.natAbs : Int) := by split <;> omega
        have c := v_lgcd (x := b.natAbs) (y := a.natAbs)
        rw [show (b.natAbs : Int) = b by omega, Nat.gcd_comm] at c
        simp [hb, ab, c]
        omega
      · simp [hb]
    · cases x <;> cases y <;> simp_all [w_lwhole, isW, fracB]
    · have h' : ¬ ((ds.length : Int) = 2) := by omega
      simp [h', fracB_len h]
  | _ => simp [isi_tup, fracB]
theorem pAll_f {f : D → Bool} {xs : List D} : pAll [.list (xs.map fun x => .bool (f x))] = some (.d (.bool (xs.all f))) := pAll_map
theorem w_are_ratios (hl : ∀ ds, d = .tuple ds → ds.length ≤ 1000000) : q_are_ratios d (.int n) = .ok (.bool (lineB n d)) := by
  unfold q_are_ratios
  cases d with
  | tuple ds =>
    have e : mapM' (m := R) (fun each_ => Mo.nx (call p_is_ratio (acons (pur each_) (pur [])))) ds = .ok (ds.map fun x => .bool (fracB x)) := mapM'_lst fun x _ => by simp [w_ratio]
    have h := hl ds rfl
    by_cases hn : ds.length = n
    · subst hn
      simp at e
      simp [h, e, lineB, pAll_f]
    · have hn' : ¬ ((ds.length : Int) = n) := by omega
      simp [hn, hn', lineB]
  | _ => simp [isi_tup, lineB]
/-- data without dicts, of at most k levels, none wider than 1000 -/
def Tm : Nat → D → Prop
  | 0, .tuple _ => False
  | 0, .list _ => False
  | _, .dict _ => False
  | _, .str s => (PyData.str s).canLay0 = true
  | k + 1, .tuple ds => ds.length ≤ 1000 ∧ ∀ x ∈ ds, Tm k x
  | k + 1, .list ds => ds.length ≤ 1000 ∧ ∀ x ∈ ds, Tm k x
  | _, _ => True
theorem Tm.tup (h : Tm k (.tuple ds)) : ds.length ≤ 1000 ∧ ∀ x ∈ ds, Tm (k - 1) x := by
  cases k with
  | zero => exact h.elim
  | succ k => exact h
theorem Tm.okd : ∀ {k : Nat} {d : D}, Tm k d → Okd k d
  | k, .none, _ => Okd.none.mono (Nat.zero_le _)
  | k, .bool _, _ => Okd.bool.mono (Nat.zero_le _)
  | k, .int _, _ => Okd.int.mono (Nat.zero_le _)
  | 0, .str _, h => ⟨h, Nat.zero_le _⟩
  | k + 1, .str _, h => ⟨h, Nat.zero_le _⟩
  | 0, .tuple _, h => h.elim
  | 0, .list _, h => h.elim
  | k + 1, .tuple ds, h => Okd.tuple fun x hx => Tm.okd (h.2 x hx)
  | k + 1, .list ds, h => Okd.list fun x hx => Tm.okd (h.2 x hx)
  | 0, .dict _, h => h.elim
  | k + 1, .dict _, h => h.elim
theorem Tm.mono : ∀ {k l : Nat} {d : D}, Tm k d → k ≤ l → Tm l d
  | _, l, .none, _, _ => by cases l <;> exact trivial
  | _, l, .bool _, _, _ => by cases l <;> exact trivial
  | _, l, .int _, _, _ => by cases l <;> exact trivial
  | 0, l, .str _, h, _ => by cases l <;> exact h
  | k + 1, l, .str _, h, _ => by cases l <;> exact h
  | 0, _, .tuple _, h, _ => h.elim
  | 0, _, .list _, h, _ => h.elim
  | k + 1, 0, .tuple _, _, hl => absurd hl (by omega)
  | k + 1, 0, .list _, _, hl => absurd hl (by omega)
  | k + 1, l + 1, .tuple ds, h, hl => ⟨h.1, fun x hx => (h.2 x hx).mono (by omega)⟩
  | k + 1, l + 1, .list ds, h, hl => ⟨h.1, fun x hx => (h.2 x hx).mono (by omega)⟩
  | 0, _, .dict _, h, _ => h.elim
  | k + 1, _, .dict _, h, _ => h.elim
theorem filter_nil {xs : List D} {p : D → Bool} : (xs.filter p).isEmpty = !xs.any p := by
  rw [Bool.eq_iff_iff]
  simp [List.filter_eq_nil_iff]
/-- [x for x in xs if p x] == [] -/
theorem eq_none {xs : List D} {p : D → Bool} (h : ∀ x ∈ xs, Okd 50 x) : pEq (.list (xs.filter p)) (.list []) = some (.d (.bool (!xs.any p))) := by
  rw [pEq_nil fun x hx => h x (List.mem_filter.mp hx).1, filter_nil]
theorem ne_none {xs : List D} {p : D → Bool} (h : ∀ x ∈ xs, Okd 50 x) : pNe (.list (xs.filter p)) (.list []) = some (.d (.bool (xs.any p))) := by
  rw [pNe_nil fun x hx => h x (List.mem_filter.mp hx).1, filter_nil, Bool.not_not]
theorem not_any {xs : List D} {p : D → Bool} : (!xs.any fun x => !p x) = xs.all p := by
  rw [List.any_eq_not_all_not]; simp
theorem w_lis_line (hl : ∀ ds, d = .tuple ds → ds.length ≤ 1000 ∧ ∀ x ∈ ds, Okd 50 x) : q__law_is_line d (.int n) = .ok (.bool (lineB n d)) := by
  unfold q__law_is_line
  cases d with
  | tuple ds =>
    obtain ⟨h, ho⟩ := hl ds rfl
    have e : optM (m := R) (fun each_ => whenE (Mo.nx (tnot (tst (call p__law_is_frac (acons (pur each_) (pur [])))))) (Mo.nx (pur each_))) ds = .ok ((ds.filter fun x => !fracB x).map id) := optM_lst fun x _ => by
      simp [w_lis_frac]
      cases fracB x <;> simp
    rw [List.map_id] at e
    have h' : ds.length ≤ 1000000 := by omega
    by_cases hn : ds.length = n
    · subst hn
      simp at e
      simp [h', e, lineB, eq_none ho, not_any]
    · have hn' : ¬ ((ds.length : Int) = n) := by omega
      simp [hn, hn', lineB]
  | _ => simp [isi_tup, lineB]
def ent (ds : List D) (i j : Nat) : D := match ds[i]? with
  | some (.tuple r) => (r[j]?).getD .none
  | _ => .none
def symB (ds : List D) : Bool := (List.range ds.length).all fun i => (List.range i).all fun j => eqD (ent ds i j) (ent ds j i)
def tableB : D → Bool
  | .tuple ds => (decide (1 ≤ ds.length) && decide (ds.length ≤ 6)) && (ds.all (lineB ds.length) && symB ds)
  | _ => false
theorem lineB_tup {d : D} (h : lineB n d = true) : ∃ r, d = .tuple r ∧ r.length = n ∧ ∀ x ∈ r, fracB x = true := by
  cases d with
  | tuple r =>
    simp [lineB] at h
    exact ⟨r, rfl, h.1, h.2⟩
  | _ => simp [lineB] at h
theorem fracB_okd {d : D} (h : fracB d = true) : Okd 1 d := by
  unfold fracB at h
  split at h
  · exact Okd.tuple fun x hx => by
      simp at hx
      rcases hx with rfl | rfl <;> exact Okd.int
  · cases h
theorem ent_ok (hr : ∀ d ∈ ds, lineB n d = true) {i j : Nat} (hi : i < ds.length) (hj : j < n) : (bin pIx (atE (.tuple ds) (pur (.int (i : Int)))) (pur (.int (j : Int))) : R D) = .ok (ent ds i j) ∧ fracB (ent ds i j) = true := by
  obtain ⟨r, e, hl, hf⟩ := lineB_tup (hr ds[i] (List.getElem_mem hi))
  have e1 : ds[i]? = some (.tuple r) := by rw [List.getElem?_eq_getElem hi, e]
  have hj' : j < r.length := by omega
  have e2 : ent ds i j = r[j] := by unfold ent; rw [e1]; simp [hj']
  rw [e2]
  refine ⟨?_, hf _ (List.getElem_mem hj')⟩
  simp [e1, hj']
theorem pAll_flat {F : Nat → Nat → Bool} {n : Nat} : pAll [.list ((List.range n).flatMap fun i => (List.range i).map fun j => PyData.bool (F i j))] = some (.d (.bool ((List.range n).all fun i => (List.range i).all fun j => F i j))) := by
  have e : ((List.range n).flatMap fun i => (List.range i).map fun j => PyData.bool (F i j)) = (prs n id).map fun p => PyData.bool (F p.1 p.2) := by
    unfold prs
    rw [List.map_flatMap]
    congr 1
    funext i
    rw [List.map_map]
    rfl
  rw [e, pAll_map (f := fun p : Nat × Nat => F p.1 p.2), prs_all]
  rfl
theorem rng_mapM {f : D → R D} {G : Nat → D} (h : ∀ i < n, f (.int (i : Int)) = .ok (G i)) : mapM' f (rngD 0 n) = .ok ((List.range n).map G) := by
  rw [rngD_eq]; exact mapM'_ok fun i hi => h i (List.mem_range.mp hi)
theorem rng_optM {f : D → R (Option D)} {G : Nat → D} {p : Nat → Bool} (h : ∀ i < n, f (.int (i : Int)) = .ok (if p i = true then some (G i) else none)) : optM f (rngD 0 n) = .ok (((List.range n).filter p).map G) := by
  rw [rngD_eq]; exact optM_ok fun i hi => h i (List.mem_range.mp hi)
theorem rng_flatM {f : D → R (List D)} {G : Nat → List D} (h : ∀ i < n, f (.int (i : Int)) = .ok (G i)) : flatM' f (rngD 0 n) = .ok ((List.range n).flatMap G) := by
  rw [rngD_eq]; exact flatM'_ok fun i hi => h i (List.mem_range.mp hi)
theorem eqD_ok {x y : D} (h : Okd 1 x) (k : Okd 1 y) : pEq x y = some (.d (.bool (eqD x y))) := pEq_eqD (h.mono (by decide)) (k.mono (by decide))
theorem neD_ok {x y : D} (h : Okd 1 x) (k : Okd 1 y) : pNe x y = some (.d (.bool (!eqD x y))) := pNe_eqD (h.mono (by decide)) (k.mono (by decide))
theorem eq_noneN {p : Nat → Bool} {n : Nat} : pEq (.list (((List.range n).filter p).map fun (i : Nat) => .int (i : Int))) (.list []) = some (.d (.bool (!(List.range n).any p))) := by
  rw [pEq_nil (fun x hx => by
    obtain ⟨i, _, rfl⟩ := List.mem_map.mp hx
    exact Okd.int.mono (by decide))]
  congr 3
  rw [Bool.eq_iff_iff]
  simp [List.filter_eq_nil_iff]
theorem ne_noneN {p : Nat → Bool} {n : Nat} : pNe (.list (((List.range n).filter p).map fun (i : Nat) => .int (i : Int))) (.list []) = some (.d (.bool ((List.range n).any p))) := by
  rw [pNe_nil (fun x hx => by
    obtain ⟨i, _, rfl⟩ := List.mem_map.mp hx
    exact Okd.int.mono (by decide))]
  congr 3
  rw [Bool.eq_iff_iff]
  simp [List.filter_eq_nil_iff]
def bowlB : D → Bool
  | .tuple [.tuple t, s] => tableB (.tuple t) && (decide (t.length ≤ 3) && lineB t.length s)
  | _ => false
/-- a pair whose parts are as they must be -/
structure Pr (x y : D) : Prop where
  x1 : ∀ ds, x = .tuple ds → ∀ z ∈ ds, Okd 50 z ∧ ∀ es, z = .tuple es → es.length ≤ 1000 ∧ ∀ w ∈ es, Okd 50 w
  y1 : ∀ ds, y = .tuple ds → ds.length ≤ 1000 ∧ ∀ z ∈ ds, Okd 50 z
theorem tableB_tup {x : D} (h : tableB x = true) : ∃ t, x = .tuple t := by
  cases x with
  | tuple t => exact ⟨t, rfl⟩
  | _ => simp [tableB] at h
theorem bowlB_two {x y : D} : bowlB (.tuple [x, y]) = (match x with | .tuple t => tableB (.tuple t) && (decide (t.length ≤ 3) && lineB t.length y) | _ => false) := by
  cases x <;> rfl
theorem bowlB_len (h : ds.length ≠ 2) : bowlB (.tuple ds) = false := by
  unfold bowlB
  split
  · rename_i e; cases e; exact absurd rfl h
  · rfl
theorem pair_cases (ds : List D) : (∃ x y, ds = [x, y]) ∨ ds.length ≠ 2 := by
  rcases ds with _ | ⟨x, _ | ⟨y, _ | ⟨z, ds⟩⟩⟩
  · exact .inr (by simp)
  · exact .inr (by simp)
  · exact .inl ⟨x, y, rfl⟩
  · exact .inr (by simp)
end
section
variable {a b : Int} {p q : Rat} {d : D} {m n k l : Nat} {ds dk : List D}
def Dk (dk : List D) : Prop := ∃ a b c : Int, dk = [.int a, .int b, .int c] ∧ 0 ≤ a ∧ (0 ≤ b ∧ b < 2147483648) ∧ 0 ≤ c ∧ c < 2147483648
theorem big31 {b : Int} (h : 0 ≤ b) (h' : b < 2147483648) : big b < 31 := big_lt (n := 31) (by
  have : (2 : Nat) ^ 31 = 2147483648 := by decide
  omega) (by decide)
theorem fmod_rng {a b : Int} (h : 0 < b) : 0 ≤ a.fmod b ∧ a.fmod b < b := ⟨Int.fmod_nonneg_of_pos a h, Int.fmod_lt_of_pos a h⟩
@[simp] theorem setL_0 {x v : D} {vs : List D} : setL (x :: vs) (some 0) v = .ok (v :: vs) := setL_n (k := 0) (vs := x :: vs) (Nat.succ_pos _)
@[simp] theorem setL_1 {x y v : D} {vs : List D} : setL (x :: y :: vs) (some 1) v = .ok (x :: v :: vs) := setL_n (k := 1) (vs := x :: y :: vs) (by simp)
@[simp] theorem setL_2 {x y z v : D} {vs : List D} : setL (x :: y :: z :: vs) (some 2) v = .ok (x :: y :: v :: vs) := setL_n (k := 2) (vs := x :: y :: z :: vs) (by simp)
theorem g_roll {wd : Int} (hk : Dk dk) (h1 : 0 < wd) (h2 : wd ≤ 1000) : Ok (q__law_roll (.int wd) dk) fun r => ∃ i, r.1 = .int i ∧ (0 ≤ i ∧ i < wd) ∧ Dk r.2 := by
  obtain ⟨a, b, c, rfl, ha, hb, hc⟩ := hk
  have bw : big wd < 9000 := Nat.lt_trans (big31 (by omega) (by omega)) (by decide)
  have wn : wd ≠ 0 := by omega
  unfold q__law_roll
  by_cases h : 0 < a
  · simp [h, bw, wn]
    exact ⟨fmod_rng h1, _, _, _, rfl, Int.fdiv_nonneg ha (by omega), ⟨hb.1, hb.2⟩, hc.1, hc.2⟩
  · have b1 := big31 hb.1 hb.2
    have b2 := big31 hc.1 hc.2
    have b3 : big 5 < 31 := by decide
    have b4 : big 39373 < 31 := by decide
    have b5 : big 65536 < 9000 := by decide
    have b6 : big 2147483629 < 9000 := by decide
    have b7 : big 1013 < 9000 := by decide
    have b8 : big c + big 5 < 100000000 := by omega
    have b9 : big b + big 39373 < 100000000 := by omega
    simp [h, bw, wn, b3, b4, b5, b6, b7, b8, b9]
    refine ⟨fmod_rng h1, _, _, _, rfl, ha, ?_, ?_⟩
    · have := fmod_rng (a := b * 39373 + (c * 5 + 4021).fmod 65536 + 1) (b := 2147483629) (by decide)
      omega
    · have := fmod_rng (a := c * 5 + 4021) (b := 65536) (by decide)
      omega
/-- a drawn thing -/
theorem g_pick (hk : Dk dk) (h1 : ds ≠ []) (h2 : ds.length ≤ 1000) : Ok (q__law_pick (.list ds) dk) fun r => r.1 ∈ ds ∧ Dk r.2 := by
  unfold q__law_pick
  have l1 : 0 < ds.length := List.length_pos_iff.mpr h1
  simp
  refine (g_roll hk (wd := ds.length) (by omega) (by omega)).mono ?_
  rintro ⟨v, dk'⟩ ⟨i, rfl, hi, hk'⟩
  obtain ⟨j, rfl⟩ := Int.eq_ofNat_of_zero_le hi.1
  have hj : j < ds.length := by omega
  simp [List.getElem?_eq_getElem hj, hk']
/-- a loop that draws -/
theorem foldS_inv {τ : Type} {f : D → τ → S τ} (I : Nat → τ → Prop) {xs : List D} {t0 : τ} (h0 : I 0 t0) (hd : Dk dk) (hs : ∀ (i : Nat) (h : i < xs.length) t dk, I i t → Dk dk → Ok (f xs[i] t dk) fun r => I (i + 1) r.1 ∧ Dk r.2) : Ok (foldM' f xs t0 dk) fun r => I xs.length r.1 ∧ Dk r.2 := by
  have go : ∀ (n k : Nat) (t : τ) (dk : List D), k + n = xs.length → I k t → Dk dk → Ok (foldM' f (xs.drop k) t dk) fun r => I xs.length r.1 ∧ Dk r.2 := by
    intro n
    induction n with
    | zero =>
      intro k t dk e h hd
      have e2 : k = xs.length := by omega
      subst e2
      simp [h, hd]
    | succ n ih =>
      intro k t dk e h hd
      have hk : k < xs.length := by omega
      rw [List.drop_eq_getElem_cons hk, foldM'_cons, bindS, Ok_bind]
      exact (hs k hk t dk h hd).mono fun r hr => ih (k + 1) r.1 r.2 (by omega) hr.1 hr.2
  have := go xs.length 0 t0 dk (by omega) h0 hd
  simpa using this
theorem rng_len {n : Nat} : (rngD 0 n).length = n := rngD_len
theorem foldS_rng {τ : Type} {f : D → τ → S τ} (I : Nat → τ → Prop) {t0 : τ} (h0 : I 0 t0) (hd : Dk dk) (hs : ∀ (i : Nat) t dk, i < n → I i t → Dk dk → Ok (f (.int (i : Int)) t dk) fun r => I (i + 1) r.1 ∧ Dk r.2) : Ok (foldM' f (rngD 0 n) t0 dk) fun r => I n r.1 ∧ Dk r.2 := by
  have := foldS_inv (dk := dk) (f := f) (xs := rngD 0 n) I h0 hd (fun i h t dk hi hd => by
    have e : (rngD 0 n)[i] = .int (i : Int) := by simp [rngD]
    rw [e]
    exact hs i t dk (by rw [rng_len] at h; exact h) hi hd)
  rwa [rng_len] at this
theorem g_wholes {lo wd : Int} (hk : Dk dk) (hn : n ≤ 1000) (h1 : 0 < wd) (h2 : wd ≤ 1000) : Ok (q__law_wholes (.int n) (.int lo) (.int wd) dk) fun r => ∃ xs : List Int, r.1 = .list (xs.map .int) ∧ xs.length = n ∧ (∀ x ∈ xs, lo ≤ x ∧ x < lo + wd) ∧ Dk r.2 := by
  unfold q__law_wholes
  have n1 : (n : Int) ≤ 1000000 := by omega
  have n2 : (-1000000 : Int) ≤ n := by omega
  simp [n1, n2]
  refine (foldS_rng (fun i t => ∃ xs : List Int, t = xs.map .int ∧ xs.length = i ∧ ∀ x ∈ xs, lo ≤ x ∧ x < lo + wd) ⟨[], rfl, rfl, fun _ h => nomatch h⟩ hk ?_).mono ?_
  · rintro i t dk hi ⟨xs, rfl, rfl, hx⟩ hd
    simp
    refine (g_roll hd h1 h2).mono ?_
    rintro ⟨v, dk'⟩ ⟨j, rfl, hj, hd'⟩
    have h3 : xs.length < 1000000 := by omega
    simp [h3, hd']
    refine ⟨xs ++ [lo + j], by simp, by simp, fun x hx' => ?_⟩
    rcases List.mem_append.mp hx' with h | h
    · exact hx x h
    · rw [List.mem_singleton.mp h]; omega
  · rintro ⟨t, dk'⟩ ⟨⟨xs, rfl, hl, hx⟩, hd'⟩
    exact ⟨xs, rfl, hl, hx, hd'⟩
def matF (n : Nat) (F : Nat → Nat → Rat) : List (List Rat) := (List.range n).map fun i => (List.range n).map (F i)
def cellF (n : Nat) (C : Nat → Nat → Int) : List (List D) := (List.range n).map fun i => (List.range n).map fun j => .int (C i j)
def upd2 (C : Nat → Nat → Int) (i j : Nat) (v : Int) : Nat → Nat → Int := fun a b => if a = i ∧ b = j then v else C a b
theorem cell_at {C : Nat → Nat → Int} {i j : Nat} (hi : i < n) (hj : j < n) : ((atI (cellF n C) (i : Int)).bind fun vs => atI vs (j : Int)) = some (.int (C i j)) := by
  unfold cellF
  rw [atI_n, List.getElem?_map, List.getElem?_range hi]
  show atI ((List.range n).map fun j => PyData.int (C i j)) (j : Int) = _
  rw [atI_n, List.getElem?_map, List.getElem?_range hj]
  rfl
theorem cell_at' {C : Nat → Nat → Int} {i j : Nat} (hi : i < n) (hj : j < n) : ((cellF n C)[i]?.bind fun vs => vs[j]?) = some (.int (C i j)) := by
  have := cell_at (C := C) hi hj
  simpa using this
theorem range_set {α : Type} {n i : Nat} {F : Nat → α} {v : α} : ((List.range n).map F).set i v = (List.range n).map fun k => if k = i then v else F k := by
  apply List.ext_getElem?
  intro k
  by_cases e : i = k
  · subst e
    by_cases h : i < n
    · rw [List.getElem?_set_self (by simpa using h)]; simp [h]
    · rw [List.getElem?_eq_none (by simpa using h), List.getElem?_eq_none (by simpa using h)]
  · rw [List.getElem?_set_ne e]
    by_cases h : k < n
    · simp [h]; intro z; exact absurd z.symm e
    · rw [List.getElem?_eq_none (by simpa using h), List.getElem?_eq_none (by simpa using h)]
theorem cell_set {C : Nat → Nat → Int} {i j : Nat} {v : Int} (hi : i < n) (hj : j < n) : set2L (cellF n C) (some (i : Int)) (some (j : Int)) (.int v) = .ok (cellF n (upd2 C i j v)) := by
  have e1 : L2.ixN (cellF n C).length (i : Int) = some i := by
    unfold L2.ixN cellF; simp [hi]
  have e2 : (cellF n C)[i]? = some ((List.range n).map fun j => .int (C i j)) := by unfold cellF; simp [hi]
  have e3 : L2.ixN ((List.range n).map fun j => PyData.int (C i j)).length (j : Int) = some j := by
    unfold L2.ixN; simp [hj]
  unfold set2L
  simp only [Option.bind_some, e1, e2, e3]
  have hl : j < ((List.range n).map fun j => PyData.int (C i j)).length := by simpa using hj
  rw [if_pos hl]
  show R.ok _ = R.ok _
  congr 1
  unfold cellF
  rw [range_set]
  show ((List.range n).map fun i => (List.range n).map fun j => PyData.int (C i j)).set i _ = _
  rw [range_set]
  refine List.map_congr_left (fun x _ => ?_)
  by_cases e : x = i
  · subst e
    rw [if_pos rfl]
    refine List.map_congr_left fun y _ => ?_
    unfold upd2
    by_cases e4 : y = j <;> simp [e4]
  · rw [if_neg e]
    refine List.map_congr_left fun y _ => ?_
    unfold upd2
    simp [e]
theorem rng_mapOO {f : D → S (List D)} {G : Nat → List D} {dk : List D} (h : ∀ i < n, f (.int (i : Int)) dk = .ok (G i, dk)) : mapOO f (rngD 0 n) dk = .ok ((List.range n).map G, dk) := by
  rw [rngD_eq]
  have go : ∀ L : List Nat, (∀ i ∈ L, i < n) → mapOO f (L.map fun (i : Nat) => .int (i : Int)) dk = .ok (L.map G, dk) := by
    intro L
    induction L with
    | nil => intro _; rfl
    | cons i L ih =>
      intro hl
      rw [List.map_cons]
      show (Mo.bind (f _) fun y => Mo.bind (mapOO f _) fun ys => pur (y :: ys) : S _) dk = _
      rw [bindS, h i (hl i (by simp)), R.bind_ok, bindS, ih fun j hj => hl j (by simp [hj])]
      rfl
  exact go _ fun i hi => List.mem_range.mp hi
theorem rng_mapS {f : D → S D} {G : Nat → D} {dk : List D} (h : ∀ i < n, f (.int (i : Int)) dk = .ok (G i, dk)) : mapM' f (rngD 0 n) dk = .ok ((List.range n).map G, dk) := by
  rw [rngD_eq]
  have go : ∀ L : List Nat, (∀ i ∈ L, i < n) → mapM' f (L.map fun (i : Nat) => .int (i : Int)) dk = .ok (L.map G, dk) := by
    intro L
    induction L with
    | nil => intro _; rfl
    | cons i L ih =>
      intro hl
      rw [List.map_cons, mapM'_cons, bindS, h i (hl i (by simp)), R.bind_ok, bindS, ih fun j hj => hl j (by simp [hj])]
      rfl
  exact go _ fun i hi => List.mem_range.mp hi
/-- alike on both sides, none above B -/
def Tb (B : Nat) (C : Nat → Nat → Int) : Prop := (∀ i j, C i j = C j i) ∧ ∀ i j, (C i j).natAbs ≤ B
theorem Tb.mono {A B : Nat} {C : Nat → Nat → Int} (h : Tb A C) (l : A ≤ B) : Tb B C := ⟨h.1, fun i j => Nat.le_trans (h.2 i j) l⟩
theorem tb_upd {A B : Nat} {C : Nat → Nat → Int} {i j : Nat} {v : Int} (h : Tb A C) (hv : v.natAbs ≤ B) (l : A ≤ B) : Tb B (upd2 (upd2 C i j v) j i v) := by
  refine ⟨fun a b => ?_, fun a b => ?_⟩
  · unfold upd2
    by_cases h1 : a = j ∧ b = i
    · rw [if_pos h1]
      by_cases h2 : b = j ∧ a = i
      · rw [if_pos h2]
      · rw [if_neg h2, if_pos ⟨h1.2, h1.1⟩]
    · rw [if_neg h1]
      by_cases h2 : a = i ∧ b = j
      · rw [if_pos h2, if_pos ⟨h2.2, h2.1⟩]
      · rw [if_neg h2]
        rw [if_neg (fun z => h2 ⟨z.2, z.1⟩), if_neg (fun z => h1 ⟨z.2, z.1⟩)]
        exact h.1 a b
  · unfold upd2
    split
    · exact hv
    · split
      · exact hv
      · exact Nat.le_trans (h.2 a b) l
theorem rep_list {n : Nat} {x : D} : (List.replicate n [x]).flatten = (List.range n).map fun _ => x := by
  induction n with
  | zero => rfl
  | succ n ih => rw [List.replicate_succ', List.flatten_append, ih, List.range_succ, List.map_append]; rfl
theorem pick_int (hk : Dk dk) {xs : List Int} (h1 : xs ≠ []) (h2 : xs.length ≤ 1000) : Ok (q__law_pick (.list (xs.map .int)) dk) fun r => ∃ i ∈ xs, r.1 = .int i ∧ Dk r.2 := by
  refine (g_pick hk (ds := xs.map .int) (by simpa using h1) (by simpa using h2)).mono ?_
  rintro ⟨v, dk'⟩ ⟨h, hd⟩
  obtain ⟨i, hi, rfl⟩ := (List.mem_map.mp h)
  exact ⟨i, hi, rfl, hd⟩
theorem Ok_bindS {α β : Type} {a : S α} {k : α → S β} {P : β × List D → Prop} : Ok ((Mo.bind a k : S β) dk) P = Ok (a dk) fun r => Ok (k r.1 r.2) P := Ok_bind
theorem cells_sq {C : Nat → Nat → Int} {xs : List Int} {g : Nat → Int} (hn : n ≤ 1000) (hg : ∀ i < n, xs[i]? = some (g i)) (hx : ∀ i < n, -1 ≤ g i ∧ g i < 3) {dk : List D} :
    (cap 1000000 (rng1 (acons (pur (.int n)) (pur []))) (mapOO fun i_ => Mo.nx (cap 1000000 (rng1 (acons (pur (.int n)) (pur []))) (mapM' fun j_ => Mo.nx (bin pAdd (at2E (cellF n C) (intD i_) (intD j_)) (bin pMul (atE (.list (xs.map .int)) (pur i_)) (atE (.list (xs.map .int)) (pur j_))))))) : S (List (List D))) dk = .ok (cellF n (fun i j => C i j + g i * g j), dk) := by
  have n1 : (n : Int) ≤ 1000000 := by omega
  have n2 : (-1000000 : Int) ≤ n := by omega
  have n3 : n ≤ 1000000 := by omega
  have hb : ∀ i, i < n → big (g i) < 3 := fun i hi => by
    have := hx i hi
    exact big_lt (n := 3) (by omega) (by decide)
  have e1 : ∀ i, i < n → mapM' (m := S) (fun j_ => Mo.nx (bin pAdd (at2E (cellF n C) (intD (.int (i : Int))) (intD j_)) (bin pMul (atE (.list (xs.map .int)) (pur (.int (i : Int)))) (atE (.list (xs.map .int)) (pur j_))))) (rngD 0 n) dk = .ok ((List.range n).map fun j => .int (C i j + g i * g j), dk) := fun i hi => by
    refine rng_mapS fun j hj => ?_
    have b : big (g i) + big (g j) < 100000000 := by have := hb i hi; have := hb j hj; omega
    simp [cell_at' hi hj, hg i hi, hg j hj, b]
  simp [n1, n2, n3, rngD_len]
  refine rng_mapOO fun i hi => ?_
  have := e1 i hi
  simp at this
  simp [n1, n2, n3, rngD_len, this]
theorem g_more {i j : Nat} {way : Int} (hk : Dk dk) (hw : 0 ≤ way ∧ way < 6) :
    Ok ((ifE (tst (bin pEq (pur (.int way)) (pur (.int 0))))
 (Mo.bind (bin pSub (callA p__law_roll (acons (pur (.int 6)) (pur []))) (pur (.int 2))) fun more_ =>
 (pur more_))
 (Mo.bind (ifE (tor (tst (bin pEq (pur (.int way)) (pur (.int 2)))) (tst (bin pEq (pur (.int way)) (pur (.int 3)))))
 (Mo.bind (callA p__law_roll (acons (pur (.int 3)) (pur []))) fun more_ =>
 (pur more_))
 (Mo.bind (ifE (tst (bin pEq (pur (.int way)) (pur (.int 4))))
 (Mo.bind (ifE (tst (bin pEq (pur (.int i)) (pur (.int j)))) (pur (.int 1)) (callA p__law_roll (acons (pur (.int 3)) (pur [])))) fun more_ =>
 (pur more_))
 (Mo.bind (ifE (tst (bin pEq (pur (.int way)) (pur (.int 5))))
 (Mo.bind (bin pSub (pur (.int 1)) (bin pDiv (callA p__law_roll (acons (pur (.int 4)) (pur []))) (pur (.int 3)))) fun more_ =>
 (pur more_))
 (pur (.int 0))) fun more_ =>
 (pur more_))) fun more_ =>
 (pur more_))) fun more_ =>
 (pur more_)) : S D) dk) fun r => ∃ mr : Int, r.1 = .int mr ∧ mr.natAbs ≤ 3 ∧ Dk r.2 := by
  have cs : way = 0 ∨ way = 1 ∨ way = 2 ∨ way = 3 ∨ way = 4 ∨ way = 5 := by omega
  have rl : ∀ (wd : Int), 0 < wd → wd ≤ 6 → ∀ {P : D × List D → Prop}, (∀ t dk', (0 ≤ t ∧ t < wd) → Dk dk' → P (.int t, dk')) → Ok (q__law_roll (.int wd) dk) P := fun wd h1 h2 P h => (g_roll hk h1 (by omega)).mono (by
    rintro ⟨v, dk'⟩ ⟨t, rfl, ht, hd⟩
    exact h t dk' ht hd)
  rcases cs with rfl | rfl | rfl | rfl | rfl | rfl
  · simp
    refine rl 6 (by decide) (by decide) fun t dk' ht hd => ?_
    simp [hd]
    omega
  · simp [hk]
  · simp
    refine rl 3 (by decide) (by decide) fun t dk' ht hd => ?_
    simp [hd]
    omega
  · simp
    refine rl 3 (by decide) (by decide) fun t dk' ht hd => ?_
    simp [hd]
    omega
  · by_cases e : i = j
    · simp [e, hk]
    · have e2 : ¬ (i : Int) = j := by omega
      simp [e, e2]
      refine rl 3 (by decide) (by decide) fun t dk' ht hd => ?_
      simp [hd]
      omega
  · simp
    refine rl 4 (by decide) (by decide) fun t dk' ht hd => ?_
    have b3 : big 3 < 9000 := by decide
    have tt : t = 0 ∨ t = 1 ∨ t = 2 ∨ t = 3 := by omega
    simp [b3, hd]
    rcases tt with rfl | rfl | rfl | rfl <;> decide
theorem mapS_ok {α : Type} {L : List α} {F G : α → D} {f : D → S D} (h : ∀ x ∈ L, f (F x) dk = .ok (G x, dk)) : mapM' f (L.map F) dk = .ok (L.map G, dk) := by
  induction L with
  | nil => rfl
  | cons x L ih =>
    rw [List.map_cons, mapM'_cons, bindS, h x (by simp), R.bind_ok, bindS, ih fun y hy => h y (by simp [hy])]
    rfl
/-- a quadratic -/
def bowlD (M : List (List Rat)) (s : List Rat) : D := .tuple [formD M, rowD s]
def tmB : Nat → D → Bool
  | _, .none => true
  | _, .bool _ => true
  | _, .int _ => true
  | _, .str s => (PyData.str s).canLay0
  | _, .dict _ => false
  | 0, .tuple _ => false
  | 0, .list _ => false
  | k + 1, .tuple ds => decide (ds.length ≤ 1000) && ds.all (tmB k)
  | k + 1, .list ds => decide (ds.length ≤ 1000) && ds.all (tmB k)
theorem tmB_ok : ∀ {k : Nat} {d : D}, tmB k d = true → Tm k d
  | 0, .none, _ => trivial
  | k + 1, .none, _ => trivial
  | 0, .bool _, _ => trivial
  | k + 1, .bool _, _ => trivial
  | 0, .int _, _ => trivial
  | k + 1, .int _, _ => trivial
  | 0, .str _, h => h
  | k + 1, .str _, h => h
  | 0, .dict _, h => absurd h Bool.false_ne_true
  | k + 1, .dict _, h => absurd h Bool.false_ne_true
  | 0, .tuple _, h => absurd h Bool.false_ne_true
  | 0, .list _, h => absurd h Bool.false_ne_true
  | k + 1, .tuple ds, h => by
    have h' : (decide (ds.length ≤ 1000) && ds.all (tmB k)) = true := h
    rw [Bool.and_eq_true] at h'
    exact ⟨of_decide_eq_true h'.1, fun x hx => tmB_ok (List.all_eq_true.mp h'.2 x hx)⟩
  | k + 1, .list ds, h => by
    have h' : (decide (ds.length ≤ 1000) && ds.all (tmB k)) = true := h
    rw [Bool.and_eq_true] at h'
    exact ⟨of_decide_eq_true h'.1, fun x hx => tmB_ok (List.all_eq_true.mp h'.2 x hx)⟩
/-- any thing: without dicts, or a dict -/
def Od (k : Nat) (d : D) : Prop := Tm k d ∨ ∃ kv, d = .dict kv
def odB (k : Nat) : D → Bool
  | .dict _ => true
  | d => tmB k d
theorem odB_ok (h : odB k d = true) : Od k d := by
  cases d with
  | dict kv => exact .inr ⟨kv, rfl⟩
  | _ => exact .inl (tmB_ok h)
theorem g_odd (hk : Dk dk) : Ok (q__law_odd dk) fun r => Od 4 r.1 ∧ Dk r.2 := by
  unfold q__law_odd
  simp
  refine (g_pick hk (by simp) (by simp)).mono ?_
  rintro ⟨d, dk'⟩ ⟨h, hd⟩
  refine ⟨?_, hd⟩
  have all : ∀ ds : List D, ds.all (odB 4) = true → d ∈ ds → Od 4 d := fun ds h1 h2 => odB_ok (List.all_eq_true.mp h1 d h2)
  exact all _ (by decide +kernel) h
theorem g_no_frac (hk : Dk dk) : Ok (q__law_no_frac dk) fun r => Tm 3 r.1 ∧ Dk r.2 := by
  unfold q__law_no_frac
  simp
  refine (g_pick hk (by simp) (by simp)).mono ?_
  rintro ⟨d, dk'⟩ ⟨h, hd⟩
  refine ⟨?_, hd⟩
  have all : ∀ ds : List D, ds.all (tmB 3) = true → d ∈ ds → Tm 3 d := fun ds h1 h2 => tmB_ok (List.all_eq_true.mp h1 d h2)
  exact all _ (by decide +kernel) h
def putL (ds : List D) (i : Nat) (x : D) : List D := ds.take i ++ [x] ++ ds.drop (i + 1)
theorem v_put {x : D} {i : Nat} (hi : i < ds.length) (hl : ds.length ≤ 1000) : q__law_put (.tuple ds) (.int i) x = .ok (.tuple (putL ds i x)) := by
  have e1 := cut_take (xs := ds) (n := i) (by omega)
  have e2 := cut_drop (xs := ds) (n := i + 1) (by omega)
  have e3 : ((i + 1 : Nat) : Int) = (i : Int) + 1 := by omega
  rw [e3] at e2
  have l1 : min i ds.length + 1 ≤ 1000000 := by omega
  have l2 : min i ds.length + 1 + (ds.length - (i + 1)) ≤ 1000000 := by omega
  unfold q__law_put putL
  simp [pCut, e1, e2, l1, l2]
/-- the lists that stand for forms: n rows of n pairs of whole numbers -/
structure Fr (n : Nat) (ts : List D) : Prop where
  len : ts.length = n
  row : ∀ t ∈ ts, ∃ rs, t = .tuple rs ∧ rs.length = n ∧ ∀ x ∈ rs, ∃ a b, x = .tuple [.int a, .int b]
theorem pair_tm {a b : Int} : Tm 1 (.tuple [.int a, .int b]) := ⟨by simp, fun x hx => by
  simp at hx
  rcases hx with rfl | rfl <;> trivial⟩
theorem Fr.tm {ts : List D} (h : Fr n ts) (hn : n ≤ 6) : ∀ t ∈ ts, Tm 2 t := fun t ht => by
  obtain ⟨rs, rfl, hl, hr⟩ := h.row t ht
  exact ⟨by omega, fun x hx => by obtain ⟨a, b, rfl⟩ := hr x hx; exact pair_tm⟩
theorem tm_tup {xs : List D} (h : ∀ x ∈ xs, Tm k x) (hl : xs.length ≤ 1000) : Tm (k + 1) (.tuple xs) := ⟨hl, h⟩
theorem tm_lst {xs : List D} (h : ∀ x ∈ xs, Tm k x) (hl : xs.length ≤ 1000) : Tm (k + 1) (.list xs) := ⟨hl, h⟩
theorem tm_none : Tm k .none := by cases k <;> trivial
theorem tm_int {i : Int} : Tm k (.int i) := by cases k <;> trivial
theorem tm_nil : Tm (k + 1) (.tuple []) := ⟨by simp, fun _ h => nomatch h⟩
theorem put_all {P : D → Prop} {xs : List D} {i : Nat} {x : D} (h : ∀ y ∈ xs, P y) (hx : P x) : ∀ y ∈ putL xs i x, P y := by
  intro y hy
  unfold putL at hy
  simp only [List.mem_append, List.mem_singleton] at hy
  rcases hy with (h1 | rfl) | h1
  · exact h y (List.mem_of_mem_take h1)
  · exact hx
  · exact h y (List.mem_of_mem_drop h1)
theorem put_len {xs : List D} {i : Nat} {x : D} (hi : i < xs.length) : (putL xs i x).length = xs.length := by
  unfold putL
  simp
  omega
theorem put_get {xs : List D} {i j : Nat} {x : D} (hi : i < xs.length) : (putL xs i x)[j]? = if j = i then some x else xs[j]? := by
  unfold putL
  by_cases h : j = i
  · subst h
    rw [if_pos rfl, List.getElem?_append_left (by simp; omega), List.getElem?_append_right (by simp; omega)]
    simp [show min j xs.length = j by omega]
  · rw [if_neg h]
    by_cases h2 : j < i
    · rw [List.getElem?_append_left (by simp; omega), List.getElem?_append_left (by simp; omega), List.getElem?_take, if_pos h2]
    · rw [List.getElem?_append_right (by simp; omega), List.getElem?_drop]
      congr 1
      simp; omega
/-- a thing near a quadratic -/
def Bd (d : D) : Prop := Od 7 d ∨ ∃ x y, d = .tuple [x, y] ∧ Od 6 x ∧ Od 6 y
theorem Od.mono {k l : Nat} {d : D} (h : Od k d) (hl : k ≤ l) : Od l d := h.imp (fun t => t.mono hl) id
theorem Od.pr1 {x : D} (h : Od 6 x) : ∀ ds, x = .tuple ds → ∀ z ∈ ds, Okd 50 z ∧ ∀ es, z = .tuple es → es.length ≤ 1000 ∧ ∀ w ∈ es, Okd 50 w := by
  rintro ds rfl z hz
  rcases h with h | ⟨kv, h⟩
  · have hz' := h.tup.2 z hz
    refine ⟨hz'.okd.mono (by decide), ?_⟩
    rintro es rfl
    exact ⟨hz'.tup.1, fun w hw => (hz'.tup.2 w hw).okd.mono (by decide)⟩
  · cases h
theorem Od.pr2 {x : D} (h : Od 6 x) : ∀ ds, x = .tuple ds → ds.length ≤ 1000 ∧ ∀ z ∈ ds, Okd 50 z := by
  rintro ds rfl
  rcases h with h | ⟨kv, h⟩
  · exact ⟨h.tup.1, fun z hz => (h.tup.2 z hz).okd.mono (by decide)⟩
  · cases h
theorem Bd.pr {d : D} (h : Bd d) : ∀ x y, d = .tuple [x, y] → Pr x y := by
  rintro x y rfl
  rcases h with (h | ⟨kv, h⟩) | ⟨x', y', e, hx, hy⟩
  · have := h.tup.2
    exact ⟨Od.pr1 (.inl (this x (by simp))), Od.pr2 (.inl (this y (by simp)))⟩
  · cases h
  · cases e
    exact ⟨hx.pr1, hy.pr2⟩
def rowOf (n : Nat) (f : Nat → Rat) : List Rat := (List.range n).map f
theorem row_is {v : List Rat} (h : v.length = n) : v = rowOf n fun i => v.getD i 0 := by
  subst h
  apply List.ext_getElem?
  intro i
  unfold rowOf
  by_cases hi : i < v.length
  · simp [hi]
  · rw [List.getElem?_eq_none (by omega), List.getElem?_eq_none (by simpa using hi)]
theorem sum_rowOf {f : Nat → Rat} : (rowOf n f).sum = sumR n f := by
  unfold rowOf
  induction n with
  | zero => rfl
  | succ n ih => rw [List.range_succ, List.map_append, List.sum_append, ih, sumR]; simp [Rat.add_zero]
theorem zip_rowOf {f g : Nat → Rat} {op : Rat → Rat → Rat} : List.zipWith op (rowOf n f) (rowOf n g) = rowOf n fun i => op (f i) (g i) := by
  unfold rowOf
  rw [List.zipWith_map]
  induction n with
  | zero => rfl
  | succ n ih => rw [List.range_succ, List.zipWith_append rfl, ih, List.map_append]; rfl
theorem dot_rowOf {f g : Nat → Rat} : dotL (rowOf n f) (rowOf n g) = sumR n fun i => f i * g i := by
  unfold dotL
  rw [zip_rowOf, sum_rowOf]
theorem led_rowOf {F : Nat → Nat → Rat} {g : Nat → Rat} : ledL (matF n F) (rowOf n g) = rowOf n fun i => sumR n fun j => F i j * g j := by
  unfold ledL matF
  show List.map _ _ = (List.range n).map _
  rw [List.map_map]
  refine List.map_congr_left (fun i _ => ?_)
  exact dot_rowOf (f := F i)
theorem map_rowOf {f : Nat → Rat} {h : Rat → Rat} : (rowOf n f).map h = rowOf n fun i => h (f i) := by unfold rowOf; rw [List.map_map]; rfl
theorem rowOf_congr {f g : Nat → Rat} (h : ∀ i, f i = g i) : rowOf n f = rowOf n g := by
  unfold rowOf; exact List.map_congr_left fun i _ => h i
/-- x M y -/
def bil (n : Nat) (F : Nat → Nat → Rat) (x y : Nat → Rat) : Rat := sumR n fun i => x i * sumR n fun j => F i j * y j
theorem bil_add_l {F : Nat → Nat → Rat} {x y z : Nat → Rat} : bil n F (fun i => x i + y i) z = bil n F x z + bil n F y z := by
  unfold bil
  rw [← sumR_add]
  exact sumR_congr fun i _ => by grind
theorem bil_add_r {F : Nat → Nat → Rat} {x y z : Nat → Rat} : bil n F z (fun i => x i + y i) = bil n F z x + bil n F z y := by
  unfold bil
  rw [← sumR_add]
  refine sumR_congr fun i _ => ?_
  have : sumR n (fun j => F i j * (x j + y j)) = sumR n (fun j => F i j * x j) + sumR n (fun j => F i j * y j) := by
    rw [← sumR_add]
    exact sumR_congr fun j _ => by grind
  rw [this]
  grind
theorem bil_symm {F : Nat → Nat → Rat} {x y : Nat → Rat} (hs : ∀ i j, F i j = F j i) : bil n F x y = bil n F y x := by
  unfold bil
  have e1 : ∀ x y : Nat → Rat, sumR n (fun i => x i * sumR n fun j => F i j * y j) = sumR n fun i => sumR n fun j => x i * (F i j * y j) := fun x y => sumR_congr fun i _ => sumR_mul.symm
  rw [e1, e1, sumR_swap]
  refine sumR_congr fun i _ => sumR_congr fun j _ => ?_
  rw [hs j i]
  grind
end
section
variable {a b : Int} {p q : Rat} {d : D} {m n k l : Nat} {ds dk : List D} {F : Nat → Nat → Rat} {f g s : Nat → Rat}
abbrev mF (n : Nat) (F : Nat → Nat → Rat) : D := formD (matF n F)
abbrev rF (n : Nat) (f : Nat → Rat) : D := rowD (rowOf n f)
theorem rowOf_len : (rowOf n f).length = n := by simp [rowOf]
theorem szL_rowOf (h : ∀ i < n, Sz k (f i)) : SzL k (rowOf n f) := fun x hx => by
  obtain ⟨i, hi, rfl⟩ := List.mem_map.mp hx
  exact h i (List.mem_range.mp hi)
theorem szM_matF (h : ∀ i j, Sz k (F i j)) : SzM k (matF n F) := fun r hr x hx => by
  obtain ⟨i, hi, rfl⟩ := List.mem_map.mp hr
  obtain ⟨j, hj, rfl⟩ := List.mem_map.mp hx
  exact h i j
theorem len_matF : (matF n F).length = n := by simp [matF]
theorem lens_matF : ∀ r ∈ matF n F, r.length ≤ n := fun r hr => by
  obtain ⟨i, hi, rfl⟩ := List.mem_map.mp hr
  simp
theorem sz_sumR' {f : Nat → Rat} (h : ∀ i < n, Sz k (f i)) : Sz (sb n k) (sumR n f) := sz_sumR h
/-- M f -/
def led (n : Nat) (F : Nat → Nat → Rat) (g : Nat → Rat) : Nat → Rat := fun i => sumR n fun j => F i j * g j
theorem sz_ledF (hF : ∀ i j, Sz k (F i j)) (hg : ∀ i < n, Sz l (g i)) : ∀ i, Sz (pb n k l) (led n F g i) := fun i => sz_sumR fun j hj => (hF i j).mul (hg j hj)
theorem x_dot (hf : ∀ i < n, Sz k (f i)) (hg : ∀ i < n, Sz l (g i)) (hn : n ≤ 20) (hk : pb (n + 1) k l + 1 ≤ lim) : q_dot (rF n f) (rF n g) = .ok (rq (sumR n fun i => f i * g i)) := by
  have := v_dot' (u := rowOf n f) (v := rowOf n g) (n := n) (szL_rowOf hf) (szL_rowOf hg) (by rw [rowOf_len]; exact Nat.le_refl _) hn hk
  rw [this, dot_rowOf]
theorem x_ldot (hf : ∀ i < n, Sz k (f i)) (hg : ∀ i < n, Sz l (g i)) (hk : pb (n + 1) k l + 1 ≤ lim) : q__law_dot (rF n f) (rF n g) = .ok (rq (sumR n fun i => f i * g i)) := by
  have := v_ldot (u := rowOf n f) (v := rowOf n g) (n := n) (szL_rowOf hf) (szL_rowOf hg) (by rw [rowOf_len]; exact Nat.le_refl _) hk
  rw [this, dot_rowOf]
/-- the worth of a quadratic at a place -/
def hgt (n : Nat) (F : Nat → Nat → Rat) (s x : Nat → Rat) : Rat := bil n F x x + sumR n fun i => s i * x i
def slp (n : Nat) (F : Nat → Nat → Rat) (s x : Nat → Rat) : Nat → Rat := fun i => led n F x i * 2 + s i
theorem bil_led {x y : Nat → Rat} : sumR n (fun i => x i * led n F y i) = bil n F x y := rfl
abbrev bD (n : Nat) (F : Nat → Nat → Rat) (s : Nat → Rat) : D := .tuple [mF n F, rF n s]
theorem rowD_map {v : List Rat} : rowD v = .tuple (v.map rq) := rfl
end
section
variable {a b : Int} {p q : Rat} {d : D} {m n k l : Nat} {ds dk : List D} {F : Nat → Nat → Rat} {f g s x y : Nat → Rat}
theorem fracB_rq : fracB (rq q) = true := by
  show (decide ((0 : Int) < (q.den : Int)) && decide (Nat.gcd q.num.natAbs (q.den : Int).natAbs = 1)) = true
  rw [decide_eq_true (red q), decide_eq_true (by have := q.den_pos; omega)]; rfl
theorem lineB_rowD {v : List Rat} (h : v.length = n) : lineB n (rowD v) = true := by
  show (decide ((v.map rq).length = n) && (v.map rq).all fracB) = true
  rw [decide_eq_true (by simpa using h), List.all_eq_true.mpr]
  · rfl
  · intro x hx
    obtain ⟨q, _, rfl⟩ := List.mem_map.mp hx
    exact fracB_rq
theorem eqD_rq : eqD (rq q) (rq q) = true := by
  show PyData.eqv (rq q) (rq q) = true
  unfold rq
  simp [PyData.eqv, PyData.eqvAll]
theorem ent_matF {i j : Nat} (hi : i < n) (hj : j < n) : ent ((matF n F).map rowD) i j = rq (F i j) := by
  unfold ent
  simp [matF, hi, rowD, hj]
theorem tableB_matF (hs : ∀ i j, F i j = F j i) (h1 : 1 ≤ n) (hn : n ≤ 6) : tableB (mF n F) = true := by
  show (decide (1 ≤ ((matF n F).map rowD).length) && decide (((matF n F).map rowD).length ≤ 6) && (((matF n F).map rowD).all (lineB ((matF n F).map rowD).length) && symB ((matF n F).map rowD))) = true
  have hl : ((matF n F).map rowD).length = n := by simp [matF]
  have e1 : ((matF n F).map rowD).all (lineB n) = true := List.all_eq_true.mpr fun x hx => by
    obtain ⟨r, hr, rfl⟩ := List.mem_map.mp hx
    obtain ⟨i, hi, rfl⟩ := List.mem_map.mp hr
    exact lineB_rowD (by simp)
  have e2 : symB ((matF n F).map rowD) = true := by
    unfold symB
    rw [hl]
    refine List.all_eq_true.mpr fun i hi => List.all_eq_true.mpr fun j hj => ?_
    have hi' := (List.mem_range.mp hi)
    have hj' := (List.mem_range.mp hj)
    rw [ent_matF hi' (by omega), ent_matF (by omega) hi', hs i j]
    exact eqD_rq
  rw [hl, e1, e2, decide_eq_true h1, decide_eq_true hn]; rfl
theorem bowlB_bD (hs : ∀ i j, F i j = F j i) (h1 : 1 ≤ n) (hn : n ≤ 3) : bowlB (bD n F s) = true := by
  show (tableB (mF n F) && (decide (((matF n F).map rowD).length ≤ 3) && lineB ((matF n F).map rowD).length (rF n s))) = true
  have hl : ((matF n F).map rowD).length = n := by simp [matF]
  rw [hl, tableB_matF hs h1 (by omega), decide_eq_true hn, lineB_rowD rowOf_len]; rfl
theorem fr_matF : Fr n ((matF n F).map rowD) := ⟨by simp [matF], fun t ht => by
  obtain ⟨r, hr, rfl⟩ := List.mem_map.mp ht
  obtain ⟨i, hi, rfl⟩ := List.mem_map.mp hr
  refine ⟨_, rfl, by simp, fun x hx => ?_⟩
  obtain ⟨q, _, rfl⟩ := List.mem_map.mp hx
  exact ⟨_, _, rfl⟩⟩
theorem bd_bD (hn : n ≤ 3) : Bd (bD n F s) := .inr ⟨_, _, rfl, .inl ((tm_tup (fr_matF.tm (by omega)) (by simp [matF]; omega)).mono (by decide)), .inl ((tm_tup (k := 1) (fun x hx => by
  obtain ⟨q, _, rfl⟩ := List.mem_map.mp hx
  exact pair_tm) (by simp [rowOf]; omega)).mono (by decide))⟩
theorem forM'_nx {μ : Type} {f : D → Unit → R (Fb Unit μ)} : ∀ {xs : List D}, (∀ x ∈ xs, f x () = .ok (.nx ())) → forM' f xs () = .ok (.go ())
  | [], _ => rfl
  | x :: xs, h => by
    rw [forM'_cons, h x (by simp)]
    exact forM'_nx fun y hy => h y (by simp [hy])
theorem enumD_mem {x : D} : ∀ {xs : List D} {k : Nat}, x ∈ enumD k xs → ∃ (i : Int) (z : D), x = .tuple [.int i, z] ∧ z ∈ xs
  | [], _, h => by simp [enumD] at h
  | z :: xs, k, h => by
    rcases List.mem_cons.mp h with h | h
    · exact ⟨_, z, h, by simp⟩
    · obtain ⟨i, w, e, m⟩ := enumD_mem h
      exact ⟨i, w, e, by simp [m]⟩
theorem x_check_row_of {v : List Rat} (h : v.length = n) (hn : n ≤ 1000) : q_check_row_of (.int n) (rowD v) = .ok .none := by
  have e : forM' (m := R) (μ := D) (fun it0 _ => (un2 it0 fun index_ each_ => (ifE (tnot (tst (call p_is_ratio (acons (pur each_) (pur []))))) (Mo.lift .bad) (pur (.nx (())))))) (enumD 0 (v.map rq)) () = .ok (.go ()) := by
    refine forM'_nx fun x hx => ?_
    obtain ⟨i, z, rfl, hm⟩ := enumD_mem hx
    obtain ⟨q, _, rfl⟩ := List.mem_map.mp hm
    simp [w_ratio, fracB_rq]
  unfold q_check_row_of
  simp at e
  simp [rowD, isiD, tyD, h, e]
theorem way_law (hs : ∀ i j, F i j = F j i) : hgt n F s x + ((sumR n fun i => slp n F s x i * (y i + -x i)) + bil n F (fun i => y i + -x i) (fun i => y i + -x i)) = hgt n F s y := by
  let w : Nat → Rat := fun i => y i + -x i
  have hy : y = fun i => x i + w i := by funext i; show y i = x i + (y i + -x i); grind
  have b1 : bil n F y y = (bil n F x x + bil n F x w) + (bil n F w x + bil n F w w) := by
    calc bil n F y y = bil n F (fun i => x i + w i) (fun i => x i + w i) := by rw [← hy]
      _ = _ := by rw [bil_add_l, bil_add_r (z := x), bil_add_r (z := w)]
  have b2 : bil n F x w = bil n F w x := bil_symm hs
  have s1 : (sumR n fun i => slp n F s x i * (y i + -x i)) = 2 * bil n F w x + sumR n fun i => s i * w i := by
    show _ = 2 * (sumR n fun i => w i * led n F x i) + _
    rw [← sumR_mul, ← sumR_add]
    exact sumR_congr fun i _ => by unfold slp; show _ = 2 * (w i * _) + s i * w i; show (led n F x i * 2 + s i) * w i = _; grind
  have s2 : (sumR n fun i => s i * y i) = (sumR n fun i => s i * x i) + sumR n fun i => s i * w i := by
    rw [← sumR_add]
    exact sumR_congr fun i _ => by show s i * y i = s i * x i + s i * (y i + -x i); grind
  show _ + (_ + bil n F w w) = _
  unfold hgt
  rw [s1, s2, b1, b2]
  grind
theorem g_deck {ns : List Int} {t salt : Int} (h1 : 0 ≤ t) (h2 : 0 ≤ salt) (h3 : salt + 104651 * t < 2147483648) (h4 : salt < 2147483648) : Ok (q__law_deck ns (.int t) (.int salt)) Dk := by
  have b1 : big 104651 < 31 := by decide
  have b2 := big31 h1 (by omega)
  have b3 : big 104651 + big t < 100000000 := by omega
  unfold q__law_deck
  simp [b3]
  refine (foldM'_inv (fun _ t => ∃ z : Int, t = .int z ∧ 0 ≤ z ∧ z < 2147483648) ⟨_, rfl, by omega, by omega⟩ ?_).mono ?_
  · rintro i hi t ⟨z, rfl, hz1, hz2⟩
    have hi' : i < (cutD ns none (some 12)).length := by simpa using hi
    have c1 : big 48073 < 31 := by decide
    have c2 := big31 hz1 hz2
    have c3 : big z + big 48073 < 100000000 := by omega
    have c4 : big 1000000093 < 9000 := by decide
    have c5 : big 2147483629 < 9000 := by decide
    have c6 := fmod_rng (a := (cutD ns none (some 12))[i]) (b := 1000000093) (by decide)
    have c7 := big31 c6.1 (by omega)
    have c8 : big 3 < 31 := by decide
    have c9 : big (((cutD ns none (some 12))[i]).fmod 1000000093) + big 3 < 100000000 := by omega
    simp [c3, c4, c5, c9]
    have := fmod_rng (a := z * 48073 + ((cutD ns none (some 12))[i]).fmod 1000000093 * 3 + 77) (b := 2147483629) (by decide)
    omega
  · rintro t ⟨z, rfl, hz1, hz2⟩
    split
    · rename_i ht
      obtain ⟨j, rfl⟩ := Int.eq_ofNat_of_zero_le h1
      have hj : j < ns.length := by omega
      refine ⟨.int ns[j], ?_, ?_⟩
      · simp [hj]
      · simp
        by_cases hc : (1000000000000000000 : Int) ≤ ((ns[j]).natAbs : Int)
        · right
          refine ⟨by omega, _, _, _, rfl, by omega, ⟨hz1, hz2⟩, h2, h4⟩
        · left
          exact ⟨by omega, _, _, _, rfl, by omega, ⟨hz1, hz2⟩, h2, h4⟩
    · exact ⟨_, _, _, rfl, Int.le_refl _, ⟨hz1, hz2⟩, h2, h4⟩
theorem forS_go {μ : Type} {f : D → Unit → S (Fb Unit μ)} : ∀ {xs : List D} {dk : List D}, (∀ x ∈ xs, ∀ dk, Ok (f x () dk) fun r => r.1 = .nx ()) → Ok (forM' f xs () dk) fun r => r.1 = .go ()
  | [], dk, _ => by simp
  | x :: xs, dk, h => by
    rw [forM'_cons, Ok_bindS]
    refine (h x (by simp) dk).mono ?_
    rintro ⟨r, dk2⟩ hr
    simp only at hr
    subst hr
    exact forS_go fun y hy => h y (by simp [hy])
theorem szL_get {v : List Rat} {i : Nat} (h : SzL k v) (hi : i < v.length) : Sz k (v.getD i 0) := by
  have : v.getD i 0 = v[i] := by simp [hi]
  rw [this]
  exact h _ (List.getElem_mem hi)
theorem sz_bil (hF : ∀ i j, Sz 7 (F i j)) (hg : ∀ i < n, Sz l (g i)) (hn : n ≤ 3) : Sz (pb 3 l (pb 3 7 l)) (bil n F g g) := by
  refine (sz_sumR (k := l + pb n 7 l) fun i hi => (hg i hi).mul (sz_ledF hF hg i)).mono ?_
  exact pb_mono hn (Nat.le_refl _) (pb_mono hn (Nat.le_refl _) (Nat.le_refl _))
theorem sz_dot3 (hf : ∀ i < n, Sz k (f i)) (hg : ∀ i < n, Sz l (g i)) (hn : n ≤ 3) : Sz (pb 3 k l) (sumR n fun i => f i * g i) := (sz_sumR (k := k + l) fun i hi => (hf i hi).mul (hg i hi)).mono (pb_mono hn (Nat.le_refl _) (Nat.le_refl _))
theorem sz_hgt (hF : ∀ i j, Sz 7 (F i j)) (hs : ∀ i < n, Sz 3 (s i)) (hg : ∀ i < n, Sz 34 (g i)) (hn : n ≤ 3) : Sz 603 (hgt n F s g) := ((sz_bil hF hg hn).add (sz_dot3 hs hg hn)).mono (by decide)
theorem sz_slp (hF : ∀ i j, Sz 7 (F i j)) (hs : ∀ i < n, Sz 3 (s i)) (hg : ∀ i < n, Sz 34 (g i)) (hn : n ≤ 3) : ∀ i < n, Sz 133 (slp n F s g i) := fun i hi => ((((sz_ledF hF hg i).mono (show pb n 7 34 ≤ pb 3 7 34 from pb_mono hn (Nat.le_refl _) (Nat.le_refl _))).mul (q := 2) (n := 2) ⟨by decide, by decide⟩).add (hs i hi)).mono (by decide)
theorem rp_row (h : ∀ i < n, Sz k (f i)) (hk : k ≤ 1900) (hn : n ≤ 3) : Rp 2 9 (rF n f) := by
  refine Rp.tuple (dp := 1) (bk := 2) (n := 3) (fun x hx => ?_) (by simp [rowOf]; omega)
  obtain ⟨q, hq, rfl⟩ := List.mem_map.mp hx
  obtain ⟨i, hi, rfl⟩ := List.mem_map.mp hq
  exact Rp.rq (h i (List.mem_range.mp hi)) hk
theorem ne_str {a : Str} : pNe (.str a) (.str a) = some (.d (.bool false)) := by
  simp [pNe, strP]
theorem ne_rq : pNe (rq q) (rq q) = some (.d (.bool false)) := by
  rw [neD_ok (fracB_okd fracB_rq) (fracB_okd fracB_rq), eqD_rq]; rfl
theorem v_way (hx : ∀ i < n, Sz 34 (x i)) (hy : ∀ i < n, Sz 34 (y i)) : mapM' (m := S) (fun it0 => (un2 it0 fun x_ y_ => (Mo.nx (call p__law_plus (acons (pur y_) (acons (tupE (acons (negV (atE x_ (pur (.int 0)))) (acons (atE x_ (pur (.int 1))) (pur [])))) (pur []))))))) ((List.range n).map fun i => PyData.tuple [rq (x i), rq (y i)]) dk = .ok ((List.range n).map fun i => rq (y i + -x i), dk) := by
  refine mapS_ok fun i hi => ?_
  have hi' := (List.mem_range.mp hi)
  have neg : PyData.tuple [.int (-(x i).num), .int (x i).den] = rq (-x i) := rfl
  have sneg : Sz 34 (-x i) := ⟨by show (-(x i).num).natAbs < _; rw [Int.natAbs_neg]; exact (hx i hi').1, (hx i hi').2⟩
  have c := v_lplus (hy i hi') sneg (by have : lim = 13400 := rfl; omega)
  simp [rq_eq (x i), neg, c]
end
end LW

set_option Elab.async false
set_option linter.all false
set_option maxRecDepth 100000
set_option maxHeartbeats 2000001
namespace LW
open PySem PySem.Spec FW
open L2 (atI)
variable {a b : Int} {p q : Rat} {d : D} {m n k l : Nat} {ds dk : List D}
/-! ## rooms of any data -/
def roomB : D → Bool
  | .tuple [.int n, .tuple ls, ts] => (decide (1 ≤ n) && decide (n ≤ 3)) && (decide (ls.length ≤ 6) && (ls.all (lineB n.toNat) && lineB ls.length ts))
  | _ => false
structure Pr3 (y z : D) : Prop where
  y1 : ∀ ds, y = .tuple ds → ∀ z ∈ ds, Okd 50 z ∧ ∀ es, z = .tuple es → es.length ≤ 1000 ∧ ∀ w ∈ es, Okd 50 w
  z1 : ∀ ds, z = .tuple ds → ds.length ≤ 1000 ∧ ∀ z ∈ ds, Okd 50 z
theorem roomB_len (h : ds.length ≠ 3) : roomB (.tuple ds) = false := by
  unfold roomB
  split
  · rename_i e; cases e; exact absurd rfl h
  · rfl
theorem triple_cases (ds : List D) : (∃ x y z, ds = [x, y, z]) ∨ ds.length ≠ 3 := by
  rcases ds with _ | ⟨x, _ | ⟨y, _ | ⟨z, _ | ⟨u, ds⟩⟩⟩⟩
  · exact .inr (by simp)
  · exact .inr (by simp)
  · exact .inr (by simp)
  · exact .inl ⟨x, y, z, rfl⟩
  · exact .inr (by simp)
theorem w_between {lo hi : Int} : q_is_between d (.int lo) (.int hi) = .ok (.bool (match d with | .int i => decide (lo ≤ i) && decide (i ≤ hi) | _ => false)) := by
  unfold q_is_between
  cases d <;> simp [w_whole, isW]
  split <;> simp [*]
theorem w_rows {ls : List D} (n : Nat) (h : ∀ x ∈ ls, ∀ es, x = .tuple es → es.length ≤ 1000) : mapM' (m := R) (fun row_ => (Mo.nx (call p_are_ratios (acons (pur row_) (acons (pur (.int n)) (pur [])))))) ls = .ok (ls.map fun x => .bool (lineB n x)) := mapM'_lst fun x hx => by
  have := w_are_ratios (d := x) (n := n) fun es e => Nat.le_trans (h x hx es e) (by decide)
  simp [this]
theorem w_roomed (hp : ∀ x y z, d = .tuple [x, y, z] → Pr3 y z) : q_is_roomed d = .ok (.bool (roomB d)) := by
  unfold q_is_roomed
  cases d with
  | tuple ds =>
    rcases triple_cases ds with ⟨x, y, z, rfl⟩ | h
    · have pr := hp x y z rfl
      simp [isi_tup, w_between]
      cases x with
      | int i =>
        by_cases hi : 1 ≤ i ∧ i ≤ 3
        · obtain ⟨n, rfl⟩ := Int.eq_ofNat_of_zero_le (show 0 ≤ i by omega)
          simp [hi.1, hi.2]
          cases y with
          | tuple ls =>
            have e := w_rows (ls := ls) n fun x hx es he => ((pr.y1 ls rfl x hx).2 es he).1
            simp at e
            have e2 := w_are_ratios (d := z) (n := ls.length) fun es he => Nat.le_trans (pr.z1 es he).1 (by decide)
            by_cases h6 : ls.length ≤ 6
            · have h7 : ¬ (6 : Int) < ls.length := by omega
              have h8 : ls.length ≤ 1000000 := by omega
              simp [h7, h8, e, e2, pAll_f, roomB, h6, hi.1, hi.2]
              generalize ls.all (lineB n) = c
              cases c <;> rfl
            · have h7 : (6 : Int) < ls.length := by omega
              simp [h7, roomB, h6]
          | _ => simp [roomB]
        · have h5 : (decide (1 ≤ i) && decide (i ≤ 3)) = false := by
            rw [← Bool.decide_and]; exact decide_eq_false hi
          rw [if_pos h5]
          cases y <;> simp [roomB]
          omega
      | _ => simp [roomB]
    · have h' : ¬ ((ds.length : Int) = 3) := by omega
      simp [isi_tup, h', roomB_len h]
  | _ => simp [isi_tup, roomB]
end LW

set_option Elab.async false
set_option linter.all false
set_option maxRecDepth 100000
set_option maxHeartbeats 2000001
namespace LW
open PySem PySem.Spec FW
open L2 (atI)
variable {a b : Int} {p q : Rat} {d : D} {m n k l : Nat} {ds dk : List D} {L : Nat → Nat → Rat} {t x : Nat → Rat}
/-! ## rooms, places -/
theorem v_lower (hp : Sz m p) (hq : Sz n q) (h : m + n ≤ lim) : q_is_lower (rq p) (rq q) = .ok (.bool (decide (p < q))) := by
  have f1 := mul_fine hp.nm hq.dn h
  have f2 := mul_fine hq.nm hp.dn (by omega)
  unfold q_is_lower
  simp [rq_eq, f1, f2, Rat.lt_iff]
theorem v_under (hp : Sz m p) (hq : Sz n q) (h : m + n ≤ lim) : q__law_under (rq p) (rq q) = .ok (.bool (decide (p < q))) := by
  have f1 := mul_fine hp.nm hq.dn h
  have f2 := mul_fine hq.nm hp.dn (by omega)
  unfold q__law_under
  simp [rq_eq, f1, f2, Rat.lt_iff]
abbrev linesD (n m : Nat) (L : Nat → Nat → Rat) : D := .tuple ((List.range m).map fun k => rF n (L k))
abbrev hallD (n m : Nat) (L : Nat → Nat → Rat) (t : Nat → Rat) : D := .tuple [.int n, linesD n m L, rF m t]
def heldB (n m : Nat) (L : Nat → Nat → Rat) (t x : Nat → Rat) : Bool := !(List.range m).any fun k => decide (t k < sumR n fun j => L k j * x j)
theorem rF_eq {f : Nat → Rat} : rF n f = .tuple ((List.range n).map fun i => rq (f i)) := by simp [rowD_map, rowOf, Function.comp_def]
structure Hall (n m : Nat) (L : Nat → Nat → Rat) (t : Nat → Rat) : Prop where
  n1 : 1 ≤ n
  n3 : n ≤ 3
  m6 : m ≤ 6
  hL : ∀ k < m, ∀ j < n, Sz 3 (L k j)
  ht : ∀ k < m, Sz 26 (t k)
theorem pb_40 (hn : n ≤ 3) : pb (n + 1) 3 40 + 1 ≤ 200 := by
  have l1 : pb (n + 1) 3 40 ≤ pb 4 3 40 := pb_mono (by omega) (Nat.le_refl _) (Nat.le_refl _)
  have e1 : pb 4 3 40 = 177 := by decide
  omega
theorem sz_dot40 (h : Hall n m L t) (hx : ∀ j < n, Sz 40 (x j)) {i : Nat} (hi : i < m) : Sz 200 (sumR n fun j => L i j * x j) := (sz_sumR (k := 3 + 40) fun j hj => (h.hL i hi j hj).mul (hx j hj)).mono (by have := h.n3; omega)
theorem v_held (h : Hall n m L t) (hx : ∀ j < n, Sz 40 (x j)) : q_is_held (hallD n m L t) (rF n x) = .ok (.bool (heldB n m L t x)) := by
  have hl : lim = 13400 := rfl
  have e : mapM' (m := R) (fun it0 => (un2 it0 fun row_ limit_ => (Mo.nx (call p_is_lower (acons (pur limit_) (acons (call p_dot (acons (pur row_) (acons (pur (rF n x)) (pur [])))) (pur []))))))) ((List.range m).map fun k => PyData.tuple [rF n (L k), rq (t k)]) = .ok ((List.range m).map fun k => PyData.bool (decide (t k < sumR n fun j => L k j * x j))) := by
    refine mapM'_ok fun i hi => ?_
    have hi' := (List.mem_range.mp hi)
    have p1 := pb_40 h.n3
    have c1 := x_dot (n := n) (f := L i) (g := x) (h.hL i hi') hx (by have := h.n3; omega) (by omega)
    have c2 := v_lower (h.ht i hi') (sz_dot40 h hx hi') (by omega)
    simp [c1, c2]
  have z : zipD ((List.range m).map fun k => rF n (L k)) ((List.range m).map fun i => rq (t i)) = (List.range m).map fun k => PyData.tuple [rF n (L k), rq (t k)] := zipD_map
  have m6 := h.m6
  have m7 : m ≤ 1000000 := by omega
  unfold q_is_held
  simp at e
  simp [rF_eq (n := m) (f := t), z, m7, e, pAny_map, heldB]
  generalize (List.range m).any _ = c
  cases c <;> rfl
theorem v_inside (h : Hall n m L t) (hx : ∀ j < n, Sz 40 (x j)) : q__law_inside (hallD n m L t) (rF n x) = .ok (.bool (heldB n m L t x)) := by
  have hl : lim = 13400 := rfl
  have e : optM (m := R) (fun k_ => (whenE (Mo.nx (tst (call p__law_under (acons (bin pIx (atE (hallD n m L t) (pur (.int 2))) (pur k_)) (acons (call p__law_dot (acons (bin pIx (atE (hallD n m L t) (pur (.int 1))) (pur k_)) (acons (pur (rF n x)) (pur [])))) (pur [])))))) (Mo.nx (pur k_)))) (rngD 0 m) = .ok (((List.range m).filter fun k => decide (t k < sumR n fun j => L k j * x j)).map fun (i : Nat) => .int (i : Int)) := by
    refine rng_optM fun i hi => ?_
    have p1 := pb_40 h.n3
    have c1 := x_ldot (n := n) (f := L i) (g := x) (h.hL i hi) hx (by omega)
    have c2 := v_under (h.ht i hi) (sz_dot40 h hx hi) (by omega)
    simp [rF_eq (n := m) (f := t), hi]
    simp [c1, c2]
    by_cases hh : t i < sumR n fun j => L i j * x j <;> simp [hh]
  have m6 := h.m6
  have m7 : m ≤ 1000000 := by omega
  have m8 : (m : Int) ≤ 1000000 := by omega
  have m9 : (-1000000 : Int) ≤ m := by omega
  unfold q__law_inside
  simp at e
  simp [m7, m8, m9, e, eq_noneN, heldB, rngD_len]
theorem roomB_hall (h : Hall n m L t) : roomB (hallD n m L t) = true := by
  have e1 : (((List.range m).map fun k => rF n (L k))).all (lineB n) = true := List.all_eq_true.mpr fun z hz => by
    obtain ⟨i, _, rfl⟩ := List.mem_map.mp hz
    exact lineB_rowD rowOf_len
  have e2 : lineB m (rF m t) = true := lineB_rowD rowOf_len
  have h1 := h.n1
  have h2 := h.n3
  have h3 := h.m6
  simp [roomB, e2, h3]
  refine ⟨⟨by omega, by omega⟩, fun k hk => lineB_rowD rowOf_len⟩
theorem row_tm {f : Nat → Rat} (hn : n ≤ 6) : Tm 2 (rF n f) := tm_tup (k := 1) (fun x hx => by
  obtain ⟨q, _, rfl⟩ := List.mem_map.mp hx
  exact pair_tm) (by simp [rowOf]; omega)
theorem lines_tm (hn : n ≤ 6) (hm : m ≤ 6) : Tm 3 (linesD n m L) := tm_tup (fun x hx => by
  obtain ⟨i, _, rfl⟩ := List.mem_map.mp hx
  exact row_tm hn) (by simp; omega)
/-- a thing near a room -/
def Hd (d : D) : Prop := Od 7 d ∨ ∃ x y z, d = .tuple [x, y, z] ∧ Od 6 y ∧ Od 6 z
theorem Hd.pr {d : D} (h : Hd d) : ∀ x y z, d = .tuple [x, y, z] → Pr3 y z := by
  rintro x y z rfl
  rcases h with (h | ⟨kv, h⟩) | ⟨x', y', z', e, hy, hz⟩
  · have := h.tup.2
    exact ⟨Od.pr1 (.inl (this y (by simp))), Od.pr2 (.inl (this z (by simp)))⟩
  · cases h
  · cases e
    exact ⟨hy.pr1, hz.pr2⟩
theorem hd_hall (h : Hall n m L t) : Hd (hallD n m L t) := by
  have h2 := h.n3
  have h3 := h.m6
  exact .inr ⟨_, _, _, rfl, .inl ((lines_tm (by omega) h3).mono (by decide)), .inl ((row_tm h3).mono (by decide))⟩
theorem v_is_in (h : Hall n m L t) (hx : ∀ j < n, Sz 40 (x j)) : q_is_in (hallD n m L t) (rF n x) = .ok (.bool (heldB n m L t x)) := by
  have c1 := w_roomed (hd_hall h).pr
  rw [roomB_hall h] at c1
  have c2 : q_check_room (hallD n m L t) = .ok .none := by
    unfold q_check_room
    simp [c1]
  have c3 : q_check_row_of (.int n) (rF n x) = .ok .none := x_check_row_of (v := rowOf n x) (n := n) rowOf_len (by have := h.n3; omega)
  unfold q_is_in
  simp [c2, c3, v_held h hx]
end LW

set_option Elab.async false
set_option linter.all false
set_option maxRecDepth 100000
set_option maxHeartbeats 2000001
namespace LW
open PySem PySem.Spec FW
open L2 (atI)
variable {a b : Int} {p q : Rat} {d : D} {m n k l : Nat} {ds dk : List D} {L : Nat → Nat → Rat} {t x : Nat → Rat}
theorem w_lis_hall (hp : ∀ x y z, d = .tuple [x, y, z] → Pr3 y z) : q__law_is_hall d = .ok (.bool (roomB d)) := by
  unfold q__law_is_hall
  cases d with
  | tuple ds =>
    rcases triple_cases ds with ⟨x, y, z, rfl⟩ | h
    · have pr := hp x y z rfl
      simp [isi_tup, w_lwhole]
      cases x with
      | int i =>
        simp [isW]
        by_cases hi : 1 ≤ i ∧ i ≤ 3
        · obtain ⟨n, rfl⟩ := Int.eq_ofNat_of_zero_le (show 0 ≤ i by omega)
          simp [hi.1, hi.2]
          cases y with
          | tuple ls =>
            have e : optM (m := R) (fun line_ => (whenE (Mo.nx (tnot (tst (call p__law_is_line (acons (pur line_) (acons (pur (.int n)) (pur []))))))) (Mo.nx (pur line_)))) ls = .ok ((ls.filter fun x => !lineB n x).map id) := optM_lst fun x hx => by
              have := w_lis_line (d := x) (n := n) fun es he => (pr.y1 ls rfl x hx).2 es he
              simp [this]
              cases lineB n x <;> simp
            rw [List.map_id] at e
            simp at e
            have e2 := w_lis_line (d := z) (n := ls.length) pr.z1
            by_cases h6 : ls.length ≤ 6
            · have h7 : ¬ (6 : Int) < ls.length := by omega
              have h8 : ls.length ≤ 1000000 := by omega
              have ho : ∀ x ∈ ls, Okd 50 x := fun x hx => (pr.y1 ls rfl x hx).1
              by_cases hz : lineB ls.length z = true
              · simp [h7, h8, e, e2, hz, roomB, h6, hi.1, hi.2, eq_none ho, not_any]
              · have hz' : lineB ls.length z = false := by simpa using hz
                simp [h7, e2, hz', roomB]
            · have h7 : (6 : Int) < ls.length := by omega
              simp [h7, roomB, h6]
          | _ => simp [roomB]
        · have h5 : (decide (1 ≤ i) && decide (i ≤ 3)) = false := by
            rw [← Bool.decide_and]; exact decide_eq_false hi
          by_cases h1 : 1 ≤ i
          · have h3 : ¬ i ≤ 3 := fun h => hi ⟨h1, h⟩
            simp [h1, h3]
            cases y <;> simp [roomB, h5, h3]
          · simp [h1]
            cases y <;> simp [roomB, h1]
      | _ => simp [roomB, isW]
    · have h' : ¬ ((ds.length : Int) = 3) := by omega
      simp [isi_tup, h', roomB_len h]
  | _ => simp [isi_tup, roomB]
/-! ## drawn places -/
theorem g_spot (hk : Dk dk) (hn : n ≤ 100) : Ok (q__law_spot (.int n) dk) fun r => ∃ v : List Rat, r.1 = rowD v ∧ v.length = n ∧ SzL 3 v ∧ Dk r.2 := by
  have n1 : (n : Int) ≤ 1000000 := by omega
  have n2 : (-1000000 : Int) ≤ n := by omega
  have n3 : n ≤ 1000000 := by omega
  unfold q__law_spot
  rw [Ok_bindS]
  refine Ok.mono (P := fun r => ∃ g dk', r = ((.int g, []), dk') ∧ (1 ≤ g ∧ g ≤ 2) ∧ Dk dk') ?_ ?_
  · simp
    refine (g_roll hk (wd := 4) (by decide) (by decide)).mono ?_
    rintro ⟨v, dk2⟩ ⟨g, rfl, hg, hd2⟩
    have b3 : big 3 < 9000 := by decide
    simp [b3]
    have h0 : 0 ≤ g.fdiv 3 ∧ g.fdiv 3 ≤ 1 := by
      have : g = 0 ∨ g = 1 ∨ g = 2 ∨ g = 3 := by omega
      rcases this with rfl | rfl | rfl | rfl <;> decide
    exact ⟨_, _, ⟨rfl, rfl⟩, by omega, hd2⟩
  rintro _ ⟨g, dk1, rfl, hg, hd1⟩
  simp only []
  rw [Ok_bindS]
  refine Ok.mono (P := fun r => ∃ (v : List Rat) (dk' : List D), r = (v.map rq, dk') ∧ v.length = n ∧ SzL 3 v ∧ Dk dk') ?_ ?_
  · rw [Ok_bindS]
    have er : (rng1 (acons (pur (.int n)) (pur [])) : S (List D)) dk1 = .ok (rngD 0 n, dk1) := by simp [n1, n2]
    rw [er, Ok_ok]
    refine (foldS_rng (fun i t => ∃ v : List Rat, t = v.map rq ∧ v.length = i ∧ SzL 3 v) ⟨[], rfl, rfl, fun _ h => nomatch h⟩ hd1 ?_).mono ?_
    · rintro i t dk hi ⟨v, rfl, rfl, hv⟩ hd
      have hl : v.length < 1000000 := by omega
      simp
      refine (g_roll hd (wd := 5) (by decide) (by decide)).mono ?_
      rintro ⟨w, dk3⟩ ⟨u, rfl, hu, hd3⟩
      have hm : (u - 2).natAbs < 2 ^ 3 := by show _ < 8; omega
      have hgn : g.natAbs < 2 ^ 3 := by show _ < 8; omega
      have c := v_lfrac (a := u - 2) (b := g) (n := 3) (by omega) hm hgn (by decide)
      simp [c, hl, hd3]
      refine ⟨v ++ [Rat.divInt (u - 2) g], by simp, by simp, fun x hx => ?_⟩
      rcases List.mem_append.mp hx with h | h
      · exact hv x h
      · rw [List.mem_singleton.mp h]
        exact sz_divInt (by omega) hm hgn
    · rintro ⟨t, dk'⟩ ⟨⟨v, rfl, hl, hv⟩, hd'⟩
      exact ⟨v, dk', rfl, hl, hv, hd'⟩
  rintro _ ⟨v, dk2, rfl, hl, hv, hd2⟩
  simp
  exact ⟨v, rfl, hl, hv, hd2⟩
/-- a place moved in its first part -/
theorem v_moved {v : List Rat} {c : Rat} {y : D} (hv : SzL 3 v) (h1 : 1 ≤ v.length) (hn : v.length ≤ 3) (hc : Sz 31 c) : ∃ w : List Rat, q__law_moved y (rowD v) (rq c) = .ok (rowD w) ∧ w.length = v.length ∧ SzL 40 w := by
  cases v with
  | nil => simp at h1
  | cons q v =>
    have hq := hv q (by simp)
    have c1 := v_lplus hq hc (by decide)
    have d1 : cutD (rq q :: v.map rq) (some 1) none = v.map rq := cut_drop (xs := rq q :: v.map rq) (n := 1) (by simp)
    have l1 : v.length ≤ 1000000 := by simp at hn; omega
    have l2 : 1 + v.length ≤ 1000000 := by simp at hn; omega
    refine ⟨(q + c) :: v, ?_, by simp, ?_⟩
    · unfold q__law_moved
      simp [rowD, c1, pCut, d1, l1, l2]
    · intro z hz
      rcases (List.mem_cons.mp hz) with rfl | hz
      · exact (hq.add hc).mono (by decide)
      · exact (hv z (List.mem_cons_of_mem _ hz)).mono (by decide)
end LW

set_option Elab.async false
set_option linter.all false
set_option maxRecDepth 100000
set_option maxHeartbeats 2000001
namespace LW
open PySem PySem.Spec FW
open L2 (atI)
variable {a b : Int} {p q : Rat} {d : D} {m n k l : Nat} {ds dk : List D} {L : Nat → Nat → Rat} {t x : Nat → Rat}
theorem at_last {ls : List (List Rat)} {r : List Rat} (h : ls.getLast? = some r) : atI (ls.map rowD) (-1) = some (rowD r) := by
  obtain ⟨xs, rfl⟩ := List.getLast?_eq_some_iff.mp h
  have e : L2.ixN (xs.length + 1) (-1) = some xs.length := by
    unfold L2.ixN
    rw [if_neg (by decide), if_pos (by omega)]
    congr 1
    omega
  unfold atI
  simp [e]
structure Rws (n i : Nat) (ls : List (List Rat)) (ts : List Rat) : Prop where
  li : ls.length = i
  ti : ts.length = i
  row : ∀ r ∈ ls, r.length = n ∧ SzL 3 r
  top : SzL 26 ts
theorem Rws.hall {ls : List (List Rat)} {ts : List Rat} (h : Rws n m ls ts) (h1 : 1 ≤ n) (h3 : n ≤ 3) (hm : m ≤ 6) : Hall n m (fun k j => (ls.getD k []).getD j 0) (fun k => ts.getD k 0) := by
  refine ⟨h1, h3, hm, fun k hk j hj => ?_, fun k hk => szL_get h.top (by have := h.ti; omega)⟩
  have hk' : k < ls.length := by have := h.li; omega
  have e : ls.getD k [] = ls[k] := by simp [hk']
  have := h.row _ (List.getElem_mem hk')
  show Sz 3 ((ls.getD k []).getD j 0)
  rw [e]
  exact szL_get this.2 (by omega)
theorem Rws.eq1 {ls : List (List Rat)} {ts : List Rat} (h : Rws n m ls ts) : ls.map rowD = (List.range m).map fun k => rF n (fun j => (ls.getD k []).getD j 0) := by
  apply List.ext_getElem
  · simp [h.li]
  · intro i hi _
    have hi' : i < ls.length := by simpa using hi
    have hr := h.row _ (List.getElem_mem hi')
    have e : ls.getD i [] = ls[i] := by simp [hi']
    simp only [List.getElem_map, List.getElem_range]
    show rowD ls[i] = rowD (rowOf n fun j => (ls.getD i []).getD j 0)
    rw [e, ← row_is hr.1]
theorem Rws.eq2 {ls : List (List Rat)} {ts : List Rat} (h : Rws n m ls ts) : PyData.tuple (ts.map rq) = rF m (fun k => ts.getD k 0) := by
  show rowD ts = rowD (rowOf m _)
  rw [← row_is h.ti]
theorem neg_row {v : List Rat} : mapM' (m := S) (fun x_ => Mo.nx (tupE (acons (negV (atE x_ (pur (.int 0)))) (acons (atE x_ (pur (.int 1))) (pur []))))) (v.map rq) dk = .ok (v.map fun x => rq (-x), dk) := by
  refine mapS_ok fun x _ => ?_
  have neg : PyData.tuple [.int (-x.num), .int x.den] = rq (-x) := rfl
  simp [rq_eq x, neg]
theorem frac_row {xs : List Int} {g : Int} (hg : 1 ≤ g ∧ g ≤ 2) (hx : ∀ x ∈ xs, -2 ≤ x ∧ x < 3) : mapM' (m := S) (fun x_ => (Mo.nx (call p__law_frac (acons (pur x_) (acons (pur (.int g)) (pur [])))))) (xs.map .int) dk = .ok (xs.map fun x => rq (Rat.divInt x g), dk) := by
  refine mapS_ok fun x h => ?_
  have hx' := hx x h
  have c := v_lfrac (a := x) (b := g) (n := 3) (by omega) (by show _ < 8; omega) (by show _ < 8; omega) (by decide)
  simp [c]
theorem pInt_b {c : Bool} : pInt [.bool c] = some (.d (.int (if c then 1 else 0))) := rfl
theorem sides {i : Nat} (hn : 1 ≤ n) (h3 : n ≤ 3) (hi : i < 100) : mapM' (m := S) (fun at_ => (Mo.nx (bin pMul (bin pSub (pur (.int 1)) (bin pMul (bin pMod (pur (.int (i : Int))) (pur (.int 2))) (pur (.int 2)))) (prim pInt (acons (bin pEq (pur at_) (bin pMod (bin pDiv (pur (.int (i : Int))) (pur (.int 2))) (pur (.int (n : Int))))) (pur [])))))) (rngD 0 n) dk = .ok ((List.range n).map fun (j : Nat) => .int ((1 - (i : Int).fmod 2 * 2) * (if ((j : Nat) : Int) = ((i : Int).fdiv 2).fmod n then 1 else 0)), dk) := by
  refine rng_mapS fun j hj => ?_
  have b2 : big 2 < 9000 := by decide
  have bn : big (n : Int) < 9000 := Nat.lt_trans (big31 (b := (n : Int)) (by omega) (by omega)) (by decide)
  have f := fmod_rng (a := (i : Int)) (b := 2) (by decide)
  have bf : big ((i : Int).fmod 2) < 31 := big31 f.1 (by omega)
  have b3' : big 2 < 31 := by decide
  have b3 : big ((i : Int).fmod 2) + big 2 < 100000000 := by omega
  have n0 : n ≠ 0 := by omega
  have bb : big (1 - (i : Int).fmod 2 * 2) < 31 := by
    have : (i : Int).fmod 2 = 0 ∨ (i : Int).fmod 2 = 1 := by omega
    rcases this with h | h <;> rw [h] <;> decide
  by_cases hh : (j : Int) = ((i : Int).fdiv 2).fmod n
  · have b4' : big 1 < 31 := by decide
    have b4 : big (1 - (i : Int).fmod 2 * 2) + big 1 < 100000000 := by omega
    simp [b2, bn, b3, n0, hh, b4, pInt_b]
  · have b4' : big 0 < 31 := by decide
    have b4 : big (1 - (i : Int).fmod 2 * 2) + big 0 < 100000000 := by omega
    simp [b2, bn, b3, n0, hh, b4, pInt_b]
theorem two_cases {i : Int} : i.fmod 2 = 0 ∨ i.fmod 2 = 1 := by
  have f := fmod_rng (a := i) (b := 2) (by decide)
  omega
theorem g_hall {most : Nat} {v : List Rat} (hk : Dk dk) (h1 : 1 ≤ n) (hn : n ≤ 3) (hm : most ≤ 6) (hv : v.length = n) (hs : SzL 3 v) : Ok (q__law_hall (.int n) (.int most) (rowD v) dk) fun r => ∃ (m : Nat) (L : Nat → Nat → Rat) (t : Nat → Rat), r.1 = hallD n m L t ∧ Hall n m L t ∧ Dk r.2 := by
  have n1 : (n : Int) ≤ 1000000 := by omega
  have n2 : (-1000000 : Int) ≤ n := by omega
  have n3 : n ≤ 1000000 := by omega
  have b2 : big 2 < 9000 := by decide
  have hl : lim = 13400 := rfl
  unfold q__law_hall
  rw [Ok_bindS]
  refine Ok.mono (P := fun r => ∃ w g dk', r = ((.int w, .int g, [], []), dk') ∧ (1 ≤ g ∧ g ≤ 2) ∧ Dk dk') ?_ ?_
  · simp
    refine (g_roll hk (wd := 4) (by decide) (by decide)).mono ?_
    rintro ⟨w, dk2⟩ ⟨w, rfl, hw, hd2⟩
    refine (pick_int hd2 (xs := [1, 1, 2]) (by simp) (by simp)).mono ?_
    rintro ⟨g, dk3⟩ ⟨g, hg, rfl, hd3⟩
    have hg' : 1 ≤ g ∧ g ≤ 2 := by simp at hg; omega
    simp
    exact ⟨w, g, dk3, ⟨⟨rfl, rfl⟩, rfl⟩, hg', hd3⟩
  rintro _ ⟨w, g, dk1, rfl, hg, hd1⟩
  simp only []
  rw [Ok_bindS]
  refine Ok.mono (P := fun r => ∃ (m : Nat) (ls : List (List Rat)) (ts : List Rat) (dk' : List D), r = ((ls.map rowD, ts.map rq), dk') ∧ m ≤ 6 ∧ Rws n m ls ts ∧ Dk dk') ?_ ?_
  · rw [Ok_bindS]
    refine Ok.mono (P := fun r => ∃ (m : Nat) (dk' : List D), r = (rngD 0 m, dk') ∧ m ≤ 6 ∧ Dk dk') ?_ ?_
    · simp
      refine (g_roll hd1 (wd := (most : Int) + 1) (by omega) (by omega)).mono ?_
      rintro ⟨u, dk2⟩ ⟨u, rfl, hu, hd2⟩
      obtain ⟨m, rfl⟩ := Int.eq_ofNat_of_zero_le hu.1
      have m1 : (m : Int) ≤ 1000000 := by omega
      have m2 : (-1000000 : Int) ≤ m := by omega
      simp [m1, m2]
      exact ⟨m, dk2, ⟨rfl, rfl⟩, by omega, hd2⟩
    rintro _ ⟨m, dk2, rfl, hm6, hd2⟩
    simp only []
    refine (foldS_rng (fun i st => ∃ (ls : List (List Rat)) (ts : List Rat), st = (ls.map rowD, ts.map rq) ∧ Rws n i ls ts) ⟨[], [], rfl, ⟨rfl, rfl, fun _ h => (nomatch h), fun _ h => (nomatch h)⟩⟩ hd2 ?_).mono ?_
    · rintro i st dk hi ⟨ls, ts, rfl, hr⟩ hd
      have hll : ls.length < 1000000 := by have := hr.li; omega
      have htl : ts.length < 1000000 := by have := hr.ti; omega
      simp only []
      rw [Ok_bindS]
      refine Ok.mono (P := fun r => ∃ (xs : List Int) (dk' : List D), r = (.list (xs.map .int), dk') ∧ (xs.length = n ∧ ∀ x ∈ xs, -2 ≤ x ∧ x < 3) ∧ Dk dk') ?_ ?_
      · simp
        refine (g_wholes hd (n := n) (lo := -2) (wd := 5) (by omega) (by decide) (by decide)).mono ?_
        rintro ⟨z, dk3⟩ ⟨xs, rfl, hxl, hx, hd3⟩
        exact ⟨xs, dk3, rfl, ⟨hxl, fun x h => by have := hx x h; omega⟩, hd3⟩
      rintro _ ⟨xs, dk3, rfl, ⟨hxl, hx⟩, hd3⟩
      simp only []
      rw [Ok_bindS]
      refine Ok.mono (P := fun r => ∃ (xs : List Int), r = (.list (xs.map .int), dk3) ∧ (xs.length = n ∧ ∀ x ∈ xs, -2 ≤ x ∧ x < 3)) ?_ ?_
      · by_cases hw : w = 1
        · subst hw
          have e := sides (dk := dk3) h1 hn (i := i) (by omega)
          simp at e
          simp [n1, n2, n3, rngD_len, e]
          refine ⟨(List.range n).map fun (j : Nat) => (1 - (i : Int).fmod 2 * 2) * (if ((j : Nat) : Int) = ((i : Int).fdiv 2).fmod n then 1 else 0), by simp, by simp, ?_⟩
          intro x hx
          obtain ⟨j, _, rfl⟩ := List.mem_map.mp hx
          rcases two_cases (i := (i : Int)) with h | h <;> rw [h] <;> split <;> decide
        · simp [hw]
          exact ⟨xs, rfl, hxl, hx⟩
      rintro _ ⟨xs, rfl, hxl, hx⟩
      simp only []
      rw [Ok_bindS]
      refine Ok.mono (P := fun r => ∃ (u : List Rat), r = (rowD u, dk3) ∧ (u.length = n ∧ SzL 3 u)) ?_ ?_
      · have e := frac_row (dk := dk3) hg hx
        simp at e
        have : xs.length ≤ 1000000 := by omega
        simp [this, e]
        refine ⟨xs.map fun x => Rat.divInt x g, by simp [rowD, Function.comp_def], by simpa using hxl, fun z hz => ?_⟩
        obtain ⟨x, h, rfl⟩ := List.mem_map.mp hz
        have := hx x h
        exact sz_divInt (by omega) (by show _ < 8; omega) (by show _ < 8; omega)
      rintro _ ⟨u, rfl, hul, hu⟩
      simp only []
      rw [Ok_bindS]
      refine Ok.mono (P := fun r => ∃ (u : List Rat), r = (rowD u, dk3) ∧ (u.length = n ∧ SzL 3 u)) ?_ ?_
      · by_cases hw : w = 2 ∧ (i : Int).fmod 2 = 1
        · have i0 : 0 < i := by
            rcases Nat.eq_zero_or_pos i with h | h
            · subst h; exact absurd hw.2 (by decide)
            · exact h
          have hne : ls ≠ [] := by intro h; have := hr.li; rw [h] at this; simp at this; omega
          obtain ⟨r, hr1⟩ : ∃ r, ls.getLast? = some r := ⟨_, List.getLast?_eq_some_getLast hne⟩
          have hrow := hr.row r (List.mem_of_getLast? hr1)
          have ea := at_last hr1
          have e := neg_row (dk := dk3) (v := r)
          simp at e
          have : r.length ≤ 1000000 := by omega
          simp [b2, hw.1, hw.2, ea, rowD, this, e]
          refine ⟨r.map fun x => -x, by simp [Function.comp_def], by simpa using hrow.1, fun z hz => ?_⟩
          obtain ⟨x, h, rfl⟩ := List.mem_map.mp hz
          have := hrow.2 x h
          exact ⟨by show (-x.num).natAbs < _; rw [Int.natAbs_neg]; exact this.1, this.2⟩
        · by_cases hw2 : w = 2
          · have hw1 : ¬ (i : Int).fmod 2 = 1 := fun h => hw ⟨hw2, h⟩
            simp [b2, hw2, hw1]
            exact ⟨u, rfl, hul, hu⟩
          · simp [hw2]
            exact ⟨u, rfl, hul, hu⟩
      rintro _ ⟨u, rfl, hul, hu⟩
      simp only []
      have c1 := v_ldot (u := u) (v := v) (n := n) hu hs (by omega) (by
        have l1 : pb (n + 1) 3 3 ≤ pb 4 3 3 := pb_mono (by omega) (Nat.le_refl _) (Nat.le_refl _)
        have e1 : pb 4 3 3 = 29 := by decide
        omega)
      have s1 : Sz 22 (dotL u v) := (sz_dot hu hs (n := 3) (by omega)).mono (by decide)
      simp [hll]
      rw [c1]
      simp
      refine (g_pick hd3 (by simp) (by simp)).mono ?_
      rintro ⟨z, dk4⟩ ⟨hz, hd4⟩
      obtain ⟨c, rfl, hc⟩ : ∃ c : Rat, z = rq c ∧ Sz 3 c := by
        simp at hz
        rcases hz with rfl | rfl | rfl | rfl | rfl
        · exact ⟨⟨0, 1, by decide, by decide⟩, rfl, by decide, by decide⟩
        · exact ⟨⟨1, 1, by decide, by decide⟩, rfl, by decide, by decide⟩
        · exact ⟨⟨2, 1, by decide, by decide⟩, rfl, by decide, by decide⟩
        · exact ⟨⟨1, 2, by decide, by decide⟩, rfl, by decide, by decide⟩
        · exact ⟨⟨5, 1, by decide, by decide⟩, rfl, by decide, by decide⟩
      have c2 := v_lplus s1 hc (by decide)
      simp [c2, htl]
      refine ⟨⟨ls ++ [u], ts ++ [dotL u v + c], ⟨by simp, by simp⟩, by simp [hr.li], by simp [hr.ti], fun r h => ?_, fun x h => ?_⟩, hd4⟩
      · rcases (List.mem_append.mp h) with h | h
        · exact hr.row r h
        · rw [List.mem_singleton.mp h]; exact ⟨hul, hu⟩
      · rcases (List.mem_append.mp h) with h | h
        · exact hr.top x h
        · rw [List.mem_singleton.mp h]; exact (s1.add hc).mono (by decide)
    · rintro ⟨st, dk'⟩ ⟨⟨ls, ts, rfl, hr⟩, hd'⟩
      exact ⟨m, ls, ts, dk', rfl, hm6, hr, hd'⟩
  rintro _ ⟨m, ls, ts, dk2, rfl, hm6, hr, hd2⟩
  simp
  exact ⟨m, _, _, ⟨hr.eq1, hr.eq2⟩, hr.hall h1 hn hm6, hd2⟩
end LW

set_option Elab.async false
set_option linter.all false
set_option maxRecDepth 100000
set_option maxHeartbeats 2000001
namespace LW
open PySem PySem.Spec FW
open L2 (atI)
variable {a b : Int} {p q : Rat} {d : D} {m n k l : Nat} {ds dk ls ts : List D} {L : Nat → Nat → Rat} {t x : Nat → Rat}
theorem cut_1 {xs : List D} : cutD xs (some 1) none = xs.drop 1 := by
  by_cases h : 1 ≤ xs.length
  · exact cut_drop (n := 1) h
  · have : xs = [] := List.length_eq_zero_iff.mp (by omega)
    subst this
    rfl
theorem Hd.of {x y z : D} {i j : Nat} (hy : Tm i y) (hz : Tm j z) (hi : i ≤ 6) (hj : j ≤ 6) : Hd (.tuple [x, y, z]) := .inr ⟨x, y, z, rfl, .inl (hy.mono hi), .inl (hz.mono hj)⟩
theorem g_bent_hall (hk : Dk dk) (hL : ∀ x ∈ ls, ∃ rs, x = .tuple rs ∧ rs.length = n ∧ ∀ y ∈ rs, Tm 1 y) (hT : ∀ x ∈ ts, Tm 1 x) (hl : ls.length = m) (ht : ts.length = m) (hm : m ≤ 6) (h1 : 1 ≤ n) (hn : n ≤ 3) : Ok (q__law_bent_hall (.tuple [.int n, .tuple ls, .tuple ts]) dk) fun r => Hd r.1 ∧ Dk r.2 := by
  have lrow : ∀ x ∈ ls, Tm 2 x := fun x hx => by obtain ⟨rs, rfl, hrl, hr⟩ := hL x hx; exact tm_tup hr (by omega)
  have Ltm : Tm 3 (.tuple ls) := tm_tup lrow (by omega)
  have Ttm : Tm 2 (.tuple ts) := tm_tup hT (by omega)
  have n1 : (1 : Int) ≤ n := by omega
  have n2 : (n : Int) ≤ 1000 := by omega
  have onetm : ∀ {c d : Int} {k : Nat}, k ≤ 10 → Tm 2 (.tuple (List.replicate k [PyData.tuple [.int c, .int d]]).flatten) := fun {c d k} hk => tm_tup (k := 1) (fun x hx => by
    rw [rep_list] at hx
    obtain ⟨_, _, rfl⟩ := List.mem_map.mp hx
    exact pair_tm) (by rw [rep_list]; simp; omega)
  have onetm' : ∀ {c d : Int} {k : Nat}, k ≤ 10 → Tm 2 (.tuple (List.replicate k (PyData.tuple [.int c, .int d]))) := fun {c d k} hk => tm_tup (k := 1) (fun x hx => by
    rw [List.eq_of_mem_replicate hx]
    exact pair_tm) (by simp; omega)
  unfold q__law_bent_hall
  rw [Ok_bindS]
  refine Ok.mono (P := fun r => r = ((.int n, .tuple ls, .tuple ts), dk)) (by simp) ?_
  rintro _ rfl
  simp only []
  rw [Ok_bindS]
  refine Ok.mono (P := fun r => ∃ t dk', r = ((.int t, .tuple (List.replicate n [PyData.tuple [.int 1, .int 1]]).flatten), dk') ∧ Dk dk') ?_ ?_
  · simp [n1, n2]
    refine (g_roll hk (wd := 9) (by decide) (by decide)).mono ?_
    rintro ⟨v, dk2⟩ ⟨t, rfl, ht, hd2⟩
    exact ⟨t, dk2, ⟨rfl, rfl⟩, hd2⟩
  rintro _ ⟨w, dk1, rfl, hd1⟩
  simp only []
  have la : ls.length + 1 ≤ 1000000 := by omega
  have lb : ts.length + 1 ≤ 1000000 := by omega
  by_cases w0 : w = 0
  · subst w0
    simp
    refine (g_pick hd1 (by simp) (by simp)).mono ?_
    rintro ⟨x, dk2⟩ ⟨hx, hd2⟩
    exact ⟨Hd.of Ltm Ttm (by decide) (by decide), hd2⟩
  have hlen : ls.length = ts.length := by omega
  by_cases w1 : w = 1 ∧ 0 < m
  · obtain ⟨rfl, hp⟩ := w1
    simp [hl, hp]
    refine (g_roll hd1 (wd := m) (by omega) (by omega)).mono ?_
    rintro ⟨v, dk2⟩ ⟨i, rfl, hi, hd2⟩
    obtain ⟨i, rfl⟩ := Int.eq_ofNat_of_zero_le hi.1
    have hi' : i < ls.length := by omega
    obtain ⟨rs, et, hrl, hr⟩ := hL ls[i] (List.getElem_mem hi')
    have ei : ls[i]? = some (.tuple rs) := by rw [List.getElem?_eq_getElem hi', et]
    simp [ei]
    refine (g_roll hd2 (wd := n) (by omega) (by omega)).mono ?_
    rintro ⟨v, dk3⟩ ⟨j, rfl, hj, hd3⟩
    obtain ⟨j, rfl⟩ := Int.eq_ofNat_of_zero_le hj.1
    simp
    refine (g_no_frac hd3).mono ?_
    rintro ⟨x, dk4⟩ ⟨hx, hd4⟩
    have c1 := v_put (ds := rs) (i := j) (x := x) (by omega) (by omega)
    have c2 := v_put (ds := ls) (i := i) (x := .tuple (putL rs j x)) (by omega) (by omega)
    simp [c1, c2]
    have b1 : Tm 4 (.tuple (putL rs j x)) := tm_tup (put_all (fun y hy => (hr y hy).mono (by decide)) hx) (by rw [put_len (by omega)]; omega)
    exact ⟨Hd.of (tm_tup (put_all (fun y hy => (lrow y hy).mono (by decide)) b1) (by rw [put_len hi']; omega)) Ttm (by decide) (by decide), hd4⟩
  by_cases w2 : w = 2 ∧ 0 < m
  · obtain ⟨rfl, hp⟩ := w2
    simp [hl, hp, ht]
    refine (g_roll hd1 (wd := m) (by omega) (by omega)).mono ?_
    rintro ⟨v, dk2⟩ ⟨i, rfl, hi, hd2⟩
    obtain ⟨i, rfl⟩ := Int.eq_ofNat_of_zero_le hi.1
    simp
    refine (g_no_frac hd2).mono ?_
    rintro ⟨x, dk4⟩ ⟨hx, hd4⟩
    have c2 := v_put (ds := ts) (i := i) (x := x) (by omega) (by omega)
    simp [c2]
    exact ⟨Hd.of Ltm (tm_tup (put_all (fun y hy => (hT y hy).mono (by decide)) hx) (by rw [put_len (by omega)]; omega)) (by decide) (by decide), hd4⟩
  have e1 : ¬ (w = 1 ∧ 0 < m) := w1
  have e2 : ¬ (w = 2 ∧ 0 < m) := w2
  by_cases w3 : w = 3
  · subst w3
    simp [pCut, cut_1, la, ow]
    refine (g_pick hd1 (by simp) (by simp)).mono ?_
    rintro ⟨x, dk2⟩ ⟨hx, hd2⟩
    refine ⟨Hd.of (i := 6) ?_ Ttm (by decide) (by decide), hd2⟩
    simp at hx
    rcases hx with rfl | rfl | rfl | rfl | rfl | rfl
    · refine (tm_tup (k := 2) (fun y hy => ?_) (by simp; omega)).mono (by decide)
      rcases List.mem_append.mp hy with h | h
      · exact lrow y h
      · rw [List.mem_singleton.mp h]; exact onetm' (by omega)
    · exact (tm_tup (k := 2) (fun y hy => lrow y (List.mem_of_mem_tail hy)) (by simp; omega)).mono (by decide)
    · exact (tm_lst (k := 2) lrow (by omega)).mono (by decide)
    · exact tm_none
    · refine (tm_tup (k := 2) (fun y hy => ?_) (by simp; omega)).mono (by decide)
      rcases List.mem_append.mp hy with h | h
      · exact lrow y h
      · rw [List.mem_singleton.mp h]; exact tm_nil
    · exact (tm_tup (k := 3) (fun y hy => by simp at hy; subst hy; exact Ltm) (by simp)).mono (by decide)
  by_cases w4 : w = 4
  · subst w4
    simp [pCut, cut_1, lb, ow]
    refine (g_pick hd1 (by simp) (by simp)).mono ?_
    rintro ⟨x, dk2⟩ ⟨hx, hd2⟩
    refine ⟨Hd.of (j := 6) Ltm ?_ (by decide) (by decide), hd2⟩
    simp at hx
    rcases hx with rfl | rfl | rfl | rfl | rfl
    · refine (tm_tup (k := 1) (fun y hy => ?_) (by simp; omega)).mono (by decide)
      rcases List.mem_append.mp hy with h | h
      · exact hT y h
      · rw [List.mem_singleton.mp h]; exact pair_tm
    · exact (tm_tup (k := 1) (fun y hy => hT y (List.mem_of_mem_tail hy)) (by simp; omega)).mono (by decide)
    · exact (tm_lst (k := 1) hT (by omega)).mono (by decide)
    · exact tm_none
    · exact (tm_tup (k := 2) (fun y hy => by simp at hy; subst hy; exact Ttm) (by simp)).mono (by decide)
  by_cases w5 : w = 5
  · subst w5
    simp
    refine (g_pick hd1 (by simp) (by simp)).mono ?_
    rintro ⟨x, dk2⟩ ⟨hx, hd2⟩
    refine ⟨?_, hd2⟩
    simp at hx
    have al : ∀ {z : D} {c : Nat} {zs : List D}, zs.length ≤ 10 → (∀ y ∈ zs, y = z) → Tm c z → Tm (c + 1) (.tuple zs) := fun hl he hz => tm_tup (fun y hy => by rw [he y hy]; exact hz) (by omega)
    have o1 := onetm' (c := 1) (d := 1) (k := n) (by omega)
    rcases hx with rfl | rfl
    · exact Hd.of (al (by simp) (fun y hy => by simpa using hy) o1) (al (by simp) (fun y hy => by simpa using hy) pair_tm) (by decide) (by decide)
    · exact Hd.of (al (by simp) (fun y hy => by simpa using hy) o1) (al (by simp) (fun y hy => by simpa using hy) pair_tm) (by decide) (by decide)
  by_cases w6 : w = 6
  · subst w6
    have d2 : cutD [PyData.int n, PyData.tuple ls, PyData.tuple ts] none (some 2) = [PyData.int n, PyData.tuple ls] := cut_take (n := 2) (by simp)
    simp [pCut, d2, ow]
    refine (g_pick hd1 (by simp) (by simp)).mono ?_
    rintro ⟨x, dk2⟩ ⟨hx, hd2⟩
    refine ⟨.inl (.inl ?_), hd2⟩
    have tri : ∀ x y z : D, Tm 4 x → Tm 4 y → Tm 4 z → Tm 7 (.tuple [x, y, z]) := fun x y z h1 h2 h3 => (tm_tup (k := 4) (fun u hu => by
      simp at hu
      rcases hu with rfl | rfl | rfl <;> assumption) (by simp)).mono (by decide)
    have L4 : Tm 4 (.tuple ls) := Ltm.mono (by decide)
    have T4 : Tm 4 (.tuple ts) := Ttm.mono (by decide)
    simp at hx
    rcases hx with rfl | rfl | rfl | rfl | rfl | rfl
    · exact (tm_lst (k := 4) (fun u hu => by
        simp at hu
        rcases hu with rfl | rfl | rfl
        · exact tm_int
        · exact L4
        · exact T4) (by simp)).mono (by decide)
    · exact (tm_tup (k := 4) (fun u hu => by
        simp at hu
        rcases hu with rfl | rfl | rfl | rfl
        · exact tm_int
        · exact L4
        · exact T4
        · exact tm_int) (by simp)).mono (by decide)
    · exact (tm_tup (k := 4) (fun u hu => by
        simp at hu
        rcases hu with rfl | rfl
        · exact tm_int
        · exact L4) (by simp)).mono (by decide)
    · exact tri _ _ _ L4 T4 tm_int
    · exact tri _ _ _ tm_int T4 L4
    · exact tm_none
  by_cases w7 : w = 7
  · subst w7
    simp
    refine (g_odd hd1).mono ?_
    rintro ⟨y, dk3⟩ ⟨hy, hd3⟩
    exact ⟨.inl (hy.mono (by decide)), hd3⟩
  · have f1 : w = 1 → ¬ 0 < ls.length := fun h h' => e1 ⟨h, by omega⟩
    have f2 : w = 2 → ¬ 0 < ls.length := fun h h' => e2 ⟨h, by omega⟩
    have A : Tm 3 (.tuple (ls ++ [PyData.tuple (List.replicate n (PyData.tuple [.int 0, .int 1]))])) := by
      refine tm_tup (k := 2) (fun y hy => ?_) (by simp; omega)
      rcases List.mem_append.mp hy with h | h
      · exact lrow y h
      · rw [List.mem_singleton.mp h]; exact onetm' (by omega)
    have B : Tm 2 (.tuple (ts ++ [PyData.tuple [.int 0, .int 1]])) := by
      refine tm_tup (k := 1) (fun y hy => ?_) (by simp; omega)
      rcases List.mem_append.mp hy with h | h
      · exact hT y h
      · rw [List.mem_singleton.mp h]; exact pair_tm
    have H : Hd (PyData.tuple [.int n, .tuple (ls ++ [PyData.tuple (List.replicate n (PyData.tuple [.int 0, .int 1]))]), .tuple (ts ++ [PyData.tuple [.int 0, .int 1]])]) := Hd.of A B (by decide) (by decide)
    by_cases v1 : w = 1
    · have m0 : ls.length = 0 := by have := f1 v1; omega
      simp [v1, m0]
      exact ⟨⟨n1, n2⟩, by omega, H, hd1⟩
    by_cases v2 : w = 2
    · have m0 : ls.length = 0 := by have := f2 v2; omega
      simp [v2, m0]
      exact ⟨⟨n1, n2⟩, by omega, H, hd1⟩
    simp [w0, v1, v2, w3, w4, w5, w6, w7]
    exact ⟨⟨n1, n2⟩, by omega, by omega, H, hd1⟩
end LW

set_option Elab.async false
set_option linter.all false
set_option maxRecDepth 100000
set_option maxHeartbeats 2000001
namespace LW
open PySem PySem.Spec FW
open L2 (atI)
variable {a b : Int} {p q : Rat} {d : D} {m n k l : Nat} {ds dk ls ts : List D} {L : Nat → Nat → Rat} {t x : Nat → Rat}
theorem w_room (hp : ∀ x y z, d = .tuple [x, y, z] → Pr3 y z) : q_is_room d = .ok (.bool (roomB d)) := by
  unfold q_is_room
  simp [w_roomed hp]
theorem rp_bools {bs : List Bool} (h : bs.length ≤ 20) : Rp 60 1500 (.list (bs.map .bool)) := by
  refine (Rp.list (dp := 0) (bk := 0) (n := 20) (fun z hz => ?_) (by simpa using h)).mono (by decide) (by decide)
  obtain ⟨b, _, rfl⟩ := List.mem_map.mp hz
  cases b <;> exact ⟨rfl, rfl, by decide, by decide, by decide⟩
theorem rF_get {w : List Rat} (h : w.length = n) : rF n (fun j => w.getD j 0) = rowD w := congrArg rowD (row_is h).symm
/-- what is told of rows that are places -/
theorem v_ins {ws : List (List Rat)} (h : Hall n m L t) (hw : ∀ w ∈ ws, w.length = n ∧ SzL 40 w) : mapM' (m := S) (fun each_ => (Mo.nx (call p_is_in (acons (pur (hallD n m L t)) (acons (pur each_) (pur [])))))) (ws.map rowD) dk = .ok (ws.map fun w => .bool (heldB n m L t fun j => w.getD j 0), dk) := by
  refine mapS_ok fun w hm => ?_
  have hh := hw w hm
  have c := v_is_in h (x := fun j => w.getD j 0) fun j hj => szL_get hh.2 (by omega)
  rw [rF_get hh.1] at c
  simp [c]
theorem v_insides {ws : List (List Rat)} (h : Hall n m L t) (hw : ∀ w ∈ ws, w.length = n ∧ SzL 40 w) : mapM' (m := S) (fun each_ => (Mo.nx (call p__law_inside (acons (pur (hallD n m L t)) (acons (pur each_) (pur [])))))) (ws.map rowD) dk = .ok (ws.map fun w => .bool (heldB n m L t fun j => w.getD j 0), dk) := by
  refine mapS_ok fun w hm => ?_
  have hh := hw w hm
  have c := v_inside h (x := fun j => w.getD j 0) fun j hj => szL_get hh.2 (by omega)
  rw [rF_get hh.1] at c
  simp [c]
theorem noss_app : ∀ {a b : List Wv}, Wv.noss (a ++ b) = (Wv.noss a && Wv.noss b)
  | [], b => by rw [noss_nil]; rfl
  | x :: a, b => by rw [List.cons_append, noss_cons, noss_cons, noss_app, Bool.and_assoc]
theorem dats_app : ∀ {a b : List Wv}, Wv.dats (a ++ b) = Wv.dats a ++ Wv.dats b
  | [], b => by rw [dats_nil]; rfl
  | x :: a, b => by rw [List.cons_append, dats_cons, dats_cons, dats_app]; rfl
theorem noss_d {α : Type} {f : α → D} : ∀ {xs : List α}, Wv.noss (xs.map (Wv.d ∘ f)) = true
  | [] => noss_nil
  | x :: xs => by rw [List.map_cons, noss_cons, noss_d]; rfl
theorem dats_d {α : Type} {f : α → D} : ∀ {xs : List α}, Wv.dats (xs.map (Wv.d ∘ f)) = xs.map f
  | [] => dats_nil
  | x :: xs => by rw [List.map_cons, dats_cons, dats_d]; rfl
theorem noss_1 {x : D} : Wv.noss [Wv.d x] = true := noss_d (f := fun z : D => z) (xs := [x])
theorem dats_1 {x : D} : Wv.dats [Wv.d x] = [x] := dats_d (f := fun z : D => z) (xs := [x])
theorem law_ok {ns : List Int} : ∃ dk, p_law ns [] = .ok (.bool true, dk) := by
  suffices h : Ok (p_law ns []) fun r => r.1 = .bool true by
    obtain ⟨⟨v, dk⟩, e, h⟩ := h
    simp only at h
    subst h
    exact ⟨dk, e⟩
  unfold p_law
  simp only [thenL_eq]
  rw [Ok_bindS, Ok_bindS]
  refine Ok.mono (P := fun r => ∃ N : Nat, N ≤ 3 ∧ r = (rngD 0 N, [])) ?_ ?_
  · simp
    refine ⟨by omega, _, ?_, rfl⟩
    omega
  rintro _ ⟨N, hN, rfl⟩
  simp only []
  refine (forS_go ?_).mono ?_
  · intro tv htv dk
    obtain ⟨t, ht, rfl⟩ := rngD_mem htv
    rw [Ok_bindS]
    refine Ok.mono (P := fun r => Dk r.2) ?_ ?_
    · have := g_deck (ns := ns) (t := (t : Int)) (salt := 22003) (by omega) (by decide) (by omega) (by decide)
      simp
      exact this
    rintro ⟨_, dk1⟩ hd1
    simp only []
    rw [Ok_bindS]
    refine Ok.mono (P := fun r => ∃ (n : Nat) (dk' : List D), r = (.int n, dk') ∧ (1 ≤ n ∧ n ≤ 3) ∧ Dk dk') ?_ ?_
    · simp
      refine (g_pick hd1 (by simp) (by simp)).mono ?_
      rintro ⟨v, dk2⟩ ⟨hv, hd2⟩
      simp at hv
      rcases hv with rfl | rfl | rfl
      · exact ⟨1, dk2, rfl, by omega, hd2⟩
      · exact ⟨2, dk2, rfl, by omega, hd2⟩
      · exact ⟨3, dk2, rfl, by omega, hd2⟩
    rintro _ ⟨n, dk2, rfl, ⟨h1, hn⟩, hd2⟩
    simp only []
    rw [Ok_bindS]
    refine Ok.mono (P := fun r => ∃ (v : List Rat) (dk' : List D), r = (rowD v, dk') ∧ (v.length = n ∧ SzL 3 v) ∧ Dk dk') ?_ ?_
    · simp
      refine (g_spot hd2 (by omega)).mono ?_
      rintro ⟨v, dk3⟩ ⟨v, rfl, hvl, hv, hd3⟩
      exact ⟨v, dk3, rfl, ⟨hvl, hv⟩, hd3⟩
    rintro _ ⟨v, dk3, rfl, ⟨hvl, hv⟩, hd3⟩
    simp only []
    rw [Ok_bindS]
    refine Ok.mono (P := fun r => ∃ (m : Nat) (L : Nat → Nat → Rat) (t : Nat → Rat) (dk' : List D), r = (hallD n m L t, dk') ∧ Hall n m L t ∧ Dk dk') ?_ ?_
    · simp
      refine (g_hall hd3 h1 hn (most := 5) (by decide) hvl hv).mono ?_
      rintro ⟨z, dk4⟩ ⟨m, L, t, rfl, hh, hd4⟩
      exact ⟨m, L, t, dk4, rfl, hh, hd4⟩
    rintro _ ⟨m, L, t, dk4, rfl, hh, hd4⟩
    simp only []
    rw [Ok_bindS]
    refine Ok.mono (P := fun r => ∃ (th od : D) (dk' : List D), r = ((th, od), dk') ∧ (Hd th ∧ Hd od) ∧ Dk dk') ?_ ?_
    · simp
      refine (g_bent_hall hd4 (ls := (List.range m).map fun k => rF n (L k)) (ts := (rowOf m t).map rq) (m := m) ?_ ?_ (by simp) (by simp [rowOf]) hh.m6 h1 hn).mono ?_
      · intro x hx
        obtain ⟨i, _, rfl⟩ := List.mem_map.mp hx
        refine ⟨_, rfl, by simp [rowOf], fun y hy => ?_⟩
        obtain ⟨q, _, rfl⟩ := List.mem_map.mp hy
        exact pair_tm
      · intro y hy
        obtain ⟨q, _, rfl⟩ := List.mem_map.mp hy
        exact pair_tm
      rintro ⟨th, dk5⟩ ⟨hth, hd5⟩
      refine (g_odd hd5).mono ?_
      rintro ⟨od, dk6⟩ ⟨hod, hd6⟩
      exact ⟨th, od, dk6, ⟨⟨rfl, rfl⟩, rfl⟩, ⟨hth, .inl (hod.mono (by decide))⟩, hd6⟩
    rintro _ ⟨th, od, dk5, rfl, ⟨hth, hod⟩, hd5⟩
    simp only []
    have q1 := w_room (hd_hall hh).pr
    rw [roomB_hall hh] at q1
    have q2 := w_room hth.pr
    have q3 := w_room hod.pr
    have q4 := w_lis_hall hth.pr
    have q5 := w_lis_hall hod.pr
    rw [Ok_bindS]
    refine Ok.mono (P := fun r => r = (.list [.bool true, .bool (roomB th), .bool (roomB th), .bool (roomB od)], dk5)) (by simp [q1, q2, q3, pick]) ?_
    rintro _ rfl
    simp only []
    rw [Ok_bindS]
    refine Ok.mono (P := fun r => r = (.bool (roomB th), dk5)) (by simp [q4]) ?_
    rintro _ rfl
    simp only []
    have rb := pRepr_ok (rp_bools (bs := [true, roomB th, roomB th, roomB od]) (by simp))
    simp only [List.map_cons, List.map_nil] at rb
    rw [ifE_eq, Ok_bindS]
    refine Ok.mono (P := fun r => r = (false, dk5)) (by simp [q5, rb, ne_str]) ?_
    rintro _ rfl
    simp only []
    rw [if_neg (by decide)]
    rw [Ok_bindS]
    have c1 : Sz 31 (⟨1, 1000000007, by decide, by decide⟩ : Rat) := ⟨by decide, by decide⟩
    have c2 : Sz 31 (⟨-1, 1000000007, by decide, by decide⟩ : Rat) := ⟨by decide, by decide⟩
    obtain ⟨w1, e1, hl1, hs1⟩ := v_moved (y := hallD n m L t) hv (by omega) (by omega) c1
    obtain ⟨w2, e2, hl2, hs2⟩ := v_moved (y := hallD n m L t) hv (by omega) (by omega) c2
    have e1' : q__law_moved (hallD n m L t) (rowD v) (.tuple [.int 1, .int 1000000007]) = .ok (rowD w1) := e1
    have e2' : q__law_moved (hallD n m L t) (rowD v) (.tuple [.int (-1), .int 1000000007]) = .ok (rowD w2) := e2
    refine Ok.mono (P := fun r => r = ([rowD v, rowD w1, rowD w2], dk5)) (by simp [e1', e2']) ?_
    rintro _ rfl
    simp only []
    rw [Ok_bindS]
    refine Ok.mono (P := fun r => ∃ (ws : List (List Rat)) (dk' : List D), r = (ws.map rowD, dk') ∧ (ws.length = 6 ∧ ∀ w ∈ ws, w.length = n ∧ SzL 40 w) ∧ Dk dk') ?_ ?_
    · rw [Ok_bindS]
      have er : (rng1 (acons (pur (.int 3)) (pur [])) : S (List D)) dk5 = .ok (rngD 0 3, dk5) := by simp
      rw [er, Ok_ok]
      refine (foldS_rng (fun i st => ∃ ws : List (List Rat), st = ws.map rowD ∧ ws.length = 3 + i ∧ ∀ w ∈ ws, w.length = n ∧ SzL 40 w) ⟨[v, w1, w2], rfl, rfl, ?_⟩ hd5 ?_).mono ?_
      · intro w hw
        simp at hw
        rcases hw with rfl | rfl | rfl
        · exact ⟨hvl, hv.mono (by decide)⟩
        · exact ⟨by omega, hs1⟩
        · exact ⟨by omega, hs2⟩
      · rintro i st dk hi ⟨ws, rfl, hwl, hw⟩ hd
        have : ws.length < 1000000 := by omega
        simp [this]
        refine (g_spot hd (by omega)).mono ?_
        rintro ⟨u, dk6⟩ ⟨u, rfl, hul, hu, hd6⟩
        refine ⟨⟨ws ++ [u], by simp, by simp; omega, fun w h => ?_⟩, hd6⟩
        rcases (List.mem_append.mp h) with h | h
        · exact hw w h
        · rw [List.mem_singleton.mp h]; exact ⟨hul, hu.mono (by decide)⟩
      · rintro ⟨st, dk'⟩ ⟨⟨ws, rfl, hwl, hw⟩, hd'⟩
        exact ⟨ws, dk', rfl, ⟨hwl, hw⟩, hd'⟩
    rintro _ ⟨ws, dk6, rfl, ⟨hwl, hw⟩, hd6⟩
    simp only []
    have h3 : 3 < ws.length := by omega
    have hm3 : ws[3] ∈ ws := List.getElem_mem h3
    have f1 := v_ins (dk := dk6) hh hw
    have f2 := v_insides (dk := dk6) (ws := ws ++ [ws[3]]) hh (fun w h => by
      rcases (List.mem_append.mp h) with h | h
      · exact hw w h
      · rw [List.mem_singleton.mp h]; exact hw _ hm3)
    have h33 := hw _ hm3
    have f3 := v_is_in hh (x := fun j => ws[3].getD j 0) fun j hj => szL_get h33.2 (by omega)
    rw [rF_get h33.1] at f3
    have rb2 := pRepr_ok (rp_bools (bs := (ws ++ [ws[3]]).map fun w => heldB n m L t fun j => w.getD j 0) (by simp; omega))
    rw [List.map_map] at rb2
    simp at f1 f2
    simp [Function.comp_def] at rb2
    rw [Ok_bindS]
    refine Ok.mono (P := fun r => r = (.list ((ws ++ [ws[3]]).map fun w => .bool (heldB n m L t fun j => w.getD j 0)), dk6)) ?_ ?_
    · have : ws.length ≤ 1000000 := by omega
      simp [this, f1, f3, h3, pick, ow, noss_app, dats_app, noss_d, dats_d, noss_1, dats_1]
      omega
    rintro _ rfl
    simp only []
    rw [ifE_eq, Ok_bindS]
    refine Ok.mono (P := fun r => r = (false, dk6)) ?_ ?_
    · have l1 : ws.length + 1 ≤ 1000000 := by omega
      simp [l1, h3, ow, noss_app, dats_app, noss_d, dats_d, noss_1, dats_1, rb2, f2, ne_str]
    rintro _ rfl
    simp
  · rintro ⟨r, dk⟩ hr
    simp only at hr
    subst hr
    simp
end LW

set_option Elab.async false
set_option linter.all false
set_option maxRecDepth 100000
set_option maxHeartbeats 2000001
namespace LW
open PySem PySem.Spec FW
theorem law_true (ns : List Int) (hl : ns.length ≤ 63) : ∃ rr, d_law [.s ns] = .ok (.d (.bool true)) rr := by
  obtain ⟨dk, e⟩ := law_ok (ns := ns)
  obtain ⟨rr, h⟩ := law_of (n := 13) (M := m0) (sd_law (ns_ := ns)) e
  exact fz_true h
end LW

set_option Elab.async false
set_option linter.all false
set_option maxRecDepth 100000
open PySem PySem.W PyProof.Rows FW
set_option maxHeartbeats 0 in
theorem PySem.Challenge.cw_everyface_k22_rooms_of_anything_holds : PySem.Challenge.rw_everyface_k22_rooms_of_anything.Holds := by
  w_on
  o_law
  k_head
  (case hw => w_witness2)
  k_fill
  refine FW.walk_G (l := PySem.Challenge.rw_everyface_k22_rooms_of_anything) (n := 63) (k := 8) (x := "script") (df := LW.d_law) rfl (by decide) rfl ⟨rfl, by decide, by decide⟩ (fun w h Y => PySem.W.kIn_of Y) ?F LW.law_true
  case F =>
    intro w mg fa h KX G hmg
    refine' LW.all_mk KX G hmg ?a ?l ?c ?k ?T
    (case a => k_is); (case l => k_is); (case c => k_is); (case k => k_is)
    (case T =>
      refine' ⟨?z_abs, ?z_all, ?z_any, ?z_bool, ?z_enumerate, ?z_int, ?z_isinstance, ?z_len, ?z_list, ?z_max, ?z_min, ?z_range, ?z_repr, ?z_tuple, ?z_zip, ?b_gcd, ?g_ZERO, ?g_MOST_UNKNOWNS, ?g_MOST_ROWS, ?f_is_whole, ?f_is_between, ?f_are_wholes, ?f_divisor_of, ?f_is_reduced, ?f_is_ratio, ?f_are_ratios, ?f_is_roomed, ?f_is_room, ?f_check_row_of, ?f_is_lower, ?f_ratio_with, ?f_ratio_product, ?f_ratio_sum, ?f_total_of, ?f_dot, ?f_is_held, ?f_check_room, ?f_is_in, ?f__law_deck, ?f__law_roll, ?f__law_pick, ?f__law_odd, ?f__law_gcd, ?f__law_frac, ?f__law_spot, ?f__law_wholes, ?f__law_plus, ?f__law_times, ?f__law_dot, ?f__law_hall, ?f__law_under, ?f__law_inside, ?f__law_whole, ?f__law_is_frac, ?f__law_is_line, ?f__law_is_hall, ?f__law_no_frac, ?f__law_put, ?f__law_bent_hall, ?f__law_moved, ?f_law⟩
      (case z_abs => exact PySem.W.mg_none_of KX G (by k_is))
      (case z_all => exact PySem.W.mg_none_of KX G (by k_is))
      (case z_any => exact PySem.W.mg_none_of KX G (by k_is))
      (case z_bool => exact PySem.W.mg_none_of KX G (by k_is))
      (case z_enumerate => exact PySem.W.mg_none_of KX G (by k_is))
      (case z_int => exact PySem.W.mg_none_of KX G (by k_is))
      (case z_isinstance => exact PySem.W.mg_none_of KX G (by k_is))
      (case z_len => exact PySem.W.mg_none_of KX G (by k_is))
      (case z_list => exact PySem.W.mg_none_of KX G (by k_is))
      (case z_max => exact PySem.W.mg_none_of KX G (by k_is))
      (case z_min => exact PySem.W.mg_none_of KX G (by k_is))
      (case z_range => exact PySem.W.mg_none_of KX G (by k_is))
      (case z_repr => exact PySem.W.mg_none_of KX G (by k_is))
      (case z_tuple => exact PySem.W.mg_none_of KX G (by k_is))
      (case z_zip => exact PySem.W.mg_none_of KX G (by k_is))
      (case b_gcd => exact PySem.W.mg_of KX G (by k_is))
      (case g_ZERO => refine' gd_two KX G ?a ?l; (case a => k_is); (case l => k_is))
      (case g_MOST_UNKNOWNS => refine' gd_int KX G ?a; (case a => k_is))
      (case g_MOST_ROWS => refine' gd_int KX G ?a; (case a => k_is))
      (case f_is_whole => refine' LW.tf_is_whole KX G ?a ?l ?c ?k; (case a => k_is); (case l => k_is); (case c => k_is); (case k => k_is))
      (case f_is_between => refine' LW.tf_is_between KX G ?a ?l ?c ?k; (case a => k_is); (case l => k_is); (case c => k_is); (case k => k_is))
      (case f_are_wholes => refine' LW.tf_are_wholes KX G ?a ?l ?c ?k; (case a => k_is); (case l => k_is); (case c => k_is); (case k => k_is))
      (case f_divisor_of => refine' LW.tf_divisor_of KX G ?a ?l ?c ?k; (case a => k_is); (case l => k_is); (case c => k_is); (case k => k_is))
      (case f_is_reduced => refine' LW.tf_is_reduced KX G ?a ?l ?c ?k; (case a => k_is); (case l => k_is); (case c => k_is); (case k => k_is))
      (case f_is_ratio => refine' LW.tf_is_ratio KX G ?a ?l ?c ?k; (case a => k_is); (case l => k_is); (case c => k_is); (case k => k_is))
      (case f_are_ratios => refine' LW.tf_are_ratios KX G ?a ?l ?c ?k; (case a => k_is); (case l => k_is); (case c => k_is); (case k => k_is))
      (case f_is_roomed => refine' LW.tf_is_roomed KX G ?a ?l ?c ?k; (case a => k_is); (case l => k_is); (case c => k_is); (case k => k_is))
      (case f_is_room => refine' LW.tf_is_room KX G ?a ?l ?c ?k; (case a => k_is); (case l => k_is); (case c => k_is); (case k => k_is))
      (case f_check_row_of => refine' LW.tf_check_row_of KX G ?a ?l ?c ?k; (case a => k_is); (case l => k_is); (case c => k_is); (case k => k_is))
      (case f_is_lower => refine' LW.tf_is_lower KX G ?a ?l ?c ?k; (case a => k_is); (case l => k_is); (case c => k_is); (case k => k_is))
      (case f_ratio_with => refine' LW.tf_ratio_with KX G ?a ?l ?c ?k; (case a => k_is); (case l => k_is); (case c => k_is); (case k => k_is))
      (case f_ratio_product => refine' LW.tf_ratio_product KX G ?a ?l ?c ?k; (case a => k_is); (case l => k_is); (case c => k_is); (case k => k_is))
      (case f_ratio_sum => refine' LW.tf_ratio_sum KX G ?a ?l ?c ?k; (case a => k_is); (case l => k_is); (case c => k_is); (case k => k_is))
      (case f_total_of => refine' LW.tf_total_of KX G ?a ?l ?c ?k; (case a => k_is); (case l => k_is); (case c => k_is); (case k => k_is))
      (case f_dot => refine' LW.tf_dot KX G ?a ?l ?c ?k; (case a => k_is); (case l => k_is); (case c => k_is); (case k => k_is))
      (case f_is_held => refine' LW.tf_is_held KX G ?a ?l ?c ?k; (case a => k_is); (case l => k_is); (case c => k_is); (case k => k_is))
      (case f_check_room => refine' LW.tf_check_room KX G ?a ?l ?c ?k; (case a => k_is); (case l => k_is); (case c => k_is); (case k => k_is))
      (case f_is_in => refine' LW.tf_is_in KX G ?a ?l ?c ?k; (case a => k_is); (case l => k_is); (case c => k_is); (case k => k_is))
      (case f__law_deck => refine' LW.tf__law_deck KX G ?a ?l ?c ?k; (case a => k_is); (case l => k_is); (case c => k_is); (case k => k_is))
      (case f__law_roll => refine' LW.tf__law_roll KX G ?a ?l ?c ?k; (case a => k_is); (case l => k_is); (case c => k_is); (case k => k_is))
      (case f__law_pick => refine' LW.tf__law_pick KX G ?a ?l ?c ?k; (case a => k_is); (case l => k_is); (case c => k_is); (case k => k_is))
      (case f__law_odd => refine' LW.tf__law_odd KX G ?a ?l ?c ?k; (case a => k_is); (case l => k_is); (case c => k_is); (case k => k_is))
      (case f__law_gcd => refine' LW.tf__law_gcd KX G ?a ?l ?c ?k; (case a => k_is); (case l => k_is); (case c => k_is); (case k => k_is))
      (case f__law_frac => refine' LW.tf__law_frac KX G ?a ?l ?c ?k; (case a => k_is); (case l => k_is); (case c => k_is); (case k => k_is))
      (case f__law_spot => refine' LW.tf__law_spot KX G ?a ?l ?c ?k; (case a => k_is); (case l => k_is); (case c => k_is); (case k => k_is))
      (case f__law_wholes => refine' LW.tf__law_wholes KX G ?a ?l ?c ?k; (case a => k_is); (case l => k_is); (case c => k_is); (case k => k_is))
      (case f__law_plus => refine' LW.tf__law_plus KX G ?a ?l ?c ?k; (case a => k_is); (case l => k_is); (case c => k_is); (case k => k_is))
      (case f__law_times => refine' LW.tf__law_times KX G ?a ?l ?c ?k; (case a => k_is); (case l => k_is); (case c => k_is); (case k => k_is))
      (case f__law_dot => refine' LW.tf__law_dot KX G ?a ?l ?c ?k; (case a => k_is); (case l => k_is); (case c => k_is); (case k => k_is))
      (case f__law_hall => refine' LW.tf__law_hall KX G ?a ?l ?c ?k; (case a => k_is); (case l => k_is); (case c => k_is); (case k => k_is))
      (case f__law_under => refine' LW.tf__law_under KX G ?a ?l ?c ?k; (case a => k_is); (case l => k_is); (case c => k_is); (case k => k_is))
      (case f__law_inside => refine' LW.tf__law_inside KX G ?a ?l ?c ?k; (case a => k_is); (case l => k_is); (case c => k_is); (case k => k_is))
      (case f__law_whole => refine' LW.tf__law_whole KX G ?a ?l ?c ?k; (case a => k_is); (case l => k_is); (case c => k_is); (case k => k_is))
      (case f__law_is_frac => refine' LW.tf__law_is_frac KX G ?a ?l ?c ?k; (case a => k_is); (case l => k_is); (case c => k_is); (case k => k_is))
      (case f__law_is_line => refine' LW.tf__law_is_line KX G ?a ?l ?c ?k; (case a => k_is); (case l => k_is); (case c => k_is); (case k => k_is))
      (case f__law_is_hall => refine' LW.tf__law_is_hall KX G ?a ?l ?c ?k; (case a => k_is); (case l => k_is); (case c => k_is); (case k => k_is))
      (case f__law_no_frac => refine' LW.tf__law_no_frac KX G ?a ?l ?c ?k; (case a => k_is); (case l => k_is); (case c => k_is); (case k => k_is))
      (case f__law_put => refine' LW.tf__law_put KX G ?a ?l ?c ?k; (case a => k_is); (case l => k_is); (case c => k_is); (case k => k_is))
      (case f__law_bent_hall => refine' LW.tf__law_bent_hall KX G ?a ?l ?c ?k; (case a => k_is); (case l => k_is); (case c => k_is); (case k => k_is))
      (case f__law_moved => refine' LW.tf__law_moved KX G ?a ?l ?c ?k; (case a => k_is); (case l => k_is); (case c => k_is); (case k => k_is))
      (case f_law => refine' LW.tf_law KX G ?a ?l ?c ?k; (case a => k_is); (case l => k_is); (case c => k_is); (case k => k_is)))
