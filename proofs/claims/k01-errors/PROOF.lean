import PyProof.Rows.All
import Wide.All
import OpenK.AllK
import Wide.FinOn
import HandS.ForMost
import HandS.Defaults
import HandS.Evl
import HandS.Deep
import KE.KExcSuper
import KE.KSuper
import HandS.ExcInit
import HandS.IsInst
import HandS.MakeKwOnly
import HandS.ExcField
import HandS.ExcValue
import KE.KExcIs
import HandS.HeadHook2
import HandS.Small
import HandS.Head0
import HandS.Head1
import HandS.Head2
import HandS.HeadEnd
import HandS.HeadHook1
import HandS.Comp
import HandS.Wide
import HandS.WideBits
import PyProof.ReprRoads
import PyProof.StrLawsRepr
import PySem.Challenge.RW_barsanddyes_k01_errors_made
set_option Elab.async false
set_option linter.all false
set_option maxRecDepth 100000
set_option maxHeartbeats 1000000
namespace DL
open PySem PySem.Spec PyProof.Rows L2
/-! data without a heap; a purse is a token -/
inductive D where
  | non | bl (b : Bool) | int (i : Int) | str (x : Str) | pur
  | scr (ns : List Int)
  | lst (ds : List D) | tup (ds : List D)
  | dK (ks : List Key) (vs : List D) | dT (ks : List (List Key)) (vs : List D)
  | obj (C : Addr) (ns : List Str) (vs : List D)

/-- the world: what is frozen, the purses, how many draws are left -/
structure Wd where
  G : Hp
  Pi : Addr → Prop
  bud : Nat
abbrev Ext (G H : Hp) : Prop := ∀ a o, G a = some o → H a = some o
theorem Ext.rfl' {G : Hp} : Ext G G := fun _ _ h => h
theorem Ext.tr {A B C : Hp} (x : Ext A B) (y : Ext B C) : Ext A C := fun a o h => y a o (x a o h)
theorem Ext.none {A B : Hp} {a : Addr} (x : Ext A B) (h : B a = .none) : A a = .none := by
  cases q : A a with
  | none => rfl
  | some o => rw [x a o q] at h; cases h
theorem Ext.alloc {G : Hp} {p : Addr} {o : HO} (h : G p = .none) : Ext G (upd G p o) := fun a u e => by
  rw [upd_ne (ne_of_none e h)]; exact e
theorem rd_ext {G H : Hp} {a : Addr} {u : HO} (e : Ext G H) (h : Rd G a u) : Rd H a u := by
  rcases h with h | ⟨o, h⟩
  · exact .inl (e _ _ h)
  · exact .inr ⟨o, e _ _ h⟩
theorem sql_ext {K : PySem.W.Frag} {G H : Hp} {a : Addr} {xs : List V} (e : Ext G H) (h : SqL K G a xs) : SqL K H a xs := h.elim (fun q => .inl (rd_ext e q)) .inr
theorem sqt_ext {K : PySem.W.Frag} {G H : Hp} {a : Addr} {xs : List V} (e : Ext G H) (h : SqT K G a xs) : SqT K H a xs := h.elim (fun q => .inl (rd_ext e q)) .inr

mutual
inductive Rep (K : PySem.W.Frag) (W : Wd) : V → D → Prop
  | non : Rep K W .non .non
  | bl (b : Bool) : Rep K W (.bl b) (.bl b)
  | int (i : Int) : Rep K W (.int i) (.int i)
  | str (x : Str) : Rep K W (.str x) (.str x)
  | pur {l : Addr} : W.Pi l → Rep K W (.ref l) .pur
  | scr {a : Addr} {ns : List Int} : SqL K W.G a (ns.map V.int) → Rep K W (.ref a) (.scr ns)
  | lst {a : Addr} {xs : List V} {ds : List D} : W.G a = some (.lst xs) → RepAll K W xs ds → Rep K W (.ref a) (.lst ds)
  | tup {a : Addr} {xs : List V} {ds : List D} : W.G a = some (.tup xs) → RepAll K W xs ds → Rep K W (.ref a) (.tup ds)
  | dK {a : Addr} {kvs : List (Key × V)} {ks : List Key} {ds : List D} : W.G a = some (.dK kvs) → kvs.map (·.1) = ks → RepAll K W (kvs.map (·.2)) ds → Rep K W (.ref a) (.dK ks ds)
  | dT {a : Addr} {kvs : List (List Key × V)} {ks : List (List Key)} {ds : List D} : W.G a = some (.dT kvs) → kvs.map (·.1) = ks → RepAll K W (kvs.map (·.2)) ds → Rep K W (.ref a) (.dT ks ds)
  | obj {a C dx : Addr} {fs : List (Str × V)} {ns : List Str} {ds : List D} : W.G a = some (.ins C dx fs) → fs.map (·.1) = ns → RepAll K W (fs.map (·.2)) ds → Rep K W (.ref a) (.obj C ns ds)
inductive RepAll (K : PySem.W.Frag) (W : Wd) : List V → List D → Prop
  | nil : RepAll K W [] []
  | cons {v : V} {vs : List V} {d : D} {ds : List D} : Rep K W v d → RepAll K W vs ds → RepAll K W (v :: vs) (d :: ds)
end
structure WLe (W W' : Wd) : Prop where
  ex : Ext W.G W'.G
  pi : ∀ l, W.Pi l → W'.Pi l
theorem WLe.rfl' {W : Wd} : WLe W W := ⟨fun _ _ h => h, fun _ h => h⟩
theorem WLe.tr {A B C : Wd} (x : WLe A B) (y : WLe B C) : WLe A C := ⟨x.ex.tr y.ex, fun l h => y.pi l (x.pi l h)⟩
section
variable {K : PySem.W.Frag} {W W' : Wd}
mutual
theorem Rep.mono {v : V} {d : D} (e : WLe W W') (h : Rep K W v d) : Rep K W' v d := by
  cases h with
  | non => exact .non
  | bl b => exact .bl b
  | int i => exact .int i
  | str x => exact .str x
  | pur h => exact .pur (e.pi _ h)
  | scr h => exact .scr (sql_ext e.ex h)
  | lst h r => exact .lst (e.ex _ _ h) (RepAll.mono e r)
  | tup h r => exact .tup (e.ex _ _ h) (RepAll.mono e r)
  | dK h n r => exact .dK (e.ex _ _ h) n (RepAll.mono e r)
  | dT h n r => exact .dT (e.ex _ _ h) n (RepAll.mono e r)
  | obj h n r => exact .obj (e.ex _ _ h) n (RepAll.mono e r)
theorem RepAll.mono {vs : List V} {ds : List D} (e : WLe W W') (h : RepAll K W vs ds) : RepAll K W' vs ds := by
  cases h with
  | nil => exact .nil
  | cons h r => exact .cons (Rep.mono e h) (RepAll.mono e r)
end
theorem RepAll.len {vs : List V} {ds : List D} (h : RepAll K W vs ds) : vs.length = ds.length := by
  induction ds generalizing vs with
  | nil => cases h; rfl
  | cons d ds ih => cases h with | cons a b => exact congrArg (· + 1) (ih b)
theorem RepAll.at {vs : List V} {ds : List D} (h : RepAll K W vs ds) {i : Nat} {d : D} (e : ds[i]? = some d) : ∃ v, vs[i]? = some v ∧ Rep K W v d := by
  induction ds generalizing vs i with
  | nil => simp at e
  | cons d' ds ih =>
    cases h with
    | cons a b =>
      cases i with
      | zero => simp at e; subst e; exact ⟨_, rfl, a⟩
      | succ i => exact ih b (by simpa using e)
theorem RepAll.app {vs vs' : List V} {ds ds' : List D} (h : RepAll K W vs ds) (h' : RepAll K W vs' ds') : RepAll K W (vs ++ vs') (ds ++ ds') := by
  induction ds generalizing vs with
  | nil => cases h; exact h'
  | cons d ds ih => cases h with | cons a b => exact .cons a (ih b)
theorem RepAll.take {vs : List V} {ds : List D} (n : Nat) (h : RepAll K W vs ds) : RepAll K W (vs.take n) (ds.take n) := by
  induction ds generalizing vs n with
  | nil => cases h; simp; exact .nil
  | cons d ds ih =>
    cases h with
    | cons a b =>
      cases n with
      | zero => exact .nil
      | succ n => exact .cons a (ih n b)
theorem RepAll.drop {vs : List V} {ds : List D} (n : Nat) (h : RepAll K W vs ds) : RepAll K W (vs.drop n) (ds.drop n) := by
  induction ds generalizing vs n with
  | nil => cases h; simp; exact .nil
  | cons d ds ih =>
    cases h with
    | cons a b =>
      cases n with
      | zero => exact .cons a b
      | succ n => exact ih n b
theorem RepAll.set {vs : List V} {ds : List D} {v : V} {d : D} (n : Nat) (h : RepAll K W vs ds) (r : Rep K W v d) : RepAll K W (vs.set n v) (ds.set n d) := by
  induction ds generalizing vs n with
  | nil => cases h; exact .nil
  | cons d ds ih =>
    cases h with
    | cons a b =>
      cases n with
      | zero => exact .cons r b
      | succ n => exact .cons a (ih n b)
end
/-- a purse: what is left of its great number, its seed, its turn, its place -/
def PurseAt (b : Nat) (H : Hp) (l : Addr) : Prop := ∃ a s c p : Int, H l = some (.lst [.int a, .int s, .int c, .int p]) ∧ 0 ≤ a ∧ (0 ≤ s ∧ s < 2147483648) ∧ (0 ≤ c ∧ c + (b : Int) ≤ 1000000000000000000) ∧ (0 ≤ p ∧ p < 1000)
structure OkW (W : Wd) (H : Hp) : Prop where
  sub : Ext W.G H
  pur : ∀ l, W.Pi l → PurseAt W.bud H l ∧ W.G l = none
structure Grow (W : Wd) (H : Hp) (W' : Wd) (H' : Hp) : Prop where
  le : WLe W W'
  ok : OkW W' H'
  keep : ∀ a o, H a = some o → ¬ W.Pi a → H' a = some o
  newG : ∀ a, H a ≠ none → W.G a = none → W'.G a = none
  newP : ∀ a, H a ≠ none → ¬ W.Pi a → ¬ W'.Pi a
theorem OkW.thr {W : Wd} {H : Hp} (k : OkW W H) {a : Addr} (h : W.Pi a) : H a ≠ none := by
  obtain ⟨⟨_, _, _, _, e, _⟩, _⟩ := k.pur a h
  rw [e]; exact fun z => nomatch z
theorem Grow.rfl' {W : Wd} {H : Hp} (k : OkW W H) : Grow W H W H := ⟨.rfl', k, fun _ _ h _ => h, fun _ _ h => h, fun _ _ h => h⟩
theorem Grow.stay {W W' : Wd} {H H' : Hp} (x : Grow W H W' H') {a : Addr} (h : H a ≠ none) : H' a ≠ none := by
  by_cases p : W.Pi a
  · exact x.ok.thr (x.le.pi a p)
  · cases q : H a with
    | none => exact absurd q h
    | some o => rw [x.keep a o q p]; exact fun z => nomatch z
theorem Grow.tr {A B C : Wd} {H1 H2 H3 : Hp} (x : Grow A H1 B H2) (y : Grow B H2 C H3) : Grow A H1 C H3 where
  le := x.le.tr y.le
  ok := y.ok
  keep := fun a o h p => y.keep a o (x.keep a o h p) (x.newP a (by rw [h]; exact fun z => nomatch z) p)
  newG := fun a h g => y.newG a (x.stay h) (x.newG a h g)
  newP := fun a h p => y.newP a (x.stay h) (x.newP a h p)
theorem Grow.back {W W' : Wd} {H H' : Hp} (x : Grow W H W' H') {a : Addr} (h : H' a = none) : H a = none := by
  cases q : H a with
  | none => rfl
  | some o => exact absurd h (x.stay (by rw [q]; exact fun z => nomatch z))
/-- a new object that is not frozen -/
theorem Grow.alloc {W : Wd} {H : Hp} (k : OkW W H) {p : Addr} {o : HO} (h : H p = none) : Grow W H W (upd H p o) where
  le := .rfl'
  ok := ⟨k.sub.tr (.alloc h), fun l hl => by
    obtain ⟨⟨a, s, c, q, e, r⟩, g⟩ := k.pur l hl
    exact ⟨⟨a, s, c, q, by rw [upd_ne (ne_of_none e h)]; exact e, r⟩, g⟩⟩
  keep := fun a u e _ => by rw [upd_ne (ne_of_none e h)]; exact e
  newG := fun _ _ g => g
  newP := fun _ _ g => g
abbrev Wd.fz (W : Wd) (p : Addr) (o : HO) : Wd := { W with G := upd W.G p o }
/-- a new object, frozen at once -/
theorem Grow.allocF {W : Wd} {H : Hp} (k : OkW W H) {p : Addr} {o : HO} (h : H p = none) : Grow W H (W.fz p o) (upd H p o) := by
  have g : W.G p = none := k.sub.none h
  refine ⟨⟨.alloc g, fun _ x => x⟩, ⟨fun a u e => ?_, fun l hl => ?_⟩, fun a u e _ => by rw [upd_ne (ne_of_none e h)]; exact e, fun a e n => ?_, fun _ _ x => x⟩
  · replace e : upd W.G p o a = some u := e
    by_cases z : a = p
    · subst z; rw [upd_same] at e ⊢; exact e
    · rw [upd_ne z] at e ⊢; exact k.sub a u e
  · obtain ⟨⟨a, s, c, q, e, r⟩, g'⟩ := k.pur l hl
    have z : l ≠ p := ne_of_none e h
    exact ⟨⟨a, s, c, q, by rw [upd_ne z]; exact e, r⟩, by show upd W.G p o l = none; rw [upd_ne z]; exact g'⟩
  · show upd W.G p o a = none
    rw [upd_ne (fun z : a = p => e (by rw [z]; exact h))]; exact n
end DL

set_option Elab.async false
set_option linter.all false
set_option maxRecDepth 100000
set_option maxHeartbeats 1000000
namespace DL
open PySem PySem.Spec PyProof.Rows L2
/-! slots -/
inductive Sl where
  | no | fz (d : D) | ow (ds : List D)
  | owK (ks : List Key) (ds : List D) | owT (ks : List (List Key)) (ds : List D)
  | ob (C : Addr) (ns : List Str) (ds : List D)
  | ow2 (dss : List (List D)) | owT2 (ks : List (List Key)) (dss : List (List D)) | owK2 (ks : List Key) (dss : List (List D))
structure DEnv where
  sl : List Sl
  bud : Nat
abbrev DEnv.set (ρ : DEnv) (i : Nat) (s : Sl) : DEnv := ⟨ρ.sl.set i s, ρ.bud⟩
inductive Owns (K : PySem.W.Frag) (W : Wd) (H : Hp) : List Addr → List (List D) → Prop
  | nil : Owns K W H [] []
  | cons {p : Addr} {ps : List Addr} {xs : List V} {ds : List D} {dss : List (List D)} : H p = some (.lst xs) → RepAll K W xs ds → Owns K W H ps dss → Owns K W H (p :: ps) (ds :: dss)
def SlOk (K : PySem.W.Frag) (W : Wd) (H : Hp) (ov : Option V) (fp : List Addr) : Sl → Prop
  | .no => True
  | .fz d => ∃ v, ov = some v ∧ Rep K W v d
  | .ow ds => ∃ l xs, ov = some (.ref l) ∧ fp = [l] ∧ H l = some (.lst xs) ∧ RepAll K W xs ds
  | .owK ks ds => ∃ l kvs, ov = some (.ref l) ∧ fp = [l] ∧ H l = some (.dK kvs) ∧ kvs.map (·.1) = ks ∧ RepAll K W (kvs.map (·.2)) ds
  | .owT ks ds => ∃ l kvs, ov = some (.ref l) ∧ fp = [l] ∧ H l = some (.dT kvs) ∧ kvs.map (·.1) = ks ∧ RepAll K W (kvs.map (·.2)) ds
  | .ob C ns ds => ∃ l dx fs, ov = some (.ref l) ∧ fp = [l] ∧ H l = some (.ins C dx fs) ∧ fs.map (·.1) = ns ∧ RepAll K W (fs.map (·.2)) ds
  | .ow2 dss => ∃ l ps, ov = some (.ref l) ∧ fp = l :: ps ∧ H l = some (.lst (ps.map V.ref)) ∧ Owns K W H ps dss
  | .owT2 ks dss => ∃ l kvs ps, ov = some (.ref l) ∧ fp = l :: ps ∧ H l = some (.dT kvs) ∧ kvs.map (·.1) = ks ∧ kvs.map (·.2) = ps.map V.ref ∧ Owns K W H ps dss
  | .owK2 ks dss => ∃ l kvs ps, ov = some (.ref l) ∧ fp = l :: ps ∧ H l = some (.dK kvs) ∧ kvs.map (·.1) = ks ∧ kvs.map (·.2) = ps.map V.ref ∧ Owns K W H ps dss
/-- the entry of a body: the world and the heap there; addresses that no slot owns -/
structure Base where
  W0 : Wd
  H0 : Hp
  av : Addr → Prop
abbrev Base.but (b : Base) (p : Addr) : Base := ⟨b.W0, b.H0, fun a => b.av a ∨ a = p⟩
structure Own (b : Base) (W : Wd) (H : Hp) (a : Addr) : Prop where
  there : H a ≠ none
  new : b.H0 a = none
  nG : W.G a = none
  nP : ¬ W.Pi a
  nav : ¬ b.av a
structure Foot (b : Base) (W : Wd) (H : Hp) (fp : Nat → List Addr) : Prop where
  nd : ∀ i, (fp i).Nodup
  dj : ∀ i j a, i ≠ j → a ∈ fp i → a ∉ fp j
  own : ∀ i a, a ∈ fp i → Own b W H a
structure St (K : PySem.W.Frag) (b : Base) (W : Wd) (H : Hp) (σ : L2.St) (ρ : DEnv) : Prop where
  gr : Grow b.W0 b.H0 W H
  len : σ.length = ρ.sl.length
  sim : ∃ fp : Nat → List Addr, (∀ i s, ρ.sl[i]? = some s → ∃ ov, σ[i]? = some ov ∧ SlOk K W H ov (fp i) s) ∧ Foot b W H fp
  bud : ρ.bud ≤ W.bud
  avs : ∀ a, b.av a → H a ≠ none
section
variable {K : PySem.W.Frag} {b : Base} {W W' : Wd} {H H' : Hp} {σ : L2.St} {ρ : DEnv}
theorem St.ok (s : St K b W H σ ρ) : OkW W H := s.gr.ok
theorem Owns.to {ps : List Addr} {dss : List (List D)} (e : WLe W W') (h : Owns K W H ps dss) (k : ∀ a ∈ ps, ∀ o, H a = some o → H' a = some o) : Owns K W' H' ps dss := by
  induction h with
  | nil => exact .nil
  | cons a r _ ih => exact .cons (k _ (by simp) _ a) (r.mono e) (ih fun q hq => k q (by simp [hq]))
theorem SlOk.to {ov : Option V} {fp : List Addr} {s : Sl} (e : WLe W W') (h : SlOk K W H ov fp s) (k : ∀ a ∈ fp, ∀ o, H a = some o → H' a = some o) : SlOk K W' H' ov fp s := by
  cases s with
  | no => trivial
  | fz d => obtain ⟨v, x, r⟩ := h; exact ⟨v, x, r.mono e⟩
  | ow ds => obtain ⟨l, xs, x, rfl, a, r⟩ := h; exact ⟨l, xs, x, rfl, k l (by simp) _ a, r.mono e⟩
  | owK ks ds => obtain ⟨l, xs, x, rfl, a, n, r⟩ := h; exact ⟨l, xs, x, rfl, k l (by simp) _ a, n, r.mono e⟩
  | owT ks ds => obtain ⟨l, xs, x, rfl, a, n, r⟩ := h; exact ⟨l, xs, x, rfl, k l (by simp) _ a, n, r.mono e⟩
  | ob C ns ds => obtain ⟨l, dx, fs, x, rfl, a, n, r⟩ := h; exact ⟨l, dx, fs, x, rfl, k l (by simp) _ a, n, r.mono e⟩
  | ow2 dss => obtain ⟨l, ps, x, rfl, a, r⟩ := h; exact ⟨l, ps, x, rfl, k l (by simp) _ a, r.to e fun q hq => k q (by simp [hq])⟩
  | owT2 ks dss => obtain ⟨l, kvs, ps, x, rfl, a, n, m, r⟩ := h; exact ⟨l, kvs, ps, x, rfl, k l (by simp) _ a, n, m, r.to e fun q hq => k q (by simp [hq])⟩
  | owK2 ks dss => obtain ⟨l, kvs, ps, x, rfl, a, n, m, r⟩ := h; exact ⟨l, kvs, ps, x, rfl, k l (by simp) _ a, n, m, r.to e fun q hq => k q (by simp [hq])⟩
/-- the heap grows; what is left of the draws may be told anew -/
theorem St.grow (s : St K b W H σ ρ) (g : Grow W H W' H') {n : Nat} (hn : n ≤ W'.bud) : St K b W' H' σ ⟨ρ.sl, n⟩ := by
  obtain ⟨fp, h1, nd, dj, ow⟩ := s.sim
  refine ⟨s.gr.tr g, s.len, ⟨fp, fun i sl e => ?_, nd, dj, fun i a m => ?_⟩, hn, fun a v => g.stay (s.avs a v)⟩
  · obtain ⟨ov, e1, e2⟩ := h1 i sl e
    exact ⟨ov, e1, e2.to g.le fun a m o h => g.keep a o h (ow i a m).nP⟩
  · obtain ⟨q1, q2, q3, q4, q5⟩ := ow i a m
    exact ⟨g.stay q1, q2, g.newG a q1 q3, g.newP a q1 q4, q5⟩
theorem St.growS (s : St K b W H σ ρ) (g : Grow W H W' H') (hb : W.bud ≤ W'.bud) : St K b W' H' σ ρ := s.grow g (Nat.le_trans s.bud hb)
/-- fewer draws are told -/
theorem St.less (s : St K b W H σ ρ) {n : Nat} (hn : n ≤ ρ.bud) : St K b W H σ ⟨ρ.sl, n⟩ := ⟨s.gr, s.len, s.sim, Nat.le_trans hn s.bud, s.avs⟩
theorem St.lt (s : St K b W H σ ρ) {i : Nat} {x : Sl} (h : ρ.sl[i]? = some x) : i < σ.length := by
  rw [s.len]; exact (List.getElem?_eq_some_iff.mp h).1
/-- slot i is given a frozen value -/
theorem St.setF (s : St K b W H σ ρ) {v : V} {d : D} (r : Rep K W v d) (i : Nat) : St K b W H (σ.set i (some v)) (ρ.set i (.fz d)) := by
  obtain ⟨fp, h1, nd, dj, ow⟩ := s.sim
  refine ⟨s.gr, by simp [s.len], ⟨fun j => if j = i then [] else fp j, fun j sl e => ?_, fun j => ?_, fun j k a n m => ?_, fun j a m => ?_⟩, s.bud, s.avs⟩
  · by_cases z : j = i
    · subst z
      have hl : j < ρ.sl.length := by have := (List.getElem?_eq_some_iff.mp e).1; simpa using this
      rw [List.getElem?_set_self hl] at e; cases e
      exact ⟨some v, List.getElem?_set_self (by rw [s.len]; exact hl), v, rfl, r⟩
    · rw [List.getElem?_set_ne (Ne.symm z)] at e
      obtain ⟨ov, e1, e2⟩ := h1 j sl e
      exact ⟨ov, by rw [List.getElem?_set_ne (Ne.symm z)]; exact e1, by simpa [z] using e2⟩
  · by_cases z : j = i <;> simp [z, nd j]
  · by_cases z : j = i
    · simp [z] at m
    · by_cases y : k = i
      · simp [y]
      · simp [z, y] at m ⊢; exact dj j k a n m
  · by_cases z : j = i
    · simp [z] at m
    · simp [z] at m; exact ow j a m
/-- the general change of one slot: a new content over a footprint, all other footprints kept -/
theorem St.setX {b' : Base} (s : St K b W H σ ρ) {fp : Nat → List Addr} (h1 : ∀ j x, ρ.sl[j]? = some x → ∃ ov, σ[j]? = some ov ∧ SlOk K W H ov (fp j) x) (ft : Foot b W H fp)
    (i : Nat) {ov : Option V} {sl : Sl} {f : List Addr} (gr : Grow b'.W0 b'.H0 W' H') (le : WLe W W') (hb : W.bud ≤ W'.bud)
    (hav : ∀ a, b'.av a → H' a ≠ none) (ho : SlOk K W' H' ov f sl) (nd : f.Nodup) (fo : ∀ a ∈ f, Own b' W' H' a)
    (hk : ∀ j a, j ≠ i → a ∈ fp j → a ∉ f ∧ Own b' W' H' a ∧ ∀ o, H a = some o → H' a = some o) :
    St K b' W' H' (σ.set i ov) (ρ.set i sl) := by
  obtain ⟨nd1, dj, ow⟩ := ft
  refine ⟨gr, by simp [s.len], ⟨fun j => if j = i then f else fp j, fun j x e => ?_, fun j => ?_, fun j k a n m => ?_, fun j a m => ?_⟩, Nat.le_trans s.bud hb, hav⟩
  · by_cases z : j = i
    · subst z
      have hl : j < ρ.sl.length := by have := (List.getElem?_eq_some_iff.mp e).1; simpa using this
      rw [List.getElem?_set_self hl] at e; cases e
      exact ⟨ov, List.getElem?_set_self (by rw [s.len]; exact hl), by simpa using ho⟩
    · rw [List.getElem?_set_ne (Ne.symm z)] at e
      obtain ⟨ov', e1, e2⟩ := h1 j x e
      exact ⟨ov', by rw [List.getElem?_set_ne (Ne.symm z)]; exact e1, by simp only [z, if_false]; exact e2.to le fun a m o h => (hk j a z m).2.2 o h⟩
  · by_cases z : j = i
    · simp [z, nd]
    · simp [z, nd1 j]
  · by_cases z : j = i
    · by_cases y : k = i
      · exact absurd (z.trans y.symm) n
      · simp [z] at m; simp [y]; exact fun q => (hk k a y q).1 m
    · simp [z] at m
      by_cases y : k = i
      · simp [y]; exact (hk j a z m).1
      · simp [y]; exact dj j k a n m
  · by_cases z : j = i
    · simp [z] at m; exact fo a m
    · simp [z] at m; exact (hk j a z m).2.1
theorem set_self {α : Type} {l : List α} {i : Nat} {x : α} (h : l[i]? = some x) : l.set i x = l := by
  apply List.ext_getElem?; intro j
  by_cases z : i = j
  · subst z; rw [List.getElem?_set_self (List.getElem?_eq_some_iff.mp h).1, h]
  · rw [List.getElem?_set_ne z]
theorem Own.fz {a p : Addr} {o : HO} (h : Own b W H a) (n : a ≠ p) : Own b (W.fz p o) H a := ⟨h.there, h.new, by show upd W.G p o a = none; rw [upd_ne n]; exact h.nG, h.nP, h.nav⟩
theorem WLe.fz {p : Addr} {o : HO} (h : W.G p = none) : WLe W (W.fz p o) := ⟨.alloc h, fun _ x => x⟩
/-- an object of ours is frozen -/
theorem Grow.fzOwn {p : Addr} {o : HO} (g : Grow b.W0 b.H0 W H) (w : Own b W H p) (h : H p = some o) : Grow b.W0 b.H0 (W.fz p o) H := by
  refine ⟨g.le.tr (.fz w.nG), ⟨fun a u e => ?_, fun l hl => ?_⟩, g.keep, fun a n h0 => ?_, g.newP⟩
  · replace e : upd W.G p o a = some u := e
    by_cases z : a = p
    · subst z; rw [upd_same] at e; cases e; exact h
    · rw [upd_ne z] at e; exact g.ok.sub a u e
  · obtain ⟨q, r⟩ := g.ok.pur l hl
    refine ⟨q, ?_⟩
    show upd W.G p o l = none
    rw [upd_ne (fun z : l = p => w.nP (by rw [← z]; exact hl))]; exact r
  · show upd W.G p o a = none
    rw [upd_ne (fun z => n (by rw [z]; exact w.new))]; exact g.newG a n h0
/-- .. as a step of the world -/
theorem fzStep {p : Addr} {o : HO} (k : OkW W H) (nG : W.G p = none) (nP : ¬ W.Pi p) (h : H p = some o) : WLe W (W.fz p o) ∧ OkW (W.fz p o) H := by
  refine ⟨.fz nG, fun a u e => ?_, fun l hl => ?_⟩
  · replace e : upd W.G p o a = some u := e
    by_cases z : a = p
    · subst z; rw [upd_same] at e; cases e; exact h
    · rw [upd_ne z] at e; exact k.sub a u e
  · obtain ⟨q, r⟩ := k.pur l hl
    refine ⟨q, ?_⟩
    show upd W.G p o l = none
    rw [upd_ne (fun z : l = p => nP (by rw [← z]; exact hl))]; exact r

/-- what an expression's run does: frozen things, what stands, what no slot owns -/
structure Evo (b : Base) (W : Wd) (H : Hp) (W' : Wd) (H' : Hp) : Prop where
  le : WLe W W'
  keep : ∀ a o, H a = some o → ¬ W.Pi a → H' a = some o
  stay : ∀ a, H a ≠ none → H' a ≠ none
  avG : ∀ a, b.av a → H a ≠ none → W.G a = none → W'.G a = none
  newP : ∀ a, H a ≠ none → ¬ W.Pi a → ¬ W'.Pi a
theorem Evo.rfl' {b : Base} {W : Wd} {H : Hp} : Evo b W H W H := ⟨.rfl', fun _ _ h _ => h, fun _ h => h, fun _ _ _ h => h, fun _ _ h => h⟩
theorem Evo.tr {b : Base} {A B C : Wd} {H1 H2 H3 : Hp} (x : Evo b A H1 B H2) (y : Evo b B H2 C H3) : Evo b A H1 C H3 where
  le := x.le.tr y.le
  keep := fun a o h p => y.keep a o (x.keep a o h p) (x.newP a (by rw [h]; exact fun z => nomatch z) p)
  stay := fun a h => y.stay a (x.stay a h)
  avG := fun a v h g => y.avG a v (x.stay a h) (x.avG a v h g)
  newP := fun a h p => y.newP a (x.stay a h) (x.newP a h p)
theorem Grow.evo {b : Base} {W W' : Wd} {H H' : Hp} (g : Grow W H W' H') : Evo b W H W' H' := ⟨g.le, g.keep, fun _ h => g.stay h, fun a _ h n => g.newG a h n, g.newP⟩
end
end DL

set_option Elab.async false
set_option linter.all false
set_option maxRecDepth 100000
set_option maxHeartbeats 1000000
namespace DL
open PySem PySem.Spec PyProof.Rows L2
/-! a def's promise where nothing is being shown (guards): nothing is raised -/
structure FnG (P : Program) (w : World) (K : PySem.W.Frag) (mg : Str → Option Value) (base : Heap) (k : Nat) (f : Addr) (fd : FuncData) (ps : List Str) (sp : Sp) : Prop where
  len : ∀ vs H Q, sp vs H Q E0 → vs.length = ps.length
  go : ∀ (A : Around) (out : List Env) (s : Shared) (H : Hp) (args : Args) (us : List Value) (vs : List V) (Q : VK), Room k A → A.guards = some [] →
    Env0 P w K mg base A out s H → BindsTo s fd args (ps.zip us) → Vals vs us → sp vs H Q E0 → codeAny (model P w) A (.call (.ref f) args) (CR CX0 out P w H s Q E0) s
theorem FnG.up {P : Program} {w : World} {K : PySem.W.Frag} {mg : Str → Option Value} {base : Heap} {j k : Nat} {f : Addr} {fd : FuncData} {ps : List Str} {sp : Sp} (F : FnG P w K mg base j f fd ps sp) (h : j ≤ k) : FnG P w K mg base k f fd ps sp :=
  ⟨F.len, fun A out s H args us vs Q r => F.go A out s H args us vs Q (r.mono h)⟩
theorem guards_deeper {A : Around} (h : A.guards = some []) (env : Env) : (A.deeper env).guards = some [] := h
/-- the context of a body: calm, no guard, room for k calls, no name twice -/
structure Good (k : Nat) (X : Cx) : Prop where
  calm : X.calm = true
  g : X.A.guards = some []
  room : Room k X.A
  nd : X.N.Nodup
theorem Good.le {j k : Nat} {X : Cx} (h : Good k X) (l : j ≤ k) : Good j X := ⟨h.calm, h.g, h.room.mono l, h.nd⟩
theorem Good.hu {k : Nat} {X : Cx} (h : Good k X) : X.A.units + 1 < cLine := hu_of h.room
theorem Good.blk {k : Nat} {X : Cx} (h : Good k X) (s : Shared) (H : Hp) (sc : Scope) (ce : Env) (fp : List Addr) : Good k (X.blk s H sc ce fp) := ⟨h.calm, h.g, h.room, h.nd⟩
theorem Good.nox {k : Nat} {X : Cx} (h : Good k X) : Good k X.nox := ⟨h.calm, h.g, h.room, h.nd⟩
section
variable {P : Program} {w : World} {K : PySem.W.Frag} {mg : Str → Option Value} {base : Heap} {x qual : Str} {params : Arguments} {body : List Stmt} {scope : Scope} {dvs : List V} {kws : List (Str × V)} {f : Addr} {fd : FuncData}
/-- the rule for a def: its body in a good context -/
theorem fnG_of {N ps : List Str} {k : Nat} {sp : Sp} (F : FunD K x qual params body scope dvs kws f fd) (S : FnScope N ps scope) (len : ∀ vs H Q, sp vs H Q E0 → vs.length = ps.length)
    (hb : ∀ (X : Cx) (H : Hp) (vs : List V) (Q : VK), Good k X → X.prog = P → X.w = w → X.K = K → X.mg = mg → X.base = base → X.N = N → X.env.scope = scope → (∀ y, X.fn y = true) → (PassesOwn (model X.prog X.w) X.A X.env X.xe) → sp vs H Q E0 →
      ∃ t, PSs X body t ∧ t { nx := fun _ H' => Q .non H', rt := Q } (start N vs) H) : FnG P w K mg base (k + 1) f fd ps sp := by
  obtain ⟨oc, od, dV, kV, doc, pm, an, cdv, ct, osl, rfl, lk, hcd, -, -⟩ := F.ex
  constructor
  · exact len
  intro A out s H args us vs Q room gd e0 bd rv hsp
  have kin : K.In s.heap := e0.mod.kin.keeps (fun b o e => (e0.bs b o e).1)
  have nolim : s.heap.NoLimit := e0.mod.nolimit.keeps (fun b o e => (e0.bs b o e).1)
  have vis : ∀ y ∈ ps.zip us, scope.names.lookup y.1 = some .local ∨ (scope.names.lookup y.1 = some .cell ∧ ((cellsFrom (s.heap.objs.size + 1) scope.names []).lookup y.1).isSome = true) := by
    rintro ⟨n, v⟩ hy
    cases S.par n (List.of_mem_zip hy).1 with
    | inl q => exact Or.inl q
    | inr q => exact Or.inr ⟨q, PySem.W.cellsFrom_some _ _ _ (Or.inl q)⟩
  apply codeAny_call_function room.depth (kin _ _ lk) rfl S.co S.gen rfl (PySem.W.codeRec_of kin hcd)
  refine bd _ _ _ _ ?_
  apply wpAny_newFunctionEnv_cells S.kind vis
  intro env he s1 entered
  subst he
  refine ⟨nolim.keeps entered.toInCall.keep, codeAny_func ?_⟩
  have J := inv_start (CX := CX0) (E := E0) (P := P) (w := w) S room.hd e0 (len _ _ _ hsp) rv entered
  obtain ⟨t, ht, hq⟩ := hb (cxOf CX0 P w K mg base N qual scope f cdv A out s H E0).nox H vs Q ⟨rfl, gd, room.deeper _, S.nd⟩ rfl rfl rfl rfl rfl rfl rfl (fun _ => rfl) PassesOwn.never hsp
  have run := ht.run [] s1 (start N vs) H _ (J.wish _) hq
  refine wpAny_mono run ?_ (fun e s' z => False.elim z)
  intro fl s' hs
  cases fl with
  | next =>
    obtain ⟨σ', H', I', q⟩ := hs
    exact ⟨V.non, H', I'.os, I'.bare, I'.base, I'.hok, rfl, q⟩
  | ret u =>
    obtain ⟨v, σ', H', I', r', q⟩ := hs
    exact ⟨v, H', I'.os, I'.bare, I'.base, I'.hok, r', q⟩
  | brk => obtain ⟨_, _, _, q⟩ := hs; exact False.elim q
  | cont => obtain ⟨_, _, _, q⟩ := hs; exact False.elim q
end
section
variable {X : Cx} {k : Nat} {f C : Addr} {fd : FuncData} {ps : List Str} {sp : Sp} {dvs : List V} {ds : List Value} {x m : Str} {p pos apos : Pos} {e o : Expr} {es : List Expr} {ta : TE} {t : TA}
theorem runG {pins : List (Addr × Obj)} {σ : L2.St} {H : Hp} {s : Shared} {Q : VK} {us : List Value} {vs : List V} (F : FnG X.prog X.w X.K X.mg X.base k f fd ps sp) (G : Good k X) (hb : Binds X.K fd ps ds) (hd : Vals dvs ds)
    (I : Inv X pins σ H s) (r : Vals vs us) (h : sp (vs ++ dvs) H Q E0) : wpAny (model X.prog X.w) X.A (call (.ref f) us) (EP X pins σ Q) X.xe s := by
  have r2 : Vals (vs ++ dvs) (us ++ ds) := Vals.append r hd
  have el : (us ++ ds).length = ps.length := r2.length.symm.trans (F.len _ _ _ h)
  apply wpAny_call
  apply codeAny_mono (F.go X.A X.stack s H ⟨us, []⟩ (us ++ ds) (vs ++ dvs) Q G.room G.g I.env0 (hb s us I.kIn el) r2 h)
  intro res s' hq
  match res, hq with
  | .error e, hq => exact False.elim hq
  | .ok (.ret u), hq => exact I.after hq
  | .ok .next, hq => exact False.elim hq
  | .ok .brk, hq => exact False.elim hq
  | .ok .cont, hq => exact False.elim hq
theorem pe_callG (F : FnG X.prog X.w X.K X.mg X.base k f fd ps sp) (G : Good k X) (hg : Gl X x) (hm : X.mg x = some (.ref f)) (hk : PySem.W.keepIn X.K (.ref f) = true) (hb : Binds X.K fd ps ds) (hd : Vals dvs ds)
    (ha : PA X (e :: es) t) (hdb : (x == ("__debug__" : Str)) = false := by decide) (he : starEach (e :: es) X.env = (false, eval e X.env) :: starEach es X.env := by rfl) (hpl : (backTo pos (starEach es X.env)).any (·.1) = false := by rfl) :
    PE X (.Call (.Name x p) (e :: es) [] pos) (tCall sp dvs E0 t) := by
  constructor
  intro pins s σ H Q I h
  apply wpAny_Call_Name_kw (ld_glob I hg hm ?_ hdb)
  apply PySem.W.callWith_K (h₀ := X.base) I.ok.mod.kin hk (thn (ha.run pos pins s σ H _ I h) ?_) he hpl
  rintro us s1 ⟨vs, H1, I1, r, q⟩
  exact ⟨I1.kIn, runG F G hb hd I1 r q⟩
theorem pe_callG0 (F : FnG X.prog X.w X.K X.mg X.base k f fd ps sp) (G : Good k X) (hg : Gl X x) (hm : X.mg x = some (.ref f)) (hk : PySem.W.keepIn X.K (.ref f) = true) (hb : Binds X.K fd ps ds) (hd : Vals dvs ds)
    (hdb : (x == ("__debug__" : Str)) = false := by decide) : PE X (.Call (.Name x p) [] [] pos) (tCall sp dvs E0 tNil) := by
  constructor
  intro pins s σ H Q I h
  apply wpAny_Call_Name_kw (ld_glob I hg hm ?_ hdb)
  exact PySem.W.callWith_K0 I.kIn hk (runG (us := []) F G hb hd I .nil h)
theorem pe_methG {pl : Sem Bool} (he : PE X o ta) (c : Cls X.K C) (hm : Meth X.K C m f) (F : FnG X.prog X.w X.K X.mg X.base k f fd ps sp) (G : Good k X) (hb : Binds X.K fd ps ds) (hd : Vals dvs ds) (ha : PA X (e :: es) t)
    (hst : starEach (e :: es) X.env = (false, eval e X.env) :: starEach es X.env := by rfl) (hpl : (backTo pos (starEach es X.env)).any (·.1) = false := by rfl)
    (ht : eval (.Call (.Attribute o m apos) (e :: es) [] pos) X.env = (do
      let ov ← eval o X.env
      standAt apos.atName
      let (f, first) ← holding [ov] (getMethod ov m pl)
      callWith pos f first (backTo pos (starEach (e :: es) X.env)) (backToKw pos (keywordEach [] X.env))) := by rfl) :
    PE X (.Call (.Attribute o m apos) (e :: es) [] pos) (tMeth C m sp dvs E0 ta t) := by
  constructor
  intro pins s σ H Q I h
  apply PySem.W.methodCall_KW (pl := pl) (thn (he.run pins s σ H _ I h) ?_) ht
  rintro u s1 ⟨x, H1, I1, rx, a, dx, fs, ex, ea, l, q⟩
  subst ex
  cases (show u = Value.ref a from rx)
  apply getmeth_ok I1 ea c hm l
  apply PySem.W.callWith_K (first := [.ref a]) (h₀ := X.base) I.ok.mod.kin hm.kp (thn (ha.run pos pins s1 σ H1 _ I1 q) ?_) hst hpl
  rintro us s2 ⟨vs, H2, I2, r, q2⟩
  exact ⟨I2.kIn, runG (us := .ref a :: us) (vs := .ref a :: vs) F G hb hd I2 (.cons rfl r) q2⟩
theorem pe_methG0 {pl : Sem Bool} (he : PE X o ta) (c : Cls X.K C) (hm : Meth X.K C m f) (F : FnG X.prog X.w X.K X.mg X.base k f fd ps sp) (G : Good k X) (hb : Binds X.K fd ps ds) (hd : Vals dvs ds)
    (ht : eval (.Call (.Attribute o m apos) [] [] pos) X.env = (do
      let ov ← eval o X.env
      standAt apos.atName
      let (f, first) ← holding [ov] (getMethod ov m pl)
      callWith pos f first (backTo pos (starEach [] X.env)) (backToKw pos (keywordEach [] X.env))) := by rfl) :
    PE X (.Call (.Attribute o m apos) [] [] pos) (tMeth C m sp dvs E0 ta tNil) := by
  constructor
  intro pins s σ H Q I h
  apply PySem.W.methodCall_KW (pl := pl) (thn (he.run pins s σ H _ I h) ?_) ht
  rintro u s1 ⟨x, H1, I1, rx, a, dx, fs, ex, ea, l, q⟩
  subst ex
  cases (show u = Value.ref a from rx)
  apply getmeth_ok I1 ea c hm l
  exact PySem.W.callWith_K0 (first := [.ref a]) I1.kIn hm.kp (runG (us := [.ref a]) (vs := [.ref a]) F G hb hd I1 (.cons rfl .nil) q)
theorem run_makeG {pins : List (Addr × Obj)} {σ : L2.St} {H : Hp} {s : Shared} {Q : VK} {us : List Value} {vs : List V} (M : Mk X.K C f) (F : FnG X.prog X.w X.K X.mg X.base k f fd ps sp) (G : Good (k + 1) X) (hb : Binds X.K fd ps ds) (hd : Vals dvs ds)
    (I : Inv X pins σ H s) (r : Vals vs us) (h : ∀ x dx, H x = none → H dx = none → dx ≠ x → sp (.ref x :: (vs ++ dvs)) (upd (upd H dx (.own x)) x (.ins C dx [])) (fun v H2 => v = .non ∧ Q (.ref x) H2) E0) :
    wpAny (model X.prog X.w) X.A (call (.ref C) us) (EP X pins σ Q) X.xe s := by
  have new := h (s.heap.objs.size + 1) s.heap.objs.size (I.hok.fresh (Nat.le_succ _)) (I.hok.fresh (Nat.le_refl _)) (Nat.ne_of_lt (Nat.lt_succ_self _))
  have J := Inv.made (C := C) I
  have r2 : Vals (V.ref (s.heap.objs.size + 1) :: (vs ++ dvs)) (Value.ref (s.heap.objs.size + 1) :: (us ++ ds)) := .cons rfl (Vals.append r hd)
  have el : (Value.ref (s.heap.objs.size + 1) :: us ++ ds).length = ps.length := r2.length.symm.trans (F.len _ _ _ new)
  have gs : (X.A.under (.builtin "type.__call__" ⟨.ref C :: us, []⟩)).guards = some [] := by
    have := G.g
    first | exact this | (simp [Around.under, Code.guards, Code.isGuard, pushGuards, this])
  apply wpAny_call
  apply make_map (f := f) I.kIn M.makes M.init (beq_iff_eq.mp M.fn)
  apply codeAny_mono (F.go _ X.stack _ _ ⟨Value.ref (s.heap.objs.size + 1) :: us, []⟩ (Value.ref (s.heap.objs.size + 1) :: (us ++ ds)) _ _ (G.room.make C us []) gs (J.env0.make C us []) (hb _ (Value.ref (s.heap.objs.size + 1) :: us) J.kIn el) r2 new)
  intro res s' hq
  match res, hq with
  | .error e, hq => exact False.elim hq
  | .ok (.ret u), hq =>
    obtain ⟨v, H', I3, rv, ev, q3⟩ := J.after hq
    subst ev
    exact ⟨rv, ⟨V.ref (s.heap.objs.size + 1), H', I3, rfl, q3⟩⟩
  | .ok .next, hq => exact False.elim hq
  | .ok .brk, hq => exact False.elim hq
  | .ok .cont, hq => exact False.elim hq
theorem pe_makeG (M : Mk X.K C f) (F : FnG X.prog X.w X.K X.mg X.base k f fd ps sp) (G : Good (k + 1) X) (hg : Gl X x) (hm : X.mg x = some (.ref C)) (hb : Binds X.K fd ps ds) (hd : Vals dvs ds)
    (ha : PA X (e :: es) t) (hdb : (x == ("__debug__" : Str)) = false := by decide) (he : starEach (e :: es) X.env = (false, eval e X.env) :: starEach es X.env := by rfl) (hpl : (backTo pos (starEach es X.env)).any (·.1) = false := by rfl) :
    PE X (.Call (.Name x p) (e :: es) [] pos) (tMake C sp dvs E0 t) := by
  constructor
  intro pins s σ H Q I h
  apply wpAny_Call_Name_kw (ld_glob I hg hm ?_ hdb)
  apply PySem.W.callWith_K (h₀ := X.base) I.ok.mod.kin M.kp (thn (ha.run pos pins s σ H _ I h) ?_) he hpl
  rintro us s1 ⟨vs, H1, I1, r, q⟩
  exact ⟨I1.kIn, run_makeG M F G hb hd I1 r q⟩
end
end DL

set_option Elab.async false
set_option linter.all false
set_option maxRecDepth 100000
set_option maxHeartbeats 1000000
namespace DL
open PySem PySem.Spec PyProof.Rows L2
/-! readings by data -/
abbrev TD := DEnv → (D → DEnv → Prop) → Prop
abbrev TDT := DEnv → (Bool → DEnv → Prop) → Prop
abbrev TDL := DEnv → (List D → DEnv → Prop) → Prop
structure DEnds where
  nx : DEnv → Prop
  rt : D → DEnv → Prop
  bk : DEnv → Prop := fun _ => False
  ct : DEnv → Prop := fun _ => False
abbrev TDS := DEnds → DEnv → Prop
/-- a value that may be one of our own lists, looked at only -/
inductive RepO (K : PySem.W.Frag) (W : Wd) (H : Hp) : V → D → Prop
  | rep {v : V} {d : D} : Rep K W v d → RepO K W H v d
  | lst {a : Addr} {xs : List V} {ds : List D} : H a = some (.lst xs) → ¬ W.Pi a → RepAll K W xs ds → RepO K W H (.ref a) (.lst ds)
  | dK {a : Addr} {kvs : List (Key × V)} {ks : List Key} {ds : List D} : H a = some (.dK kvs) → ¬ W.Pi a → kvs.map (·.1) = ks → RepAll K W (kvs.map (·.2)) ds → RepO K W H (.ref a) (.dK ks ds)
  | dT {a : Addr} {kvs : List (List Key × V)} {ks : List (List Key)} {ds : List D} : H a = some (.dT kvs) → ¬ W.Pi a → kvs.map (·.1) = ks → RepAll K W (kvs.map (·.2)) ds → RepO K W H (.ref a) (.dT ks ds)
  | ob {a C dx : Addr} {fs : List (Str × V)} {ns : List Str} {ds : List D} : H a = some (.ins C dx fs) → ¬ W.Pi a → fs.map (·.1) = ns → RepAll K W (fs.map (·.2)) ds → RepO K W H (.ref a) (.obj C ns ds)
section
variable {K : PySem.W.Frag} {b : Base} {W W' : Wd} {H H' : Hp}
theorem OkW.nP (k : OkW W H) {a : Addr} {o : HO} (h : W.G a = some o) : ¬ W.Pi a := fun z => by rw [(k.pur a z).2] at h; cases h
theorem RepO.to {v : V} {d : D} (e : Evo b W H W' H') (h : RepO K W H v d) : RepO K W' H' v d := by
  have ns : ∀ {a : Addr} {o : HO}, H a = some o → H a ≠ none := fun h z => by rw [h] at z; cases z
  cases h with
  | rep r => exact .rep (r.mono e.le)
  | lst h p r => exact .lst (e.keep _ _ h p) (e.newP _ (ns h) p) (r.mono e.le)
  | dK h p n r => exact .dK (e.keep _ _ h p) (e.newP _ (ns h) p) n (r.mono e.le)
  | dT h p n r => exact .dT (e.keep _ _ h p) (e.newP _ (ns h) p) n (r.mono e.le)
  | ob h p n r => exact .ob (e.keep _ _ h p) (e.newP _ (ns h) p) n (r.mono e.le)
theorem RepO.lstI {v : V} {ds : List D} (k : OkW W H) (h : RepO K W H v (.lst ds)) : ∃ a xs, v = .ref a ∧ H a = some (.lst xs) ∧ ¬ W.Pi a ∧ RepAll K W xs ds := by
  cases h with
  | rep r => cases r with | lst h r => exact ⟨_, _, rfl, k.sub _ _ h, k.nP h, r⟩
  | lst h p r => exact ⟨_, _, rfl, h, p, r⟩
theorem RepO.dKI {v : V} {ks : List Key} {ds : List D} (k : OkW W H) (h : RepO K W H v (.dK ks ds)) : ∃ a kvs, v = .ref a ∧ H a = some (.dK kvs) ∧ ¬ W.Pi a ∧ kvs.map (·.1) = ks ∧ RepAll K W (kvs.map (·.2)) ds := by
  cases h with
  | rep r => cases r with | dK h n r => exact ⟨_, _, rfl, k.sub _ _ h, k.nP h, n, r⟩
  | dK h p n r => exact ⟨_, _, rfl, h, p, n, r⟩
theorem RepO.dTI {v : V} {ks : List (List Key)} {ds : List D} (k : OkW W H) (h : RepO K W H v (.dT ks ds)) : ∃ a kvs, v = .ref a ∧ H a = some (.dT kvs) ∧ ¬ W.Pi a ∧ kvs.map (·.1) = ks ∧ RepAll K W (kvs.map (·.2)) ds := by
  cases h with
  | rep r => cases r with | dT h n r => exact ⟨_, _, rfl, k.sub _ _ h, k.nP h, n, r⟩
  | dT h p n r => exact ⟨_, _, rfl, h, p, n, r⟩
theorem RepO.obI {v : V} {C : Addr} {ns : List Str} {ds : List D} (k : OkW W H) (h : RepO K W H v (.obj C ns ds)) : ∃ a dx fs, v = .ref a ∧ H a = some (.ins C dx fs) ∧ ¬ W.Pi a ∧ fs.map (·.1) = ns ∧ RepAll K W (fs.map (·.2)) ds := by
  cases h with
  | rep r => cases r with | obj h n r => exact ⟨_, _, _, rfl, k.sub _ _ h, k.nP h, n, r⟩
  | ob h p n r => exact ⟨_, _, _, rfl, h, p, n, r⟩
theorem RepO.intI {v : V} {i : Int} (h : RepO K W H v (.int i)) : v = .int i := by
  cases h with | rep r => cases r; rfl
theorem RepO.strI {v : V} {x : Str} (h : RepO K W H v (.str x)) : v = .str x := by
  cases h with | rep r => cases r; rfl
theorem RepO.blI {v : V} {x : Bool} (h : RepO K W H v (.bl x)) : v = .bl x := by
  cases h with | rep r => cases r; rfl
theorem RepO.nonI {v : V} (h : RepO K W H v .non) : v = .non := by
  cases h with | rep r => cases r; rfl
theorem RepO.tupI {v : V} {ds : List D} (k : OkW W H) (h : RepO K W H v (.tup ds)) : ∃ a xs, v = .ref a ∧ H a = some (.tup xs) ∧ RepAll K W xs ds := by
  cases h with | rep r => cases r with | tup h r => exact ⟨_, _, rfl, k.sub _ _ h, r⟩
theorem RepO.scrI {v : V} {ns : List Int} (h : RepO K W H v (.scr ns)) : ∃ a, v = .ref a ∧ SqL K W.G a (ns.map V.int) := by
  cases h with | rep r => cases r with | scr h => exact ⟨_, rfl, h⟩
end
/-- what a value is known to be: frozen data; looked-at data -/
abbrev RelF (α : Type) := Wd → Hp → V → α → Prop
/-- the canonical reading -/
def cR {α : Type} (K : PySem.W.Frag) (R : RelF α) (T : DEnv → (α → DEnv → Prop) → Prop) : TE := fun σ H Q => ∃ (b : Base) (W : Wd) (ρ : DEnv) (Qd : α → DEnv → Prop), St K b W H σ ρ ∧ T ρ Qd ∧
  ∀ v a ρ' W' H', St K b W' H' σ ρ' → Evo b W H W' H' → R W' H' v a → Qd a ρ' → Q v H'
abbrev cE (K : PySem.W.Frag) (T : TD) : TE := cR K (fun W _ v d => Rep K W v d) T
abbrev cB (K : PySem.W.Frag) (T : TD) : TE := cR K (fun W H v d => RepO K W H v d) T
def cT (K : PySem.W.Frag) (T : TDT) : TT := fun σ H Q => ∃ (b : Base) (W : Wd) (ρ : DEnv) (Qd : Bool → DEnv → Prop), St K b W H σ ρ ∧ T ρ Qd ∧
  ∀ c ρ' W' H', St K b W' H' σ ρ' → Evo b W H W' H' → Qd c ρ' → Q c H'
def cA (K : PySem.W.Frag) (T : TDL) : TA := fun σ H Q => ∃ (b : Base) (W : Wd) (ρ : DEnv) (Qd : List D → DEnv → Prop), St K b W H σ ρ ∧ T ρ Qd ∧
  ∀ vs ds ρ' W' H', St K b W' H' σ ρ' → Evo b W H W' H' → RepAll K W' vs ds → Qd ds ρ' → Q vs H'
/-- arguments that are looked at only -/
inductive RepOs (K : PySem.W.Frag) (W : Wd) (H : Hp) : List V → List D → Prop
  | nil : RepOs K W H [] []
  | cons {v : V} {vs : List V} {d : D} {ds : List D} : RepO K W H v d → RepOs K W H vs ds → RepOs K W H (v :: vs) (d :: ds)
def cAB (K : PySem.W.Frag) (T : TDL) : TA := fun σ H Q => ∃ (b : Base) (W : Wd) (ρ : DEnv) (Qd : List D → DEnv → Prop), St K b W H σ ρ ∧ T ρ Qd ∧
  ∀ vs ds ρ' W' H', St K b W' H' σ ρ' → Evo b W H W' H' → RepOs K W' H' vs ds → Qd ds ρ' → Q vs H'
/-- a new list, not yet frozen -/
def cN (K : PySem.W.Frag) (T : TDL) : TE := fun σ H Q => ∃ (b : Base) (W : Wd) (ρ : DEnv) (Qd : List D → DEnv → Prop), St K b W H σ ρ ∧ T ρ Qd ∧
  ∀ p xs ds ρ' W' H', St K (b.but p) W' H' σ ρ' → Evo b W H W' H' → Own b W' H' p → H' p = some (.lst xs) → RepAll K W' xs ds → Qd ds ρ' → Q (.ref p) H'
structure Link (K : PySem.W.Frag) (b : Base) (D : Ends) (DD : DEnds) : Prop where
  nx : ∀ W H σ ρ, St K b W H σ ρ → DD.nx ρ → D.nx σ H
  rt : ∀ v d W H σ ρ, St K b W H σ ρ → Rep K W v d → DD.rt d ρ → D.rt v H
  bk : ∀ W H σ ρ, St K b W H σ ρ → DD.bk ρ → D.bk σ H
  ct : ∀ W H σ ρ, St K b W H σ ρ → DD.ct ρ → D.ct σ H
def cS (K : PySem.W.Frag) (T : TDS) : TS := fun D σ H => ∃ (b : Base) (W : Wd) (ρ : DEnv) (DD : DEnds), St K b W H σ ρ ∧ T DD ρ ∧ Link K b D DD
/-! weakening -/
section
variable {X : Cx} {e : Expr}
theorem peTo {t t' : TE} (h : PE X e t) (f : ∀ σ H Q, t' σ H Q → t σ H Q) : PE X e t' := ⟨fun pins s σ H Q I q => h.run pins s σ H Q I (f σ H Q q)⟩
theorem ptTo {t t' : TT} (h : PT X e t) (f : ∀ σ H Q, t' σ H Q → t σ H Q) : PT X e t' := ⟨fun pins s σ H Q I q => h.run pins s σ H Q I (f σ H Q q)⟩
theorem paTo {es : List Expr} {t t' : TA} (h : PA X es t) (f : ∀ σ H Q, t' σ H Q → t σ H Q) : PA X es t' := ⟨fun pos pins s σ H Q I q => h.run pos pins s σ H Q I (f σ H Q q)⟩
theorem psTo {st : Stmt} {t t' : TS} (h : PS X st t) (f : ∀ D σ H, t' D σ H → t D σ H) : PS X st t' := ⟨fun pins s σ H D I q => h.run pins s σ H D I (f D σ H q)⟩
theorem pssTo {st : List Stmt} {t t' : TS} (h : PSs X st t) (f : ∀ D σ H, t' D σ H → t D σ H) : PSs X st t' := ⟨fun pins s σ H D I q => h.run pins s σ H D I (f D σ H q)⟩
end
section
variable {K : PySem.W.Frag} {b : Base} {W W' : Wd} {H H' : Hp} {σ : L2.St} {ρ : DEnv}
/-- reading the first of two -/
theorem cR.then {α : Type} {R : RelF α} {T : DEnv → (α → DEnv → Prop) → Prop} {Z : V → Hp → Prop} (Qd : α → DEnv → Prop) (s : St K b W H σ ρ) (h : T ρ Qd)
    (k : ∀ v a ρ' W' H', St K b W' H' σ ρ' → Evo b W H W' H' → R W' H' v a → Qd a ρ' → Z v H') : cR K R T σ H Z := ⟨b, W, ρ, Qd, s, h, k⟩
/-- a free new object is frozen -/
theorem St.fzNew {p : Addr} {o : HO} (s : St K (b.but p) W H σ ρ) (w : Own b W H p) (h : H p = some o) : St K b (W.fz p o) H σ ρ := by
  obtain ⟨gr, len, ⟨fp, h1, nd, dj, ow⟩, bud, avs⟩ := s
  refine ⟨Grow.fzOwn (b := b) gr w h, len, ⟨fp, fun i x e => ?_, nd, dj, fun i a m => ?_⟩, bud, fun a v => avs a (.inl v)⟩
  · obtain ⟨ov, e1, e2⟩ := h1 i x e
    exact ⟨ov, e1, e2.to (.fz w.nG) fun _ _ _ h => h⟩
  · obtain ⟨q1, q2, q3, q4, q5⟩ := ow i a m
    exact ⟨q1, q2, (by show upd W.G p o a = none; rw [upd_ne (fun z => q5 (.inr z))]; exact q3), q4, fun z => q5 (.inl z)⟩
theorem Evo.fz {p : Addr} {o : HO} (e : Evo b W H W' H') (nG : W'.G p = none) (nav : ¬ b.av p) : Evo b W H (W'.fz p o) H' :=
  by
  refine ⟨e.le.tr (.fz nG), e.keep, e.stay, fun a v h g => ?_, e.newP⟩
  show upd W'.G p o a = none
  rw [upd_ne (fun z => nav (by rw [← z]; exact v))]; exact e.avG a v h g
/-- a new object, not yet frozen -/
theorem St.new {p : Addr} {o : HO} (s : St K b W H σ ρ) (h : H p = none) : St K (b.but p) W (upd H p o) σ ρ ∧ Evo b W H W (upd H p o) ∧ Own b W (upd H p o) p := by
  have g := Grow.alloc (o := o) s.ok h
  obtain ⟨gr, len, ⟨fp, h1, nd, dj, ow⟩, bud, avs⟩ := s
  refine ⟨⟨gr.tr g, len, ⟨fp, fun i sl e => ?_, nd, dj, fun i a m => ?_⟩, bud, fun a v => ?_⟩, g.evo, ⟨(by rw [upd_same]; exact fun z => nomatch z), gr.back h, gr.ok.sub.none h, fun z => gr.ok.thr z h, fun z => avs p z h⟩⟩
  · obtain ⟨ov, e1, e2⟩ := h1 i sl e
    exact ⟨ov, e1, e2.to g.le fun a m u q => g.keep a u q (ow i a m).nP⟩
  · obtain ⟨q1, q2, q3, q4, q5⟩ := ow i a m
    exact ⟨g.stay q1, q2, q3, q4, fun z => z.elim q5 fun e => q1 (by rw [e]; exact h)⟩
  · rcases v with v | v
    · exact g.stay (avs a v)
    · rw [v, upd_same]; exact fun z => nomatch z
end
end DL

set_option Elab.async false
set_option linter.all false
set_option maxRecDepth 100000
set_option maxHeartbeats 1000000
namespace DL
open PySem PySem.Spec PyProof.Rows L2
section
variable {K : PySem.W.Frag} {b : Base} {W W' : Wd} {H H' : Hp} {σ : L2.St} {ρ : DEnv}
/-! names, constants -/
def Sl.toD : Sl → Option D
  | .no => none
  | .fz d => some d
  | .ow ds => some (.lst ds)
  | .owK ks ds => some (.dK ks ds)
  | .owT ks ds => some (.dT ks ds)
  | .ob C ns ds => some (.obj C ns ds)
  | .ow2 dss => some (.lst (dss.map .lst))
  | .owT2 ks dss => some (.dT ks (dss.map .lst))
  | .owK2 ks dss => some (.dK ks (dss.map .lst))
def dVar (i : Nat) : TD := fun ρ Q => ∃ d, (ρ.sl[i]?).bind Sl.toD = some d ∧ Q d (ρ.set i (.fz d))
def dC (d : D) : TD := fun ρ Q => Q d ρ
/-- scalars by value -/
def scV : D → Option V
  | .non => some .non
  | .bl b => some (.bl b)
  | .int i => some (.int i)
  | .str x => some (.str x)
  | _ => none
theorem rep_sc {v : V} {d : D} (h : scV d = some v) : Rep K W v d := by
  cases d <;> simp [scV] at h <;> subst h <;> constructor
/-- freezing many objects of ours at once -/
theorem St.fzAll (s : St K b W H σ ρ) (i : Nat) {f : Addr → Option HO} (d : D) (v : V) (hσ : σ[i]? = some (some v)) {fp : Nat → List Addr}
    (h1 : ∀ j x, ρ.sl[j]? = some x → ∃ ov, σ[j]? = some ov ∧ SlOk K W H ov (fp j) x) (ft : Foot b W H fp)
    (hf : ∀ a o, f a = some o → a ∈ fp i ∧ H a = some o) (hr : ∀ W', WLe W W' → (∀ a o, f a = some o → W'.G a = some o) → Rep K W' v d) :
    ∃ W', St K b W' H σ (ρ.set i (.fz d)) ∧ Evo b W H W' H ∧ Rep K W' v d := by
  obtain ⟨nd, dj, ow⟩ := id ft
  let G' : Hp := fun a => match f a with
    | some o => some o
    | none => W.G a
  have gN : ∀ a, f a = none → G' a = W.G a := fun a h => by show (match f a with | some o => some o | none => W.G a) = _; rw [h]
  have gS : ∀ a o, f a = some o → G' a = some o := fun a o h => by show (match f a with | some o => some o | none => W.G a) = _; rw [h]
  have fN : ∀ a, a ∉ fp i → f a = none := fun a h => by
    cases q : f a with
    | none => rfl
    | some o => exact absurd (hf a o q).1 h
  have le : WLe W ⟨G', W.Pi, W.bud⟩ := by
    refine ⟨fun a o h => ?_, fun _ x => x⟩
    show G' a = some o
    cases q : f a with
    | none => rw [gN a q]; exact h
    | some u => rw [(ow i a (hf a u q).1).nG] at h; cases h
  have ok : OkW ⟨G', W.Pi, W.bud⟩ H := by
    refine ⟨fun a o h => ?_, fun l hl => ?_⟩
    · replace h : G' a = some o := h
      cases q : f a with
      | none => exact s.ok.sub a o (by rw [← gN a q]; exact h)
      | some u => rw [gS a u q] at h; cases h; exact (hf a _ q).2
    · obtain ⟨p1, p2⟩ := s.ok.pur l hl
      refine ⟨p1, ?_⟩
      show G' l = none
      cases q : f l with
      | none => rw [gN l q]; exact p2
      | some u => exact absurd hl (ow i l (hf l u q).1).nP
  have gr : Grow b.W0 b.H0 ⟨G', W.Pi, W.bud⟩ H := by
    refine ⟨s.gr.le.tr le, ok, s.gr.keep, fun a n h0 => ?_, s.gr.newP⟩
    show G' a = none
    cases q : f a with
    | none => rw [gN a q]; exact s.gr.newG a n h0
    | some u => exact absurd (ow i a (hf a u q).1).new n
  have rp := hr ⟨G', W.Pi, W.bud⟩ le gS
  refine ⟨⟨G', W.Pi, W.bud⟩, ?_, ⟨le, fun _ _ h _ => h, fun _ h => h, fun a v h g => ?_, fun _ _ h => h⟩, rp⟩
  · have st := s.setX (b' := b) (W' := ⟨G', W.Pi, W.bud⟩) (H' := H) h1 ft i (ov := some v) (sl := .fz d) (f := []) gr le (Nat.le_refl _) s.avs ⟨v, rfl, rp⟩ List.nodup_nil (fun a m => nomatch m) ?_
    · rw [set_self hσ] at st; exact st
    · intro j a n m
      obtain ⟨q1, q2, q3, q4, q5⟩ := ow j a m
      refine ⟨(fun z => nomatch z), ⟨q1, q2, ?_, q4, q5⟩, fun _ h => h⟩
      show G' a = none
      rw [gN a (fN a (dj j i a n m))]; exact q3
  · show G' a = none
    cases q : f a with
    | none => rw [gN a q]; exact g
    | some u => exact absurd v (ow i a (hf a u q).1).nav
/-- the parts of a nest, told by addresses -/
def nestF (H : Hp) (l : Addr) (ps : List Addr) (a : Addr) : Option HO := if a = l ∨ a ∈ ps then H a else none
theorem nestF_in {l : Addr} {ps fp : List Addr} (ef : fp = l :: ps) : ∀ a o, nestF H l ps a = some o → a ∈ fp ∧ H a = some o := by
  intro a o q
  unfold nestF at q
  by_cases z : a = l ∨ a ∈ ps
  · rw [if_pos z] at q
    refine ⟨?_, q⟩
    rw [ef]; simpa using z
  · rw [if_neg z] at q; cases q
theorem oneF_in {l : Addr} {u : HO} {fp : List Addr} (ef : fp = [l]) (h : H l = some u) : ∀ a o, (if a = l then some u else none) = some o → a ∈ fp ∧ H a = some o := fun a o q => by
  by_cases z : a = l
  · rw [if_pos z] at q; cases q; exact ⟨by rw [ef, z]; simp, by rw [z]; exact h⟩
  · rw [if_neg z] at q; cases q
theorem nestF_l {l : Addr} {ps : List Addr} {u : HO} (h : H l = some u) : nestF H l ps l = some u := by unfold nestF; rw [if_pos (.inl rfl)]; exact h
theorem nestF_p {l : Addr} {ps : List Addr} {a : Addr} {o : HO} (m : a ∈ ps) (h : H a = some o) : nestF H l ps a = some o := by unfold nestF; rw [if_pos (.inr m)]; exact h
theorem Owns.rep {ps : List Addr} {dss : List (List D)} (h : Owns K W H ps dss) (e : WLe W W') (k : ∀ a ∈ ps, ∀ o, H a = some o → W'.G a = some o) : RepAll K W' (ps.map V.ref) (dss.map .lst) := by
  induction h with
  | nil => exact .nil
  | cons a r _ ih => exact .cons (.lst (k _ (by simp) _ a) (r.mono e)) (ih fun q hq => k q (by simp [hq]))
/-- a name's value, whatever its slot: it is frozen -/
theorem St.read (s : St K b W H σ ρ) {i : Nat} {d : D} (h : (ρ.sl[i]?).bind Sl.toD = some d) : ∃ v W', σ[i]? = some (some v) ∧ St K b W' H σ (ρ.set i (.fz d)) ∧ Evo b W H W' H ∧ Rep K W' v d := by
  obtain ⟨fp, h1, ft⟩ := s.sim
  cases e : ρ.sl[i]? with
  | none => rw [e] at h; cases h
  | some sl =>
    rw [e] at h
    obtain ⟨ov, e1, e2⟩ := h1 i sl e
    have fin : ∀ {v : V}, ov = some v → (∃ W', St K b W' H σ (ρ.set i (.fz d)) ∧ Evo b W H W' H ∧ Rep K W' v d) → ∃ v W', σ[i]? = some (some v) ∧ St K b W' H σ (ρ.set i (.fz d)) ∧ Evo b W H W' H ∧ Rep K W' v d := fun {v} q ⟨W', z⟩ => ⟨v, W', by rw [e1, q], z⟩
    cases sl with
    | no => cases h
    | fz d' =>
      cases h
      obtain ⟨v, rfl, r⟩ := e2
      refine ⟨v, W, e1, ?_, .rfl', r⟩
      show St K b W H σ ⟨ρ.sl.set i (.fz d), ρ.bud⟩
      rw [set_self e]; exact s
    | ow ds =>
      cases h
      obtain ⟨l, xs, rfl, ef, hl, r⟩ := e2
      exact fin rfl (s.fzAll i (f := fun a => if a = l then some (.lst xs) else none) (.lst ds) (.ref l) e1 h1 ft (oneF_in ef hl) fun W' le q => .lst (q l _ (by simp)) (r.mono le))
    | owK ks ds =>
      cases h
      obtain ⟨l, kvs, rfl, ef, hl, n, r⟩ := e2
      exact fin rfl (s.fzAll i (f := fun a => if a = l then some (.dK kvs) else none) (.dK ks ds) (.ref l) e1 h1 ft (oneF_in ef hl) fun W' le q => .dK (q l _ (by simp)) n (r.mono le))
    | owT ks ds =>
      cases h
      obtain ⟨l, kvs, rfl, ef, hl, n, r⟩ := e2
      exact fin rfl (s.fzAll i (f := fun a => if a = l then some (.dT kvs) else none) (.dT ks ds) (.ref l) e1 h1 ft (oneF_in ef hl) fun W' le q => .dT (q l _ (by simp)) n (r.mono le))
    | ob C ns ds =>
      cases h
      obtain ⟨l, dx, fs, rfl, ef, hl, n, r⟩ := e2
      exact fin rfl (s.fzAll i (f := fun a => if a = l then some (.ins C dx fs) else none) (.obj C ns ds) (.ref l) e1 h1 ft (oneF_in ef hl) fun W' le q => .obj (q l (.ins C dx fs) (by simp)) n (r.mono le))
    | ow2 dss =>
      cases h
      obtain ⟨l, ps, rfl, ef, hl, r⟩ := e2
      exact fin rfl (s.fzAll i (f := nestF H l ps) (.lst (dss.map .lst)) (.ref l) e1 h1 ft (nestF_in ef) fun W' le q => .lst (q l _ (nestF_l hl)) (r.rep le fun a m o z => q a o (nestF_p m z)))
    | owT2 ks dss =>
      cases h
      obtain ⟨l, kvs, ps, rfl, ef, hl, n, m, r⟩ := e2
      exact fin rfl (s.fzAll i (f := nestF H l ps) (.dT ks (dss.map .lst)) (.ref l) e1 h1 ft (nestF_in ef) fun W' le q => .dT (q l _ (nestF_l hl)) n (by rw [m]; exact r.rep le fun a m o z => q a o (nestF_p m z)))
    | owK2 ks dss =>
      cases h
      obtain ⟨l, kvs, ps, rfl, ef, hl, n, m, r⟩ := e2
      exact fin rfl (s.fzAll i (f := nestF H l ps) (.dK ks (dss.map .lst)) (.ref l) e1 h1 ft (nestF_in ef) fun W' le q => .dK (q l _ (nestF_l hl)) n (by rw [m]; exact r.rep le fun a m o z => q a o (nestF_p m z)))
/-- a name's value, looked at: our own lists and dicts of one level stay ours -/
def Sl.toP : Sl → Option D
  | .fz d => some d
  | .ow ds => some (.lst ds)
  | .owK ks ds => some (.dK ks ds)
  | .owT ks ds => some (.dT ks ds)
  | .ob C ns ds => some (.obj C ns ds)
  | _ => none
theorem St.peek (s : St K b W H σ ρ) {i : Nat} {d : D} (h : (ρ.sl[i]?).bind Sl.toP = some d) : ∃ v, σ[i]? = some (some v) ∧ RepO K W H v d := by
  obtain ⟨fp, h1, ft⟩ := s.sim
  cases e : ρ.sl[i]? with
  | none => rw [e] at h; cases h
  | some sl =>
    rw [e] at h
    obtain ⟨ov, e1, e2⟩ := h1 i sl e
    have np : ∀ a ∈ fp i, ¬ W.Pi a := fun a m => (ft.own i a m).nP
    cases sl with
    | fz d' => cases h; obtain ⟨v, rfl, r⟩ := e2; exact ⟨v, e1, .rep r⟩
    | ow ds => cases h; obtain ⟨l, xs, rfl, ef, hl, r⟩ := e2; exact ⟨_, e1, .lst hl (np l (by rw [ef]; simp)) r⟩
    | owK ks ds => cases h; obtain ⟨l, kvs, rfl, ef, hl, n, r⟩ := e2; exact ⟨_, e1, .dK hl (np l (by rw [ef]; simp)) n r⟩
    | owT ks ds => cases h; obtain ⟨l, kvs, rfl, ef, hl, n, r⟩ := e2; exact ⟨_, e1, .dT hl (np l (by rw [ef]; simp)) n r⟩
    | ob C ns ds => cases h; obtain ⟨l, dx, fs, rfl, ef, hl, n, r⟩ := e2; exact ⟨_, e1, .ob hl (np l (by rw [ef]; simp)) n r⟩
    | _ => cases h
def dPk (i : Nat) : TD := fun ρ Q => ∃ d, (ρ.sl[i]?).bind Sl.toP = some d ∧ Q d ρ
end
section
variable {X : Cx}
theorem de_var {x : Str} {pos : Pos} (i : Nat) (hN : X.N[i]? = some x := by rfl) (hv : Vis X.env.scope x := by first | exact Or.inl rfl | exact Or.inr (Or.inl rfl) | exact Or.inr (Or.inr rfl)) (hd : (x == ("__debug__" : Str)) = false := by decide)
    (hcd : (x == ("__classdict__" : Str)) = false := by decide) : PE X (.Name x pos) (cE X.K (dVar i)) :=
  peTo (pe_var hN hv hd hcd) fun σ H Q ⟨b, W, ρ, Qd, s, ⟨d, h, q⟩, k⟩ => by
    obtain ⟨v, W', e, s', ev, r⟩ := s.read h
    exact ⟨v, e, k v d _ W' H s' ev r q⟩
theorem db_var {x : Str} {pos : Pos} (i : Nat) (hN : X.N[i]? = some x := by rfl) (hv : Vis X.env.scope x := by first | exact Or.inl rfl | exact Or.inr (Or.inl rfl) | exact Or.inr (Or.inr rfl)) (hd : (x == ("__debug__" : Str)) = false := by decide)
    (hcd : (x == ("__classdict__" : Str)) = false := by decide) : PE X (.Name x pos) (cB X.K (dPk i)) :=
  peTo (pe_var hN hv hd hcd) fun σ H Q ⟨b, W, ρ, Qd, s, ⟨d, h, q⟩, k⟩ => by
    obtain ⟨v, e, r⟩ := s.peek h
    exact ⟨v, e, k v d _ W H s .rfl' r q⟩
theorem de_int {i j pos} : PE X (.Constant (.int i) j pos) (cE X.K (dC (.int i))) := peTo pe_int fun σ H Q ⟨b, W, ρ, Qd, s, h, k⟩ => k _ _ _ W H s .rfl' (.int i) h
theorem de_bl {c j pos} : PE X (.Constant (.bool c) j pos) (cE X.K (dC (.bl c))) := peTo pe_bl fun σ H Q ⟨b, W, ρ, Qd, s, h, k⟩ => k _ _ _ W H s .rfl' (.bl c) h
theorem de_non {j pos} : PE X (.Constant .none j pos) (cE X.K (dC .non)) := peTo pe_non fun σ H Q ⟨b, W, ρ, Qd, s, h, k⟩ => k _ _ _ W H s .rfl' .non h
theorem de_str {x j pos} : PE X (.Constant (.str x) j pos) (cE X.K (dC (.str x))) := peTo pe_str fun σ H Q ⟨b, W, ρ, Qd, s, h, k⟩ => k _ _ _ W H s .rfl' (.str x) h
/-- frozen is looked at -/
theorem db_of {e : Expr} {T : TD} (h : PE X e (cE X.K T)) : PE X e (cB X.K T) := peTo h fun σ H Q ⟨b, W, ρ, Qd, s, h, k⟩ => ⟨b, W, ρ, Qd, s, h, fun v d ρ' W' H' s' ev r q => k v d ρ' W' H' s' ev (.rep r) q⟩
/-- a new list, frozen -/
def dL (T : TDL) : TD := fun ρ Q => T ρ fun ds => Q (.lst ds)
theorem de_new {e : Expr} {T : TDL} (h : PE X e (cN X.K T)) : PE X e (cE X.K (dL T)) := peTo h fun σ H Q ⟨b, W, ρ, Qd, s, h, k⟩ =>
  ⟨b, W, ρ, fun ds => Qd (.lst ds), s, h, fun p xs ds ρ' W' H' s' ev w hp r q => k _ _ ρ' (W'.fz p (.lst xs)) H' (s'.fzNew w hp) (ev.fz w.nG w.nav) (.lst upd_same (r.mono (.fz w.nG))) q⟩
end
end DL

set_option Elab.async false
set_option linter.all false
set_option maxRecDepth 100000
set_option maxHeartbeats 1000000
namespace DL
open PySem PySem.Spec PyProof.Rows L2
/-! plain data among the data -/
mutual
def D.py : D → PyData
  | .bl b => .bool b
  | .int i => .int i
  | .str x => .str x
  | .lst ds => .list (D.pys ds)
  | .tup ds => .tuple (D.pys ds)
  | _ => .none
def D.pys : List D → List PyData
  | [] => []
  | d :: ds => D.py d :: D.pys ds
end
mutual
/-- None, bools, ints, texts, lists and tuples of these, at most n deep -/
def D.pl : D → Bool
  | .non => true
  | .bl _ => true
  | .int _ => true
  | .str x => SeqAt.shaped (.str x)
  | .lst ds => D.pls ds
  | .tup ds => D.pls ds
  | _ => false
def D.pls : List D → Bool
  | [] => true
  | d :: ds => D.pl d && D.pls ds
end
def D.ok (d : D) : Bool := D.pl d && decide ((D.py d).depth ≤ 64)
section
variable {K : PySem.W.Frag} {W : Wd} {H : Hp}
mutual
theorem rep_dp {v : V} {d : D} (k : OkW W H) (h : Rep K W v d) (hp : D.pl d = true) : Dp K H v (D.py d) := by
  cases h with
  | non => exact .non
  | bl b => exact .bl b
  | int i => exact .int i
  | str x => exact .str x
  | lst h r => exact .lst (.inl (.inl (k.sub _ _ h))) (rep_dps k r (by simpa [D.pl] using hp))
  | tup h r => exact .tup (.inl (.inl (k.sub _ _ h))) (rep_dps k r (by simpa [D.pl] using hp))
  | _ => simp [D.pl] at hp
theorem rep_dps {vs : List V} {ds : List D} (k : OkW W H) (h : RepAll K W vs ds) (hp : D.pls ds = true) : DpAll K H vs (D.pys ds) := by
  cases h with
  | nil => exact .nil
  | cons h r =>
    simp only [D.pls, Bool.and_eq_true] at hp
    exact .cons (rep_dp k h hp.1) (rep_dps k r hp.2)
end
theorem repo_dp {v : V} {d : D} (k : OkW W H) (h : RepO K W H v d) (hp : D.pl d = true) : Dp K H v (D.py d) := by
  cases h with
  | rep r => exact rep_dp k r hp
  | lst h _ r => exact .lst (.inl (.inl h)) (rep_dps k r (by simpa [D.pl] using hp))
  | _ => simp [D.pl] at hp
mutual
theorem pl_lay : ∀ d : D, D.pl d = true → (D.py d).canLay0 = true
  | .non, _ => rfl
  | .bl _, _ => rfl
  | .int _, _ => rfl
  | .str x, h => SeqAt.canLay_of_shaped h
  | .lst ds, h => by simp only [D.py, PyData.canLay0]; exact pls_lay ds (by simpa [D.pl] using h)
  | .tup ds, h => by simp only [D.py, PyData.canLay0]; exact pls_lay ds (by simpa [D.pl] using h)
  | .pur, h => by simp [D.pl] at h
  | .scr _, h => by simp [D.pl] at h
  | .dK _ _, h => by simp [D.pl] at h
  | .dT _ _, h => by simp [D.pl] at h
  | .obj _ _ _, h => by simp [D.pl] at h
theorem pls_lay : ∀ ds : List D, D.pls ds = true → PyData.canLayAll0 (D.pys ds) = true
  | [], _ => rfl
  | d :: ds, h => by
    simp only [D.pls, Bool.and_eq_true] at h
    simp only [D.pys, PyData.canLayAll0, pl_lay d h.1, pls_lay ds h.2, Bool.and_self]
end
theorem ok_shaped {d : D} (h : D.ok d = true) : SeqAt.shaped (D.py d) = true := by
  simp only [D.ok, Bool.and_eq_true] at h
  unfold SeqAt.shaped
  rw [pl_lay d h.1, h.2]; rfl
theorem ok_pl {d : D} (h : D.ok d = true) : D.pl d = true := (Bool.and_eq_true_iff.mp h).1
end
/-! two operands -/
section
variable {K : PySem.W.Frag} {b : Base} {W : Wd} {H : Hp} {σ : L2.St} {ρ : DEnv}
theorem bin2 {ta tb : TD} {R : D → D → DEnv → Prop} {Z : V → V → Hp → Prop} (s : St K b W H σ ρ) (h : ta ρ fun d ρ1 => tb ρ1 fun e ρ2 => R d e ρ2)
    (k : ∀ x y d e ρ2 W2 H2, St K b W2 H2 σ ρ2 → Evo b W H W2 H2 → RepO K W2 H2 x d → RepO K W2 H2 y e → R d e ρ2 → Z x y H2) : cB K ta σ H fun x H1 => cB K tb σ H1 fun y H2 => Z x y H2 :=
  ⟨b, W, ρ, _, s, h, fun x d ρ1 W1 H1 s1 e1 r1 q1 => ⟨b, W1, ρ1, _, s1, q1, fun y e ρ2 W2 H2 s2 e2 r2 q2 => k x y d e ρ2 W2 H2 s2 (e1.tr e2) (r1.to e2) r2 q2⟩⟩
/-- a new list at p, frozen -/
theorem finL {p : Addr} {xs : List V} {ds : List D} (s : St K b W H σ ρ) (hp : H p = none) (r : RepAll K W xs ds) :
    ∃ W', St K b W' (upd H p (.lst xs)) σ ρ ∧ Evo b W H W' (upd H p (.lst xs)) ∧ Rep K W' (.ref p) (.lst ds) := by
  obtain ⟨s1, e1, w⟩ := s.new (o := .lst xs) hp
  exact ⟨W.fz p (.lst xs), s1.fzNew w upd_same, e1.fz w.nG w.nav, .lst upd_same (r.mono (.fz w.nG))⟩
theorem finT {p : Addr} {xs : List V} {ds : List D} (s : St K b W H σ ρ) (hp : H p = none) (r : RepAll K W xs ds) :
    ∃ W', St K b W' (upd H p (.tup xs)) σ ρ ∧ Evo b W H W' (upd H p (.tup xs)) ∧ Rep K W' (.ref p) (.tup ds) := by
  obtain ⟨s1, e1, w⟩ := s.new (o := .tup xs) hp
  exact ⟨W.fz p (.tup xs), s1.fzNew w upd_same, e1.fz w.nG w.nav, .tup upd_same (r.mono (.fz w.nG))⟩
end
/-! operators on data -/
abbrev D2 := D → D → (D → Prop) → Prop
def dOp2 (f : D2) (ta tb : TD) : TD := fun ρ Q => ta ρ fun d ρ1 => tb ρ1 fun e ρ2 => f d e fun r => Q r ρ2
def addD : D2
  | .int i, .int j, Q => Q (.int (i + j))
  | .str x, .str y, Q => x.length + y.length ≤ sizeLine ∧ Q (.str (x ++ y))
  | .lst a, .lst c, Q => a.length + c.length ≤ sizeLine ∧ Q (.lst (a ++ c))
  | _, _, _ => False
def subD : D2
  | .int i, .int j, Q => Q (.int (i - j))
  | _, _, _ => False
def mulD : D2
  | .int i, .int j, Q => ((-(2 ^ 64) < i ∧ i < 2 ^ 64) ∨ (-(2 ^ 64) < j ∧ j < 2 ^ 64)) ∧ Q (.int (i * j))
  | _, _, _ => False
def modD : D2
  | .int i, .int j, Q => 0 < j ∧ Q (.int (i % j))
  | _, _, _ => False
def fdivD : D2
  | .int i, .int j, Q => (0 < j ∧ j < 1073741824) ∧ Q (.int (i / j))
  | _, _, _ => False
def cmpD (p : Int → Int → Bool) : D2
  | .int i, .int j, Q => Q (.bl (p i j))
  | _, _, _ => False
def eqD : D2 := fun d e Q => (D.ok d = true ∧ D.ok e = true) ∧ Q (.bl (PyData.eqv d.py e.py))
def neD : D2 := fun d e Q => (D.ok d = true ∧ D.ok e = true) ∧ Q (.bl (!PyData.eqv d.py e.py))
section
variable {X : Cx} {a c : Expr} {ta tb : TD} {pos : Pos}
def rAdd3 : R2 := fun x y H Q => (rI0 (fun i j => .int (i + j))) x y H Q ∨ (∃ i j, x = .str i ∧ y = .str j ∧ i.length + j.length ≤ sizeLine ∧ Q (.str (i ++ j)) H) ∨ rCat x y H Q
theorem op_add3 : OpR X (binaryOp .Add) rAdd3 := by
  intro pins s σ H x y v u Q I rx ry h
  rcases h with h | h | h
  · exact op_add pins s σ H x y v u Q I rx ry h
  · exact op_add_str pins s σ H x y v u Q I rx ry h
  · exact op_cat pins s σ H x y v u Q I rx ry h
theorem de_add (ha : PE X a (cB X.K ta)) (hb : PE X c (cB X.K tb)) : PE X (.BinOp a .Add c pos) (cE X.K (dOp2 addD ta tb)) :=
  peTo (pe_op op_add3 ha hb) fun σ H Q ⟨b, W, ρ, Qd, s, h, k⟩ => bin2 s h fun x y d e ρ2 W2 H2 s2 ev r1 r2 q => by
    match d, e, q with
    | .int i, .int j, q => cases r1.intI; cases r2.intI; exact .inl ⟨i, j, rfl, rfl, k _ _ ρ2 W2 H2 s2 ev (.int _) q⟩
    | .str i, .str j, q => cases r1.strI; cases r2.strI; exact .inr (.inl ⟨i, j, rfl, rfl, q.1, k _ _ ρ2 W2 H2 s2 ev (.str _) q.2⟩)
    | .lst i, .lst j, q =>
      obtain ⟨l, xs, rfl, hl, nl, rl⟩ := r1.lstI s2.ok
      obtain ⟨m, ys, rfl, hm, nm, rm⟩ := r2.lstI s2.ok
      refine .inr (.inr ⟨l, m, xs, ys, rfl, rfl, hl, hm, by rw [rl.len, rm.len]; exact q.1, fun p hp => ?_⟩)
      obtain ⟨W3, s3, e3, r3⟩ := finL s2 hp (rl.app rm)
      exact k _ _ ρ2 W3 _ s3 (ev.tr e3) r3 q.2
/-- a + b of lists, to be our own -/
def nAdd (ta tb : TD) : TDL := fun ρ Q => ta ρ fun d ρ1 => tb ρ1 fun e ρ2 => ∃ x y, d = .lst x ∧ e = .lst y ∧ x.length + y.length ≤ sizeLine ∧ Q (x ++ y) ρ2
theorem dn_add (ha : PE X a (cB X.K ta)) (hb : PE X c (cB X.K tb)) : PE X (.BinOp a .Add c pos) (cN X.K (nAdd ta tb)) :=
  peTo (pe_op op_cat ha hb) fun σ H Q ⟨b, W, ρ, Qd, s, h, k⟩ => bin2 s h fun x y d e ρ2 W2 H2 s2 ev r1 r2 ⟨dx, dy, e1, e2, hz, q⟩ => by
    subst e1 e2
    obtain ⟨l, xs, rfl, hl, nl, rl⟩ := r1.lstI s2.ok
    obtain ⟨m, ys, rfl, hm, nm, rm⟩ := r2.lstI s2.ok
    refine ⟨l, m, xs, ys, rfl, rfl, hl, hm, by rw [rl.len, rm.len]; exact hz, fun p hp => ?_⟩
    obtain ⟨s3, e3, w⟩ := s2.new (o := .lst (xs ++ ys)) hp
    exact k p _ _ ρ2 W2 _ s3 (ev.tr e3) w upd_same (rl.app rm) q
/-- an operator on ints -/
theorem de_int2 {op : Operator} {C : Int → Int → Prop} {g : Int → Int → V} {f : D2} (ho : OpR X (binaryOp op) (rI C g)) (hf : ∀ d e Q, f d e Q → ∃ i j z, d = .int i ∧ e = .int j ∧ C i j ∧ scV z = some (g i j) ∧ Q z)
    (ha : PE X a (cB X.K ta)) (hb : PE X c (cB X.K tb)) : PE X (.BinOp a op c pos) (cE X.K (dOp2 f ta tb)) :=
  peTo (pe_op ho ha hb) fun σ H Q ⟨b, W, ρ, Qd, s, h, k⟩ => bin2 s h fun x y d e ρ2 W2 H2 s2 ev r1 r2 q => by
    obtain ⟨i, j, z, rfl, rfl, hc, hz, q⟩ := hf _ _ _ q
    cases r1.intI; cases r2.intI
    exact ⟨i, j, rfl, rfl, hc, k _ _ ρ2 W2 H2 s2 ev (rep_sc hz) q⟩
theorem op_sub' : OpR X (binaryOp .Sub) (rI (fun _ _ => True) fun i j => .int (i - j)) := fun pins s σ H x y v u Q I rx ry ⟨i, j, e1, e2, _, q⟩ => op_sub pins s σ H x y v u Q I rx ry ⟨i, j, e1, e2, q⟩
theorem de_sub (ha : PE X a (cB X.K ta)) (hb : PE X c (cB X.K tb)) : PE X (.BinOp a .Sub c pos) (cE X.K (dOp2 subD ta tb)) := de_int2 op_sub' (fun d e Q q => by match d, e, q with | .int i, .int j, q => exact ⟨i, j, _, rfl, rfl, trivial, rfl, q⟩) ha hb
theorem de_mul (ha : PE X a (cB X.K ta)) (hb : PE X c (cB X.K tb)) : PE X (.BinOp a .Mult c pos) (cE X.K (dOp2 mulD ta tb)) := de_int2 op_mul (fun d e Q q => by match d, e, q with | .int i, .int j, q => exact ⟨i, j, _, rfl, rfl, q.1, rfl, q.2⟩) ha hb
theorem de_mod (ha : PE X a (cB X.K ta)) (hb : PE X c (cB X.K tb)) : PE X (.BinOp a .Mod c pos) (cE X.K (dOp2 modD ta tb)) := de_int2 op_mod (fun d e Q q => by match d, e, q with | .int i, .int j, q => exact ⟨i, j, _, rfl, rfl, q.1, rfl, q.2⟩) ha hb
theorem de_fdiv (ha : PE X a (cB X.K ta)) (hb : PE X c (cB X.K tb)) : PE X (.BinOp a .FloorDiv c pos) (cE X.K (dOp2 fdivD ta tb)) := de_int2 op_fdiv (fun d e Q q => by match d, e, q with | .int i, .int j, q => exact ⟨i, j, _, rfl, rfl, q.1, rfl, q.2⟩) ha hb
/-! comparisons: by PC, as values and as tests -/
abbrev DC (X : Cx) (op : CmpOp) (a c : Expr) (T : TD) : Prop := PC X op a c (cE X.K T)
theorem pcTo {op : CmpOp} {t t' : TE} (h : PC X op a c t) (f : ∀ σ H Q, t' σ H Q → t σ H Q) : PC X op a c t' := ⟨fun pins s σ H Q I q => h.run pins s σ H Q I (f σ H Q q)⟩
theorem pcOp {op : CmpOp} {r : R2} {ta tb : TE} (ho : OpR X (compareOp op) r) (ha : PE X a ta) (hb : PE X c tb) : PC X op a c (tOp r ta tb) := ⟨fun pins s σ H Q I h =>
  thn (ha.run pins s σ H _ I h) fun v s1 ⟨x, H1, I1, r1, q1⟩ => thn (hb.run pins s1 σ H1 _ I1 q1) fun u s2 ⟨y, H2, I2, r2, q2⟩ => ho pins s2 σ H2 x y v u Q I2 r1 r2 q2⟩
theorem pcOr {op : CmpOp} {t t' : TE} (h : PC X op a c t) (h' : PC X op a c t') : PC X op a c (fun σ H Q => t σ H Q ∨ t' σ H Q) := ⟨fun pins s σ H Q I q => q.elim (h.run pins s σ H Q I) (h'.run pins s σ H Q I)⟩
theorem dc_op {op : CmpOp} {r : R2} {f : D2} (ho : OpR X (compareOp op) r) (ha : PE X a (cB X.K ta)) (hb : PE X c (cB X.K tb))
    (hf : ∀ W H x y d e Q (Z : VK), OkW W H → RepO X.K W H x d → RepO X.K W H y e → f d e Q → (∀ z v, scV z = some v → Q z → Z v H) → r x y H Z) : DC X op a c (dOp2 f ta tb) :=
  pcTo (pcOp ho ha hb) fun σ H Q ⟨b, W, ρ, Qd, s, h, k⟩ => bin2 s h fun x y d e ρ2 W2 H2 s2 ev r1 r2 q => hf W2 H2 x y d e _ _ s2.ok r1 r2 q fun z v hz q => k v z ρ2 W2 H2 s2 ev (rep_sc hz) q
theorem dc_lt (ha : PE X a (cB X.K ta)) (hb : PE X c (cB X.K tb)) : DC X .Lt a c (dOp2 (cmpD fun i j => decide (i < j)) ta tb) := dc_op op_lt ha hb fun W H x y d e Q Z k r1 r2 q z => by
  match d, e, q with | .int i, .int j, q => cases r1.intI; cases r2.intI; exact ⟨i, j, rfl, rfl, z _ _ rfl q⟩
theorem dc_le (ha : PE X a (cB X.K ta)) (hb : PE X c (cB X.K tb)) : DC X .LtE a c (dOp2 (cmpD fun i j => decide (i ≤ j)) ta tb) := dc_op op_le ha hb fun W H x y d e Q Z k r1 r2 q z => by
  match d, e, q with | .int i, .int j, q => cases r1.intI; cases r2.intI; exact ⟨i, j, rfl, rfl, z _ _ rfl q⟩
theorem dc_gt (ha : PE X a (cB X.K ta)) (hb : PE X c (cB X.K tb)) : DC X .Gt a c (dOp2 (cmpD fun i j => decide (j < i)) ta tb) := dc_op op_gt ha hb fun W H x y d e Q Z k r1 r2 q z => by
  match d, e, q with | .int i, .int j, q => cases r1.intI; cases r2.intI; exact ⟨i, j, rfl, rfl, z _ _ rfl q⟩
theorem dc_ge (ha : PE X a (cB X.K ta)) (hb : PE X c (cB X.K tb)) : DC X .GtE a c (dOp2 (cmpD fun i j => decide (j ≤ i)) ta tb) := dc_op op_ge ha hb fun W H x y d e Q Z k r1 r2 q z => by
  match d, e, q with | .int i, .int j, q => cases r1.intI; cases r2.intI; exact ⟨i, j, rfl, rfl, z _ _ rfl q⟩
theorem dc_eq (hu : X.A.units + 64 < cLine) (ha : PE X a (cB X.K ta)) (hb : PE X c (cB X.K tb)) : DC X .Eq a c (dOp2 eqD ta tb) := dc_op (op_eqD hu) ha hb fun W H x y d e Q Z k r1 r2 q z =>
  ⟨_, _, repo_dp k r1 (ok_pl q.1.1), repo_dp k r2 (ok_pl q.1.2), ok_shaped q.1.1, ok_shaped q.1.2, z _ _ rfl q.2⟩
theorem dc_ne (hu : X.A.units + 64 < cLine) (ha : PE X a (cB X.K ta)) (hb : PE X c (cB X.K tb)) : DC X .NotEq a c (dOp2 neD ta tb) := dc_op (op_neD hu) ha hb fun W H x y d e Q Z k r1 r2 q z =>
  ⟨_, _, repo_dp k r1 (ok_pl q.1.1), repo_dp k r2 (ok_pl q.1.2), ok_shaped q.1.1, ok_shaped q.1.2, z _ _ rfl q.2⟩
end
end DL

set_option Elab.async false
set_option linter.all false
set_option maxRecDepth 100000
set_option maxHeartbeats 1000000
namespace EX
open PySem PySem.Spec PyProof.Rows PySem.Calls
/-- the body: super().__init__(); self.value = value -/
def eBody (p0 p1 p2 p3 p4 p5 p6 p7 p8 : Pos) : List Stmt :=
  [.Expr (.Call (.Attribute (.Call (.Name "super" p0) [] [] p1) "__init__" p2) [] [] p3) p4, .Assign [.Attribute (.Name "self" p5) "value" p6] (.Name "value" p7) p8]
/-- the parameters: self, value=None -/
structure EPar (ps : Arguments) : Prop where
  po : ps.posonlyargs = []
  ar : ps.args.map (fun a => a.arg) = (["self", "value"] : List Str)
  ko : ps.kwonlyargs = []
  va : ps.vararg = none
  ka : ps.kwarg = none
/-- the scope of the body -/
structure ESco (sc : Scope) : Prop where
  kind : sc.kind = .function
  gen : sc.isGenerator = false
  co : sc.isCoroutine = false
  cell : ∀ x ∈ sc.names, x.2 ≠ .cell
  self : sc.names.lookup ("self" : Str) = some .local
  val : sc.names.lookup ("value" : Str) = some .local
  sup : sc.names.lookup ("super" : Str) = some .globalImplicit
  cls : sc.names.lookup ("__class__" : Str) = some .free
/-- what the written part says of an error class with a field -/
structure ExF (K : PySem.W.Frag) (file : Str) (C : Addr) : Prop where
  o : L2.OexC K C
  no : PySem.W.findIn K (.ref C) "value" = some none
  sup : PySem.W.ks_superIn K C C "__init__" = some (some (.builtin "ValueError.__init__"))
  ve : PySem.W.subIn K (.ref C) (.type "ValueError") = some true
  top : PySem.W.nsIn K cStatics "thirdparty.any" = some none
  sg : PySem.W.nsIn K mainGlobals "super" = some none
  fn : ∃ (fI cc cda T : Addr) (oc : Value) (od : Option Addr) (qual : Str) (params : Arguments) (p0 p1 p2 p3 p4 p5 p6 p7 p8 : Pos) (scope : Scope) (kV doc pm ct : Value) (an : Option Addr) (osl : Array (Option Value)),
    PySem.W.findIn K (.ref C) "__init__" = some (some (.ref fI)) ∧ PySem.W.typeIn K (.ref fI) = some (.type "function") ∧
    K.lookup fI = some ⟨oc, od, .func (PySem.W.fnX "__init__" qual params (eBody p0 p1 p2 p3 p4 p5 p6 p7 p8) scope [("__class__", cc)] (.ref T) kV doc pm an (.ref cda) ct), osl⟩ ∧
    PySem.W.codeIn K (.ref cda) qual = true ∧ EPar params ∧ ESco scope ∧ (p2.endLine == p3.line) = true ∧
    (∃ (c1 : Value) (d1 : Option Addr) (vs : Array Value) (s1 : Array (Option Value)) (tf : Tok), K.lookup cda = some ⟨c1, d1, .fields vs, s1⟩ ∧ vs[2]? = some (.str file tf)) ∧
    (∃ (c2 : Value) (d2 : Option Addr) (s2 : Array (Option Value)), K.lookup cc = some ⟨c2, d2, .cell (some (.ref C)), s2⟩) ∧
    (∃ (c3 : Value) (d3 : Option Addr) (n3 : Nat) (s3 : Array (Option Value)), K.lookup T = some ⟨c3, d3, .seq #[.none] n3, s3⟩)
/-- a method call without arguments on one line -/
theorem mcall0 {o : Expr} {m : Str} {pa p : Pos} {env : Env} (hl : (pa.endLine == p.line) = true) :
    eval (.Call (.Attribute o m pa) [] [] p) env = (do
      let ov ← attributeBase o m env (eval o env)
      standAt pa.atName
      let (f, first) ← holding [ov] (getMethod ov m (do return (← importBound o env).getD true))
      callWith p f first (backTo p (starEach [] env)) []) := by
  have key : ∀ ov, methodCall o m pa p env ov 0 (backTo p (starEach [] env)) (backToKw p (keywordEach [] env)) = (do
      let (f, first) ← holding [ov] (getMethod ov m (do return (← importBound o env).getD true))
      callWith p f first (backTo p (starEach [] env)) []) := by
    intro ov
    have e1 : methodCallForm 0 (backTo p (starEach [] env)) (backToKw p (keywordEach [] env)) = true := rfl
    have e2 : methodCallPos true o env pa p = pure p := by
      unfold methodCallPos
      simp [hl]
    unfold methodCall
    rw [e1, e2]
    rfl
  show (do
    let ov ← attributeBase o m env (eval o env)
    standAt pa.atName
    methodCall o m pa p env ov 0 (backTo p (starEach [] env)) (backToKw p (keywordEach [] env))) = _
  simp only [key]
section
variable {prog : Program} {w : World} {A : Around} {E : Value → Shared → Prop} {hp : Heap} {g : Array GenState} {d : Drawn} {t : Nat} {os : OsState} {K : PySem.W.Frag} {file : Str} {C e : Addr}
/-- super().__init__() done: the bound __init__ of the built-in base called without arguments -/
theorem bound_gen {B newId i : String} {bmB : List Value} {nm q : Str} {N : Addr} {bs bm : List Value} {sn : List Str} {sub : List Value} {ab : Bool} {col : Option Bool} {dd : Option Addr} {k0 k1 k2 k3 k5 : Option Value} {u t0 : Addr} {Q : Value → Shared → Prop}
    (FB : ExcBaseFacts B newId i bmB) (hC : hp.get? C = some (excClassObj nm q C N bs bm true sn sub ab col dd k0 k1 k2 k3 k5 newId)) (hu : hp.get? u = some (PySem.W.kxs_mw i e)) (he : hp.get? e = some (HandSPX.excO C t0))
    (hq : ∀ h2 t1, hp.objs.size ≤ h2.objs.size → (∀ b o, b ≠ e → hp.get? b = some o → h2.get? b = some o) → h2.get? e = some (HandSPX.excO C t1) → Q .none ⟨h2, g, d, t, os⟩) :
    wpAny (model prog w) A (call (.ref u) []) Q E ⟨hp, g, d, t, os⟩ := by
  apply wpAny_call
  apply codeAny_of_tree
  show wpAny _ A.in1 (callAny (.ref u) ⟨[], []⟩) _ _ _
  simp only [callAny]
  apply wpAny_bind
  apply wpAny_load hu
  simp only [PySem.W.kxs_mw, show (Value.type "method-wrapper" == Value.type "method" || Value.type "method-wrapper" == Value.type "builtin_function_or_method" || Value.type "method-wrapper" == Value.type "method-wrapper") = true from by decide, if_true]
  apply PySem.W.KFB.if_so (by decide)
  apply wpAny_bind
  apply PySem.W.check_bound_init FB.toExcCallFacts hC he rfl
  refine wpAny_bind (wpAny_pure (wpAny_pure ?_))
  constructor
  · exact PySem.plainId_quiet FB.init.plain _
  apply codeAny_builtin FB.initEntry
  apply PySem.W.exc_init_tree (cls := .ref C) (t0 := t0) (dv := none) (c2 := .none) (c3 := .none) (b4 := .bool false) he (Nat.zero_le _)
  intro h2 k he2 ht2
  exact hq h2 _ (Nat.le_of_lt (Heap.lt_size ht2)) k he2
theorem bound_run {u t0 : Addr} {Q : Value → Shared → Prop} (X : K.In hp) (xf : ExF K file C) (hu : hp.get? u = some (PySem.W.kxs_mw "ValueError.__init__" e)) (he : hp.get? e = some (HandSPX.excO C t0))
    (hq : ∀ h2 t1, hp.objs.size ≤ h2.objs.size → (∀ b o, b ≠ e → hp.get? b = some o → h2.get? b = some o) → h2.get? e = some (HandSPX.excO C t1) → Q .none ⟨h2, g, d, t, os⟩) :
    wpAny (model prog w) A (call (.ref u) []) Q E ⟨hp, g, d, t, os⟩ := by
  obtain ⟨nm, q, N, bs, bm, sn, sub, ab, col, dd, k0, k1, k2, k3, k5, lk, hbm⟩ := xf.o.cls
  exact bound_gen F.excBase_ValueError (X _ _ lk) hu he hq
/-- the class's own place in its line -/
theorem mro_sub {cd : ClassData} (hcd : PySem.W.clsIn K C = some cd) (hm : ∃ l, cd.mro = .ref C :: l) : PySem.W.mroIn K C (.ref C) = some true := by
  obtain ⟨l, e⟩ := hm
  unfold PySem.W.mroIn
  rw [hcd, Option.bind_some, e]
  simp
/-- THE BODY: super().__init__(), then self.value = v -/
theorem body_run {fI cc cda L T t0 : Addr} {oc : Value} {od : Option Addr} {qual : Str} {params : Arguments} {p0 p1 p2 p3 p4 p5 p6 p7 p8 : Pos} {scope : Scope} {kV doc pm ct : Value} {an : Option Addr} {osl : Array (Option Value)} {m mg mb : Str → Option Value} {v : Value} {P : Flow → Shared → Prop}
    (X : K.In hp) (xf : ExF K file C) (nk : K.lookup e = none) (hmain : ((prog.main.file : Str) == file) = true) (htop : (prog.main.scope.names.lookup ("super" : Str)).isSome = false) (hg : hp.Ns mainGlobals mg) (hs : mg "super" = none)
    (hb : hp.Ns builtinsNs mb) (hv : mb "super" = some (.type "super"))
    (lf : K.lookup fI = some ⟨oc, od, .func (PySem.W.fnX "__init__" qual params (eBody p0 p1 p2 p3 p4 p5 p6 p7 p8) scope [("__class__", cc)] (.ref T) kV doc pm an (.ref cda) ct), osl⟩)
    (ep : EPar params) (es : ESco scope) (hl : (p2.endLine == p3.line) = true)
    (hcode : ∃ (c1 : Value) (d1 : Option Addr) (vs : Array Value) (s1 : Array (Option Value)) (tf : Tok), K.lookup cda = some ⟨c1, d1, .fields vs, s1⟩ ∧ vs[2]? = some (.str file tf))
    (hcell : ∃ (c2 : Value) (d2 : Option Addr) (s2 : Array (Option Value)), K.lookup cc = some ⟨c2, d2, .cell (some (.ref C)), s2⟩)
    (m1 : m "self" = some (.ref e)) (m2 : m "value" = some v) (he : hp.get? e = some (HandSPX.excO C t0)) (hL : hp.Ns L m) (nL : L ≠ e)
    (hq : ∀ h' t' dx t1, (∀ b o, b ≠ e → hp.get? b = some o → h'.get? b = some o) → hp.objs.size ≤ dx → dx ≠ e → h'.get? e = some { cls := .ref C, dict := some dx, data := .fields #[.ref t1, .none, .none, .none, .bool false, .none] } →
      h'.Ns1 dx (fun y => if y = ("value" : Str) then some v else none) → P .next ⟨h', g, d, t', os⟩) :
    PySem.wpAt (model prog w) A (.func (eBody p0 p1 p2 p3 p4 p5 p6 p7 p8) (PySem.W.ksEnv qual scope L fI (.ref cda) cc)) (execs (eBody p0 p1 p2 p3 p4 p5 p6 p7 p8) (PySem.W.ksEnv qual scope L fI (.ref cda) cc)) P E ⟨hp, g, d, t, os⟩ := by
  obtain ⟨c1, d1, vs, s1, tf, lc, hvs⟩ := hcode
  obtain ⟨c2, d2, s2, lcc⟩ := hcell
  obtain ⟨nm, q, N, bs, bm, sn, sub, ab, col, dd, k0, k1, k2, k3, k5, lk, hbm⟩ := xf.o.cls
  have hC := X _ _ lk
  have hcd : PySem.W.clsIn K C = some { name := nm, bases := bs, mro := .ref C :: bm, ns := N, qualname := q, hasDict := true, slotNames := sn, subclasses := sub, abstract := ab, collection := col, hasDel := false } := by
    unfold PySem.W.clsIn
    rw [lk] <;> rfl
  have eC : e ≠ C := fun z => by
    rw [z, lk] at nk
    cases nk
  obtain ⟨par, hpar, harg⟩ : ∃ ar, (params.posonlyargs ++ params.args).head? = some ar ∧ ar.arg = "self" := by
    have h1 := ep.ar
    rw [ep.po, List.nil_append]
    cases z : params.args with
    | nil =>
      rw [z] at h1
      cases h1
    | cons a r =>
      rw [z] at h1
      exact ⟨a, rfl, (List.cons.inj h1).1⟩
  have hcls1 : (("__init__" : Str) == ("__class__" : Str)) = false := by decide
  apply ks_wpAt_execs_cons
  refine ks_wpAt_Expr_any ?_ (by unfold interactive; rw [show (PySem.W.ksEnv qual scope L fI (.ref cda) cc).scope.kind = .function from es.kind]; rfl) rfl
  refine ks_wpAt_MethodCall ?_ (mcall0 hl)
  apply ks_wpAt_super_base (env := PySem.W.ksEnv qual scope L fI (.ref cda) cc) es.sup es.cls hcls1 rfl (X _ _ lf) rfl hpar rfl (X _ _ lc) rfl hvs hmain htop
  apply PySem.W.ks_loadName_global (env := PySem.W.ksEnv qual scope L fI (.ref cda) cc) es.kind es.sup
  apply loadGlobal_builtin (env := PySem.W.ksEnv qual scope L fI (.ref cda) cc) hg hs hb hv
  refine ⟨rfl, ?_⟩
  apply wpAny_loadName_free (env := PySem.W.ksEnv qual scope L fI (.ref cda) cc) es.kind es.cls rfl ⟨_, X _ _ lcc, rfl⟩
  rw [harg]
  apply wpAny_loadName_local (env := PySem.W.ksEnv qual scope L fI (.ref cda) cc) es.kind es.self hL m1
  apply ks_wpAny_isType_cls hC rfl
  refine ⟨rfl, ?_⟩
  refine ks_wpAny_call_super hC rfl he rfl (fun c z => by cases z) (PySem.W.looks_mroIn X (mro_sub hcd ⟨_, rfl⟩)) (fun ha hso ka => ?_)
  have Xa : K.In ha := fun b o z => ka b o (X b o z)
  have hea := ka _ _ he
  have al : PySem.W.alongIn K "__init__" (List.drop 1 (List.dropWhile (fun x => x != Value.ref C) (Value.ref C :: bm))) = some (some (.builtin "ValueError.__init__")) := by
    have z := xf.sup
    unfold PySem.W.ks_superIn at z
    rw [hcd] at z
    exact z
  have I : PySem.W.InstAt ha e (HandSPX.excO C t0) C none := ⟨hea, rfl, rfl, trivial⟩
  refine PySem.W.kxs_getMethod PySem.W.kxs_ValueError hso (PySem.W.looks_opaque Xa xf.top) ((PySem.W.looks_clsIn Xa hcd).andThen .now) rfl Xa al (I.type.andThen (PySem.W.looks_subIn Xa xf.ve)) eC hcls1 ?_
  have kb : ∀ b o, ha.get? b = some o → (ha.push (PySem.W.kxs_mw "ValueError.__init__" e)).get? b = some o := fun b o z => Heap.get?_push_of_some _ z
  have hmw : (ha.push (PySem.W.kxs_mw "ValueError.__init__" e)).get? ha.objs.size = some (PySem.W.kxs_mw "ValueError.__init__" e) := Heap.get?_push_size ha rfl
  apply PySem.W.kxs_callWith (i := "ValueError.__init__") (x := e) rfl
  apply evalArgs_empty
  refine ⟨hmw, ?_⟩
  refine bound_run (fun b o z => kb b o (Xa b o z)) xf hmw (kb _ _ hea) (fun h2 t1 sz kc he2 => ?_)
  have k2 : ∀ b o, b ≠ e → hp.get? b = some o → h2.get? b = some o := fun b o n z => kc b o n (kb b o (ka b o z))
  have X2 : K.In h2 := fun b o z => k2 b o (fun y => by rw [y, nk] at z; cases z) (X b o z)
  have sz2 : hp.objs.size ≤ h2.objs.size := by
    rw [Heap.size_push] at sz
    exact Nat.le_trans (Nat.le_of_lt (Heap.lt_size hso)) (Nat.le_trans (Nat.le_succ _) sz)
  have hL2 : h2.Ns L m := hL.at fun o z => k2 L o nL z
  apply ks_wpAt_execs_cons
  apply wpAt_of_wpAny
  refine plainObj_wpAny_Assign_Attribute ?_ rfl
  apply wpAny_Name (wpAny_loadName_local (env := PySem.W.ksEnv qual scope L fI (.ref cda) cc) es.kind es.val hL2 m2 _) (by decide)
  apply wpAny_Name (wpAny_loadName_local (env := PySem.W.ksEnv qual scope L fI (.ref cda) cc) es.kind es.self hL2 m1 _) (by decide)
  refine PySem.W.set_plain X2 (ox := HandSPX.excO C t1) (od := none) ⟨he2, rfl, rfl, trivial⟩ xf.o.sa ?_
  refine HandSPX.exc_osa X2 he2 hcd (show HandSPX.refsVE (.ref C :: bm) = true from hbm) rfl xf.no (fun h3 t3 dx k3 ds dn hx hn => ?_)
  apply wpAt_of_wpAny
  exact wpAny_pure (hq h3 t3 dx t1 (fun b o n z => k3 b o n (k2 b o n z)) (Nat.le_trans sz2 ds) dn hx hn)
end
end EX

set_option Elab.async false
set_option linter.all false
set_option maxRecDepth 100000
set_option maxHeartbeats 1000000
namespace EX
open PySem PySem.Spec PyProof.Rows PySem.Calls
section
variable {M : Model} {A : Around} {E : Value → Shared → Prop} {hp : Heap} {g : Array GenState} {d : Drawn} {t : Nat} {os : OsState}
variable {nm q : Str} {C N : Addr} {bs bm bmB : List Value} {hdct : Bool} {sn : List Str} {sub : List Value} {ab : Bool} {col : Option Bool} {dd : Option Addr} {k0 k1 k2 k3 k5 : Option Value} {B newId initId : String}
/-- the check ahead of the built-in __new__, whatever the keywords -/
theorem chk_new (FB : ExcBaseFacts B newId initId bmB) (hT : ∀ Y : String, bm.contains (.type Y) = bmB.contains (.type Y)) {rest : List Value} {v : Value} {Q : Unit → Shared → Prop}
    (hC : hp.get? C = some (excClassObj nm q C N bs bm hdct sn sub ab col dd k0 k1 k2 k3 k5 newId)) (hq : Q () ⟨hp, g, d, t, os⟩) :
    wpAny M A (checkBuiltinCall newId ⟨.ref C :: rest, [("value", v)]⟩) Q E ⟨hp, g, d, t, os⟩ := by
  have isB : (Value.ref C :: bm).contains (.type B) = true := by
    rw [List.contains_cons, hT, FB.hasB, Bool.or_true]
  have star := FB.noStar
  simp only [checkBuiltinCall, FB.newKind, FB.newSplit, FB.newRow]
  repeat (first
    | refine wpAny_loadPart_at hC ?_
    | (refine wpAny_isSubtype_exc hC ?_
       rw [isB])
    | refine wpAny_staticBase_exc hC ?_
    | refine wpAny_madeBy_exc hC ?_
    | simp only [bne_self_eq_false, Bool.false_eq_true, if_false]
    | wp_step)
  all_goals exact hq
end
section
variable {prog : Program} {w : World} {A : Around} {E : Value → Shared → Prop} {R : Result → Shared → Prop} {hp : Heap} {g : Array GenState} {d : Drawn} {t : Nat} {os : OsState}
variable {nm q : Str} {C N : Addr} {bs bm bmB : List Value} {hdct : Bool} {sn : List Str} {sub : List Value} {ab : Bool} {col : Option Bool} {dd : Option Addr} {k0 k1 k2 k3 k5 : Option Value} {B newId initId : String}
/-- the built-in __new__ with a keyword: the keyword is let go -/
theorem new_kw (FB : ExcBaseFacts B newId initId bmB) (hT : ∀ Y : String, bm.contains (.type Y) = bmB.contains (.type Y)) {v : Value}
    (hC : hp.get? C = some (excClassObj nm q C N bs bm hdct sn sub ab col dd k0 k1 k2 k3 k5 newId))
    (hq : R (.ok (.ret (.ref (hp.objs.size + 1)))) ⟨(hp.push (PySem.W.kdv_tup [])).push (HandSPX.excO C hp.objs.size), g, d, t, os⟩) :
    codeAny (model prog w) A (.builtin newId ⟨[.ref C], [("value", v)]⟩) R ⟨hp, g, d, t, os⟩ := by
  have ends := FB.ends
  have isB : (Value.ref C :: bm).contains (.type B) = true := by
    rw [List.contains_cons, hT, FB.hasB, Bool.or_true]
  have isA : (Value.ref C :: bm).contains (.type "AttributeError") = false := by
    rw [List.contains_cons, hT, FB.noAttr] <;> rfl
  have isN : (Value.ref C :: bm).contains (.type "NameError") = false := by
    rw [List.contains_cons, hT, FB.noName] <;> rfl
  apply codeAny_builtinAt FB.entry
  unfold Builtin.«BaseException.__new__»
  refine PySem.wpAt_bind ?_
  show PySem.wpAt _ _ _ (stack >>= _) _ _ _
  refine PySem.wpAt_bind ?_
  refine PySem.wpAt_stack (fun p below => PySem.wpAt_of_wpAny ?_)
  wp_walk
  refine PySem.wpAt_of_wpAny ?_
  rw [FB.owner]
  repeat (first
    | with_reducible refine wpAny_madeHere_exc FB.canon hC ?_
    | with_reducible refine wpAny_loadPart_at hC ?_
    | (with_reducible refine wpAny_isSubtype_exc hC ?_
       first | rw [isB] | rw [isA] | rw [isN])
    | wp_step)
  show R _ _
  rw [Heap.size_push]
  exact hq
/-- type.__call__ with the keyword -/
theorem tcall_kw (FB : ExcBaseFacts B newId initId bmB) (hT : ∀ Y : String, bm.contains (.type Y) = bmB.contains (.type Y)) {v : Value} {fI : Addr} {Q : Fin → Shared → Prop}
    (hC : hp.get? C = some (excClassObj nm q C N bs bm hdct sn sub ab col dd k0 k1 k2 k3 k5 newId))
    (hi : PySem.W.Looks (model prog w) hp (typeLookup (.ref C) "__init__") (some (.ref fI))) (hb : ∀ self, PySem.W.Looks (model prog w) hp (bindSpecial (.ref fI) self) (.ref fI, [self]))
    (hq : codeAny (model prog w) A (.call (.ref fI) ⟨[.ref (hp.objs.size + 1)], [("value", v)]⟩)
      (fun r s' => match r with | .ok (.ret u) => u = .none ∧ Q (.done (.ret (.ref (hp.objs.size + 1)))) s' | .ok _ => False | .error e => E e s')
      ⟨(hp.push (PySem.W.kdv_tup [])).push (HandSPX.excO C hp.objs.size), g, d, t, os⟩) :
    wpAny (model prog w) A (Builtin.«type.__call__» ⟨[.ref C], [("value", v)]⟩) Q E ⟨hp, g, d, t, os⟩ := by
  repeat (first
    | with_reducible refine wpAny_loadPart_at hC ?_
    | with_reducible refine wpAny_madeBy_exc hC ?_
    | wp_step)
  apply codeAny_call_builtin_code (Code.quiet_builtin _ FB.quiet) (chk_new FB hT hC _)
  apply new_kw FB hT hC
  show wpAny _ _ _ _ _ _
  have keep : ∀ b o, hp.get? b = some o → ((hp.push (PySem.W.kdv_tup [])).push (HandSPX.excO C hp.objs.size)).get? b = some o := fun b o z => Heap.get?_push_of_some _ (Heap.get?_push_of_some _ z)
  have hC1 := keep _ _ hC
  have here : ((hp.push (PySem.W.kdv_tup [])).push (HandSPX.excO C hp.objs.size)).get? (hp.objs.size + 1) = some (HandSPX.excO C hp.objs.size) := by heap_get
  have own : (Value.ref C :: bm).contains (.ref C) = true := by simp
  have hi1 := hi.keeps keep
  have hb1 := (hb (.ref (hp.objs.size + 1))).keeps keep
  unfold isInstance
  repeat (first
    | with_reducible refine wpAny_loadPart_at here ?_
    | (with_reducible refine wpAny_isSubtype_exc hC1 ?_
       rw [own])
    | wp_step)
  show wpAny _ _ (typeLookup (.ref C) _) _ _ _
  apply hi1.at
  apply wpAny_holding
  apply wpAny_bind
  apply hb1.at
  apply wpAny_bind
  apply wpAny_call
  refine codeAny_mono hq (fun r s' z => ?_)
  match r, z with
  | .error e, z => exact z
  | .ok .next, z => exact False.elim z
  | .ok .brk, z => exact False.elim z
  | .ok .cont, z => exact False.elim z
  | .ok (.ret u), z =>
    obtain ⟨e, z⟩ := z
    subst e
    first
      | exact wpAny_pure (wpAny_pure z)
      | (wp_walk
         exact z)
theorem chk_type {M : Model} {v : Value} {Q : Unit → Shared → Prop} (hC : hp.get? C = some (excClassObj nm q C N bs bm hdct sn sub ab col dd k0 k1 k2 k3 k5 newId))
    (hq : Q () ⟨hp, g, d, t, os⟩) : wpAny M A (checkBuiltinCall "type.__call__" ⟨[.ref C], [("value", v)]⟩) Q E ⟨hp, g, d, t, os⟩ := by
  have f3 := tc_sub
  have ty : (⟨hp, g, d, t, os⟩ : Shared).TypeIs (.ref C) "type" := ⟨_, hC, rfl⟩
  simp only [checkBuiltinCall, tc_kind, tc_split]
  repeat (any_goals (first
    | assumption
    | with_reducible refine wpAny_loadPart_at hC ?_
    | with_reducible refine wpAny_onRaise ?_
    | with_reducible refine wpAny_map ?_
    | wp_step))
/-- C(value=v), C's own __init__ at fI -/
theorem ccall_kw (FB : ExcBaseFacts B newId initId bmB) (hT : ∀ Y : String, bm.contains (.type Y) = bmB.contains (.type Y)) {v : Value} {fI : Addr}
    (hC : hp.get? C = some (excClassObj nm q C N bs bm hdct sn sub ab col dd k0 k1 k2 k3 k5 newId))
    (hi : PySem.W.Looks (model prog w) hp (typeLookup (.ref C) "__init__") (some (.ref fI))) (hb : ∀ self, PySem.W.Looks (model prog w) hp (bindSpecial (.ref fI) self) (.ref fI, [self]))
    (hq : codeAny (model prog w) (A.under (.builtin "type.__call__" ⟨[.ref C], [("value", v)]⟩)) (.call (.ref fI) ⟨[.ref (hp.objs.size + 1)], [("value", v)]⟩) (PySem.W.InitBack (hp.objs.size + 1) R)
      ⟨(hp.push (PySem.W.kdv_tup [])).push (HandSPX.excO C hp.objs.size), g, d, t, os⟩) :
    codeAny (model prog w) A (.call (.ref C) ⟨[], [("value", v)]⟩) R ⟨hp, g, d, t, os⟩ := by
  have f1 := tc_lookup
  have f2 := tc_bind (.ref C)
  have ty : (⟨hp, g, d, t, os⟩ : Shared).TypeIs (.ref C) "type" := ⟨_, hC, rfl⟩
  apply codeAny_of_tree
  show wpAny _ _ (callAny (.ref C) _) _ _ _
  repeat (any_goals (first
    | assumption
    | with_reducible refine wpAny_loadPart_at hC ?_
    | wp_step))
  refine ⟨rfl, ?_⟩
  refine codeAny_call_builtin_at (Code.quiet_builtin _ (by decide +kernel)) entry_typeCall (chk_type hC (tcall_kw FB hT hC hi hb ?_))
  refine codeAny_mono hq (fun r s' z => ?_)
  match r, z with
  | .error e, z => exact z
  | .ok .next, z => exact z
  | .ok .brk, z => exact z
  | .ok .cont, z => exact z
  | .ok (.ret u), z => exact z
end
end EX

set_option Elab.async false
set_option linter.all false
set_option maxRecDepth 100000
set_option maxHeartbeats 1000000
namespace EX
open PySem PySem.Spec PyProof.Rows PySem.Calls
section
variable {K : PySem.W.Frag} {qual : Str} {params : Arguments} {body : List Stmt} {scope : Scope} {cl : List (Str × Addr)} {T : Addr} {kV doc pm cdv ct : Value} {an : Option Addr} {s : Shared} {c3 : Value} {d3 : Option Addr} {n3 : Nat} {s3 : Array (Option Value)}
theorem par_split (ep : EPar params) : ∃ a b, params.args = [a, b] ∧ a.arg = "self" ∧ b.arg = "value" := by
  have h := ep.ar
  generalize params.args = l at h
  match l, h with
  | [a, b], h =>
    simp only [List.map_cons, List.map_nil, List.cons.injEq] at h
    exact ⟨a, b, rfl, h.1, h.2.1⟩
  | [], h => cases h
  | [a], h => simp at h
  | a :: b :: c :: r, h => simp at h
theorem bind_two (ep : EPar params) (X : K.In s.heap) (lT : K.lookup T = some ⟨c3, d3, .seq #[.none] n3, s3⟩) (x v : Value) :
    BindsTo s (PySem.W.fnX "__init__" qual params body scope cl (.ref T) kV doc pm an cdv ct) ⟨[x, v], []⟩ [("self", x), ("value", v)] := by
  obtain ⟨a, b, e, ea, eb⟩ := par_split ep
  obtain ⟨h1, h2, h3, h4, h5⟩ := ep
  obtain ⟨po, ar, va, ko, kd, ka, df⟩ := params
  obtain ⟨aa, ab, ac⟩ := a
  obtain ⟨ba, bb, bc⟩ := b
  dsimp only at *
  subst e ea eb h1 h3 h4 h5
  exact BindsTo.of_defaults rfl (X _ _ lT) rfl rfl rfl
theorem bind_kw (ep : EPar params) (X : K.In s.heap) (lT : K.lookup T = some ⟨c3, d3, .seq #[.none] n3, s3⟩) (x v : Value) :
    BindsTo s (PySem.W.fnX "__init__" qual params body scope cl (.ref T) kV doc pm an cdv ct) ⟨[x], [("value", v)]⟩ [("self", x), ("value", v)] := by
  obtain ⟨a, b, e, ea, eb⟩ := par_split ep
  obtain ⟨h1, h2, h3, h4, h5⟩ := ep
  obtain ⟨po, ar, va, ko, kd, ka, df⟩ := params
  obtain ⟨aa, ab, ac⟩ := a
  obtain ⟨ba, bb, bc⟩ := b
  dsimp only at *
  subst e ea eb h1 h3 h4 h5
  exact BindsTo.of_defaults rfl (X _ _ lT) rfl rfl rfl
theorem bind_no (ep : EPar params) (X : K.In s.heap) (lT : K.lookup T = some ⟨c3, d3, .seq #[.none] n3, s3⟩) (x : Value) :
    BindsTo s (PySem.W.fnX "__init__" qual params body scope cl (.ref T) kV doc pm an cdv ct) ⟨[x], []⟩ [("self", x), ("value", .none)] := by
  obtain ⟨a, b, e, ea, eb⟩ := par_split ep
  obtain ⟨h1, h2, h3, h4, h5⟩ := ep
  obtain ⟨po, ar, va, ko, kd, ka, df⟩ := params
  obtain ⟨aa, ab, ac⟩ := a
  obtain ⟨ba, bb, bc⟩ := b
  dsimp only at *
  subst e ea eb h1 h3 h4 h5
  exact BindsTo.of_defaults rfl (X _ _ lT) rfl rfl rfl
end
/-! the whole making: the class called -/
section
variable {prog : Program} {w : World} {A : Around} {hp : Heap} {g : Array GenState} {d : Drawn} {t : Nat} {os : OsState} {K : PySem.W.Frag} {file : Str} {C e : Addr}
/-- what a program must be for super() to be read: its file is the def's, it has no name super -/
structure Plain (prog : Program) (file : Str) : Prop where
  main : ((prog.main.file : Str) == file) = true
  top : (prog.main.scope.names.lookup ("super" : Str)).isSome = false
/-- the ways to write the value -/
inductive Way where
  | pos | kw | no
def Way.args : Way → Value → Value → Args
  | .pos, x, v => ⟨[x, v], []⟩
  | .kw, x, v => ⟨[x], [("value", v)]⟩
  | .no, x, _ => ⟨[x], []⟩
def Way.val : Way → Value → Value
  | .no, _ => .none
  | _, v => v
theorem init_run {wy : Way} {t0 : Addr} {mg mb : Str → Option Value} {v : Value} {R : Result → Shared → Prop} (X : K.In hp) (xf : ExF K file C) (nk : K.lookup e = none) (pl : Plain prog file)
    (hg : hp.Ns mainGlobals mg) (hs : mg "super" = none) (hb : hp.Ns builtinsNs mb) (hv : mb "super" = some (.type "super")) (hroom : A.depth < recursionLimit) (hlim : hp.NoLimit) (he : hp.get? e = some (HandSPX.excO C t0))
    (fI : Addr) (hi : PySem.W.findIn K (.ref C) "__init__" = some (some (.ref fI)))
    (hq : ∀ h' t' dx t1, (∀ b o, b ≠ e → hp.get? b = some o → h'.get? b = some o) → hp.objs.size ≤ dx → dx ≠ e → h'.get? e = some { cls := .ref C, dict := some dx, data := .fields #[.ref t1, .none, .none, .none, .bool false, .none] } →
      h'.Ns1 dx (fun y => if y = ("value" : Str) then some (wy.val v) else none) → R (.ok (.ret .none)) ⟨h', g, d, t', os⟩) :
    codeAny (model prog w) A (.call (.ref fI) (wy.args (.ref e) v)) R ⟨hp, g, d, t, os⟩ := by
  obtain ⟨f2, cc, cda, T, oc, od, qual, params, p0, p1, p2, p3, p4, p5, p6, p7, p8, scope, kV, doc, pm, ct, an, osl, h1, h2, h3, h4, h5, h6, h7, h8, h9, c3, d3, n3, s3, lT⟩ := xf.fn
  have ef : fI = f2 := by
    rw [hi] at h1
    injection h1 with h1
    injection h1 with h1
    injection h1
  subst ef
  have bt : BindsTo ⟨hp, g, d, t, os⟩ (PySem.W.fnX "__init__" qual params (eBody p0 p1 p2 p3 p4 p5 p6 p7 p8) scope [("__class__", cc)] (.ref T) kV doc pm an (.ref cda) ct) (wy.args (.ref e) v) [("self", .ref e), ("value", wy.val v)] := by
    cases wy with
    | pos => exact bind_two h5 X lT _ _
    | kw => exact bind_kw h5 X lT _ _
    | no => exact bind_no h5 X lT _
  refine ks_codeAny_call_defAt (binds := [("self", .ref e), ("value", wy.val v)]) hroom (X _ _ h3) rfl hlim (PySem.W.codeRec_of X h4) rfl bt h6.cell ?_ ?_ h6.co h6.gen h6.kind
  · intro y hy
    rcases List.mem_cons.mp hy with z | hy
    · rw [z]
      exact h6.self
    · rcases List.mem_cons.mp hy with z | hy
      · rw [z]
        exact h6.val
      · cases hy
  intro h0 hns k0
  have nL : hp.objs.size ≠ e := Nat.ne_of_gt (Heap.lt_size he)
  refine body_run (fun b o z => k0 b o (X b o z)) xf nk pl.main pl.top (hg.at fun o z => k0 _ o z) hs (hb.at fun o z => k0 _ o z) hv h3 h5 h6 h7 h8 h9 (by rfl) (by rfl) (k0 _ _ he) hns nL ?_
  intro h' t' dx t1 k ds dn hx hn
  have lt : hp.objs.size ≤ h0.objs.size := by
    obtain ⟨o, _, _, z, _⟩ := hns
    exact Nat.le_of_lt (Heap.lt_size z)
  exact hq h' t' dx t1 (fun b o n z => k b o n (k0 b o z)) (Nat.le_trans lt ds) dn hx hn
end
end EX

set_option Elab.async false
set_option linter.all false
set_option maxRecDepth 100000
set_option maxHeartbeats 1000000
namespace EX
open PySem PySem.Spec PyProof.Rows PySem.Calls L2
section
variable {X : Cx} {pins : List (Addr × Obj)} {σ : L2.St} {H : Hp} {s : Shared} {file : Str} {C : Addr} {k : Nat}
/-- two new objects laid at once -/
theorem two_new {h' : Heap} {t' : Nat} {a b : Addr} {oa ob : HO} (I : Inv X pins σ H s) (kp : ∀ c o, s.heap.get? c = some o → h'.get? c = some o) (sa : s.heap.objs.size ≤ a) (sb : s.heap.objs.size ≤ b)
    (na : ObjOk X.prog X.w (upd (upd H b ob) a oa) h' a oa) (nb : ObjOk X.prog X.w (upd (upd H b ob) a oa) h' b ob) : Inv X pins σ (upd (upd H b ob) a oa) { s with heap := h', toks := t' } := by
  have lt : ∀ {c : Addr} {o : Obj}, s.heap.get? c = some o → c < s.heap.objs.size := fun z => Heap.lt_size z
  have ne1 : ∀ {c : Addr}, c < s.heap.objs.size → c ≠ a ∧ c ≠ b := fun {c} z => ⟨Nat.ne_of_lt (Nat.lt_of_lt_of_le z sa), Nat.ne_of_lt (Nat.lt_of_lt_of_le z sb)⟩
  have same : ∀ {c : Addr}, c < s.heap.objs.size → upd (upd H b ob) a oa c = H c := fun {c} z => by rw [upd_ne (ne1 z).1, upd_ne (ne1 z).2]
  have known : ∀ {c : Addr} {o : HO}, H c = some o → c < s.heap.objs.size := fun z => I.hok.lt z
  refine I.un (h' := h') (t' := t') ⟨?_, ?_, ?_, ?_, ?_, ?_, ?_⟩ ?_
  · intro c o z _ _ _
    exact kp c o z
  · intro c o z _ _ _
    exact ⟨o.slots, kp c o z⟩
  · intro c o z n _
    rw [same (lt z)]
    exact n
  · intro c o z _
    exact ⟨o, kp c o z⟩
  · intro c xs z
    rw [same (known z)]
    exact z
  · intro c o u z
    rw [same (known z)]
    exact z
  · intro c ps z
    refine ⟨#[], ?_⟩
    rw [same (known z), z, Array.append_empty]
  · intro c o z
    by_cases ca : c = a
    · subst ca
      rw [upd_same] at z
      cases z
      exact na
    · rw [upd_ne ca] at z
      by_cases cb : c = b
      · subst cb
        rw [upd_same] at z
        cases z
        exact nb
      · rw [upd_ne cb] at z
        exact (I.hok c o z).stay (fun e u _ q => kp e u q) (fun e q => by rw [same (known q)]; exact q) (fun e xs q => by rw [same (known q)]; exact q)
theorem ExF.ini {K : PySem.W.Frag} {file : Str} {C : Addr} (xf : ExF K file C) : ∃ fI, PySem.W.findIn K (.ref C) "__init__" = some (some (.ref fI)) ∧ PySem.W.typeIn K (.ref fI) = some (.type "function") := by
  obtain ⟨f2, cc, cda, T, oc, od, qual, params, p0, p1, p2, p3, p4, p5, p6, p7, p8, scope, kV, doc, pm, ct, an, osl, h1, h2, h3⟩ := xf.fn
  exact ⟨f2, h1, h2⟩
/-- what stands behind the making of an error -/
abbrev madeH (H : Hp) (C a dx : Addr) (y : V) : Hp := upd (upd H dx (exd dx [("value", y)])) a (exo a C (some dx))
theorem made_inv {h3 : Heap} {t3 : Nat} {a dx t1 : Addr} {y : V} {u : Value} (I : Inv X pins σ H s) (kp : ∀ c o, s.heap.get? c = some o → h3.get? c = some o) (sa : s.heap.objs.size ≤ a) (sd : s.heap.objs.size ≤ dx) (dn : dx ≠ a)
    (hx : h3.get? a = some { cls := .ref C, dict := some dx, data := .fields #[.ref t1, .none, .none, .none, .bool false, .none] }) (hn : h3.Ns1 dx (fun z => if z = ("value" : Str) then some u else none)) (r : RelV y u) :
    Inv X pins σ (madeH H C a dx y) { s with heap := h3, toks := t3 } :=
  two_new I kp sa sd (exo_ok hx) (exd_ok hn (relO_put (fs := []) r (fun _ => True.intro)))
def Way.us : Way → Value → List Value
  | .pos, u => [u]
  | _, _ => []
def Way.ks : Way → Value → List (Str × Value)
  | .kw, u => [("value", u)]
  | _, _ => []
theorem Mod.blt' {K : PySem.W.Frag} {mg : Str → Option Value} {base : Heap} (m : Mod K mg base) : ∃ mb, base.Ns builtinsNs mb ∧ mb "super" = some (.type "super") := by
  obtain ⟨mb, h1, h2⟩ := m.blt
  exact ⟨mb, h1, (h2 "super" (by decide)).trans (by decide +kernel)⟩
theorem ex_call {wy : Way} {u : Value} {y : V} {Q : VK} (xf : ExF X.K file C) (pl : Plain X.prog file) (hs : X.mg "super" = none) (rm : Room (k + 1) X.A) (I : Inv X pins σ H s) (ry : RelV y (wy.val u))
    (h : ∀ a dx, H a = none → H dx = none → dx ≠ a → Q (.ref a) (madeH H C a dx y)) : wpAny (model X.prog X.w) X.A (call (.ref C) (wy.us u) (wy.ks u)) (EP X pins σ Q) X.xe s := by
  obtain ⟨hp, g, d, t, os⟩ := s
  obtain ⟨nm, q, N, bs, bm, sn, sub, ab, col, dd, k0, k1, k2, k3, k5, lk, hbm⟩ := xf.o.cls
  have XK := I.kIn
  have hC := XK _ _ lk
  obtain ⟨fI, hfi, htf⟩ := xf.ini
  have hT : ∀ Y : String, bm.contains (.type Y) = HandSPX.veTail.contains (.type Y) := fun Y => HandSPX.refsVE_contains Y bm hbm
  have hT2 : ∀ Y : String, bm.contains (.type Y) = ([.type "ValueError", .type "Exception", .type "BaseException", .type "object"] : List Value).contains (.type Y) := hT
  have key : ∀ (vs : List Value) (t0 : Addr) (A2 : Around) (kw : List (Str × Value)), (wy.args (.ref (hp.objs.size + 1)) u) = ⟨.ref (hp.objs.size + 1) :: wy.us u, wy.ks u⟩ → A2.depth < recursionLimit →
      codeAny (model X.prog X.w) A2 (.call (.ref fI) ⟨.ref (hp.objs.size + 1) :: wy.us u, wy.ks u⟩) (PySem.W.InitBack (hp.objs.size + 1) (fun r s' => match r with | .ok (.ret v) => EP X pins σ Q v s' | .ok _ => False | .error e => X.xe e s'))
        ⟨(hp.push (PySem.W.kdv_tup vs)).push (HandSPX.excO C hp.objs.size), g, d, t, os⟩ := by
    intro vs t0 A2 kw ea dep
    have kp : ∀ b o, hp.get? b = some o → ((hp.push (PySem.W.kdv_tup vs)).push (HandSPX.excO C hp.objs.size)).get? b = some o := fun b o z => Heap.get?_push_of_some _ (Heap.get?_push_of_some _ z)
    have he : ((hp.push (PySem.W.kdv_tup vs)).push (HandSPX.excO C hp.objs.size)).get? (hp.objs.size + 1) = some (HandSPX.excO C hp.objs.size) := by heap_get
    have nk : X.K.lookup (hp.objs.size + 1) = none := by
      cases z : X.K.lookup (hp.objs.size + 1) with
      | none => rfl
      | some o =>
        have y := Heap.lt_size (XK _ _ z)
        exact absurd y (Nat.not_lt.mpr (Nat.le_succ _))
    obtain ⟨mb, hb1, hb2⟩ := Mod.blt' I.mod
    have sz : hp.objs.size ≤ ((hp.push (PySem.W.kdv_tup vs)).push (HandSPX.excO C hp.objs.size)).objs.size := by
      rw [Heap.size_push, Heap.size_push]
      omega
    rw [← ea]
    refine init_run (mg := X.mg) (mb := mb) (fun b o z => kp b o (XK b o z)) xf nk pl (I.mod.glob.at fun o z => kp _ o (I.bk _ o z)) hs (hb1.at fun o z => kp _ o (I.bk _ o z)) hb2 dep (I.nolimit.keeps kp) he fI hfi ?_
    intro h' t' dx t1 k2 ds dn hx hn
    have kp2 : ∀ b o, hp.get? b = some o → h'.get? b = some o := fun b o z => k2 b o (Nat.ne_of_lt (Nat.lt_succ_of_lt (Heap.lt_size z))) (kp b o z)
    have sd : hp.objs.size ≤ dx := Nat.le_trans sz ds
    refine ⟨rfl, ?_⟩
    refine ⟨.ref (hp.objs.size + 1), _, made_inv (t3 := t') I kp2 (Nat.le_succ _) sd dn hx hn ry, rfl, h _ _ (I.hok.fresh (Nat.le_succ _)) (I.hok.fresh sd) dn⟩
  have li : PySem.W.Looks (model X.prog X.w) hp (typeLookup (.ref C) "__init__") (some (.ref fI)) := PySem.W.looks_findIn XK hfi
  have lb : ∀ self, PySem.W.Looks (model X.prog X.w) hp (bindSpecial (.ref fI) self) (.ref fI, [self]) := fun self => PySem.W.bind_fn XK self htf
  apply wpAny_call
  cases wy with
  | pos =>
    refine HandSPX.call_own F.excBase_ValueError hT2 hC li lb (by simp [Way.us, sizeLine_eq]) ?_
    exact key [u] 0 _ [] rfl (rm.make C [u] []).depth
  | no =>
    refine HandSPX.call_own F.excBase_ValueError hT2 hC li lb (by simp [Way.us, sizeLine_eq]) ?_
    exact key [] 0 _ [] rfl (rm.make C [] []).depth
  | kw =>
    refine ccall_kw F.excBase_ValueError hT2 hC li lb ?_
    exact key [] 0 _ [] rfl (rm.make C [] [("value", u)]).depth
end
/-! ### the readings -/
/-- C(e) with C an error class with a field: the new error a, its dict dx -/
def tEx (C : Addr) (ta : TE) : TE := fun σ H Q => ta σ H fun y H1 => ∀ a dx, H1 a = none → H1 dx = none → dx ≠ a → Q (.ref a) (madeH H1 C a dx y)
section
variable {X : Cx} {file : Str} {C : Addr} {k : Nat} {x : Str} {p pos kpos : Pos} {e : Expr} {te : TE}
theorem pe_ex (xf : ExF X.K file C) (pl : Plain X.prog file) (hs : X.mg "super" = none) (rm : Room (k + 1) X.A) (hg : Gl X x) (hm : X.mg x = some (.ref C)) (kp : PySem.W.keepIn X.K (.ref C) = true) (he : PE X e te)
    (hdb : (x == ("__debug__" : Str)) = false := by decide) (hst : starEach [e] X.env = (false, eval e X.env) :: starEach [] X.env := by rfl) (hpl : (backTo pos (starEach [] X.env)).any (·.1) = false := by rfl) :
    PE X (.Call (.Name x p) [e] [] pos) (tEx C te) := by
  constructor
  intro pins s σ H Q I h
  apply wpAny_Call_Name_kw (ld_glob I hg hm ?_ hdb)
  apply PySem.W.callWith_K (h₀ := X.base) I.ok.mod.kin kp (thn ((pa_cons he pa_nil hst).run pos pins s σ H (fun vs H1 => match vs with | [y] => ∀ a dx, H1 a = none → H1 dx = none → dx ≠ a → Q (.ref a) (madeH H1 C a dx y) | _ => False) I h) ?_) hst hpl
  rintro us s1 ⟨vs, H1, I1, r, q⟩
  match vs, us, r, q with
  | [y], [u], .cons r1 .nil, q => exact ⟨I1.kIn, ex_call (wy := .pos) xf pl hs rm I1 r1 q⟩
theorem pe_ex0 (xf : ExF X.K file C) (pl : Plain X.prog file) (hs : X.mg "super" = none) (rm : Room (k + 1) X.A) (hg : Gl X x) (hm : X.mg x = some (.ref C)) (kp : PySem.W.keepIn X.K (.ref C) = true)
    (hdb : (x == ("__debug__" : Str)) = false := by decide) : PE X (.Call (.Name x p) [] [] pos) (tEx C (tC .non)) := by
  constructor
  intro pins s σ H Q I h
  apply wpAny_Call_Name_kw (ld_glob I hg hm ?_ hdb)
  exact PySem.W.callWith_K0 I.kIn kp (ex_call (wy := .no) (u := .none) (y := .non) xf pl hs rm I rfl h)
theorem pe_exK (xf : ExF X.K file C) (pl : Plain X.prog file) (hs : X.mg "super" = none) (rm : Room (k + 1) X.A) (hg : Gl X x) (hm : X.mg x = some (.ref C)) (kp : PySem.W.keepIn X.K (.ref C) = true) (he : PE X e te)
    (hall : (backToKw pos (keywordEach [⟨some "value", e, kpos⟩] X.env)).all (·.1.isSome) = true := by rfl) (hks : (backToKw pos (keywordEach [⟨some "value", e, kpos⟩] X.env)).filterMap (·.1) = (["value"] : List Str) := by rfl)
    (hdb : (x == ("__debug__" : Str)) = false := by decide) (hpl : ((backTo pos (starEach [] X.env)).any (·.1) || (backToKw pos (keywordEach [⟨some "value", e, kpos⟩] X.env)).any (·.1.isNone)) = false := by rfl) :
    PE X (.Call (.Name x p) [] [⟨some "value", e, kpos⟩] pos) (tEx C te) := by
  constructor
  intro pins s σ H Q I h
  apply wpAny_Call_Name_kw (ld_glob I hg hm ?_ hdb)
  apply PySem.W.callWith_KW0 (h₀ := X.base) I.ok.mod.kin kp hall ?_ hpl
  apply thn ((pk_cons he pk_nil).run pos pins s σ H (fun vs H1 => match vs with | [y] => ∀ a dx, H1 a = none → H1 dx = none → dx ≠ a → Q (.ref a) (madeH H1 C a dx y) | _ => False) I h) ?_
  rintro us s1 ⟨vs, H1, I1, r, q⟩
  rw [hks]
  match vs, us, r, q with
  | [y], [u], .cons r1 .nil, q => exact ⟨I1.kIn, ex_call (wy := .kw) xf pl hs rm I1 r1 q⟩
end
end EX

set_option Elab.async false
set_option linter.all false
set_option maxRecDepth 100000
set_option maxHeartbeats 1000000
namespace EX
open PySem PySem.Spec PyProof.Rows PySem.Calls L2
/-! the facts, as one Bool -/
def bodyB : FuncBody → Bool
  | .stmts [.Expr (.Call (.Attribute (.Call (.Name n1 _) [] [] _) n2 q2) [] [] q3) _, .Assign [.Attribute (.Name n3 _) n4 _] (.Name n5 _) _] =>
    decide (n1 = "super") && (decide (n2 = "__init__") && (decide (n3 = "self") && (decide (n4 = "value") && (decide (n5 = "value") && (q2.endLine == q3.line)))))
  | _ => false
theorem and2 {a b : Bool} (h : (a && b) = true) : a = true ∧ b = true := Bool.and_eq_true_iff.mp h
theorem bodyB_ok {b : FuncBody} (h : bodyB b = true) : ∃ p0 p1 p2 p3 p4 p5 p6 p7 p8, b = .stmts (eBody p0 p1 p2 p3 p4 p5 p6 p7 p8) ∧ (p2.endLine == p3.line) = true := by
  unfold bodyB at h
  split at h
  · rename_i n1 p0 p1 n2 p2 p3 p4 n3 p5 n4 p6 n5 p7 p8
    obtain ⟨h1, h⟩ := and2 h
    obtain ⟨h2, h⟩ := and2 h
    obtain ⟨h3, h⟩ := and2 h
    obtain ⟨h4, h⟩ := and2 h
    obtain ⟨h5, h6⟩ := and2 h
    have e1 := of_decide_eq_true h1
    have e2 := of_decide_eq_true h2
    have e3 := of_decide_eq_true h3
    have e4 := of_decide_eq_true h4
    have e5 := of_decide_eq_true h5
    subst e1 e2 e3 e4 e5
    exact ⟨p0, p1, p2, p3, p4, p5, p6, p7, p8, rfl, h6⟩
  · cases h
def parB (ps : Arguments) : Bool := ps.posonlyargs.isEmpty && (decide (ps.args.map (fun a => a.arg) = (["self", "value"] : List Str)) && (ps.kwonlyargs.isEmpty && (ps.vararg.isNone && ps.kwarg.isNone)))
theorem parB_ok {ps : Arguments} (h : parB ps = true) : EPar ps := by
  obtain ⟨h1, h⟩ := and2 h
  obtain ⟨h2, h⟩ := and2 h
  obtain ⟨h3, h⟩ := and2 h
  obtain ⟨h4, h5⟩ := and2 h
  exact ⟨List.isEmpty_iff.mp h1, of_decide_eq_true h2, List.isEmpty_iff.mp h3, Option.isNone_iff_eq_none.mp h4, Option.isNone_iff_eq_none.mp h5⟩
def scoB (sc : Scope) : Bool := decide (sc.kind = .function) && (!sc.isGenerator && (!sc.isCoroutine && (sc.names.all (fun x => decide (x.2 ≠ .cell)) && (decide (sc.names.lookup ("self" : Str) = some .local) && (decide (sc.names.lookup ("value" : Str) = some .local) &&
  (decide (sc.names.lookup ("super" : Str) = some .globalImplicit) && decide (sc.names.lookup ("__class__" : Str) = some .free)))))))
theorem scoB_ok {sc : Scope} (h : scoB sc = true) : ESco sc := by
  obtain ⟨h1, h⟩ := and2 h
  obtain ⟨h2, h⟩ := and2 h
  obtain ⟨h3, h⟩ := and2 h
  obtain ⟨h4, h⟩ := and2 h
  obtain ⟨h5, h⟩ := and2 h
  obtain ⟨h6, h⟩ := and2 h
  obtain ⟨h7, h8⟩ := and2 h
  exact ⟨of_decide_eq_true h1, by simpa using h2, by simpa using h3, fun x hx => of_decide_eq_true (List.all_eq_true.mp h4 x hx), of_decide_eq_true h5, of_decide_eq_true h6, of_decide_eq_true h7, of_decide_eq_true h8⟩
/-- the class object -/
def clsB (K : PySem.W.Frag) (C : Addr) : Bool := match K.lookup C with
  | some ⟨.type ty, _, .cls cd, sl⟩ => decide (ty = "type") && (cd.hasDict && (!cd.hasDel && ((match cd.mro with
      | .ref C2 :: bm => decide (C2 = C) && HandSPX.refsVE bm
      | _ => false) && (match sl.toList with
      | [_, _, _, _, some (.builtin n), _] => decide (n = "ValueError.__new__")
      | _ => false))))
  | _ => false
theorem clsB_ok {K : PySem.W.Frag} {C : Addr} (h : clsB K C = true) : ∃ nm q N bs bm sn sub ab col dd k0 k1 k2 k3 k5, K.lookup C = some (excClassObj nm q C N bs bm true sn sub ab col dd k0 k1 k2 k3 k5 "ValueError.__new__") ∧ HandSPX.refsVE bm = true := by
  unfold clsB at h
  split at h
  · rename_i ty dd cd sl lk
    obtain ⟨nm, bs, mro, N, q, hd, sn, sub, ab, col, del⟩ := cd
    obtain ⟨h1, h⟩ := and2 h
    obtain ⟨h2, h⟩ := and2 h
    obtain ⟨h3, h⟩ := and2 h
    obtain ⟨h4, h5⟩ := and2 h
    dsimp only at h2 h3 h4
    match mro, h4 with
    | .ref C2 :: bm, h4 =>
      obtain ⟨h6, h7⟩ := and2 (show (decide (C2 = C) && HandSPX.refsVE bm) = true from h4)
      split at h5
      · rename_i k0 k1 k2 k3 n k5 hs
        have e1 := of_decide_eq_true h1
        have e5 := of_decide_eq_true h5
        have e6 := of_decide_eq_true h6
        subst e1 e5 e6 h2
        have e3 : del = false := by simpa using h3
        subst e3
        have es : sl = #[k0, k1, k2, k3, some (.builtin "ValueError.__new__"), k5] := by
          apply Array.toList_inj.mp
          rw [hs]
        rw [es] at lk
        exact ⟨nm, q, N, bs, bm, sn, sub, ab, col, dd, k0, k1, k2, k3, k5, lk, h7⟩
      · cases h5
  · cases h
def oexB (K : PySem.W.Frag) (C : Addr) : Bool := clsB K C && (decide (PySem.W.findIn K (.ref C) "__setattr__" = some (some (.builtin "object.__setattr__"))) && (decide (PySem.W.subIn K (.ref C) (.type "BaseException") = some true) && (decide (PySem.W.typeIn K (.ref C) = some (.type "type")) && PySem.W.keepIn K (.ref C))))
theorem oexB_ok {K : PySem.W.Frag} {C : Addr} (h : oexB K C = true) : OexC K C := by
  obtain ⟨h1, h⟩ := and2 h
  obtain ⟨h2, h⟩ := and2 h
  obtain ⟨h3, h⟩ := and2 h
  obtain ⟨h4, h5⟩ := and2 h
  exact ⟨clsB_ok h1, of_decide_eq_true h2, of_decide_eq_true h3, of_decide_eq_true h4, h5⟩
def codeB (K : PySem.W.Frag) (file : Str) (cd : Value) (q : Str) : Bool := PySem.W.codeIn K cd q && (match cd with
  | .ref c => (match K.lookup c with
    | some ⟨_, _, .fields vs, _⟩ => (match (vs[2]? : Option Value) with
      | some (Value.str f _) => decide (f = file)
      | _ => false)
    | _ => false)
  | _ => false)
theorem codeB_ok {K : PySem.W.Frag} {file : Str} {cd : Value} {q : Str} (h : codeB K file cd q = true) : ∃ c, cd = .ref c ∧ PySem.W.codeIn K (.ref c) q = true ∧ ∃ c1 d1 vs s1 tf, K.lookup c = some ⟨c1, d1, .fields vs, s1⟩ ∧ vs[2]? = some (.str file tf) := by
  obtain ⟨h1, h2⟩ := and2 h
  split at h2
  · rename_i c
    split at h2
    · rename_i c1 d1 vs s1 lk
      split at h2
      · rename_i f tf hv
        have e := of_decide_eq_true h2
        subst e
        exact ⟨c, rfl, h1, c1, d1, vs, s1, tf, lk, hv⟩
      · cases h2
    · cases h2
  · cases h2
def cellB (K : PySem.W.Frag) (C : Addr) : List (Str × Addr) → Bool
  | [(n, cc)] => decide (n = "__class__") && (match K.lookup cc with
    | some ⟨_, _, .cell (some (.ref D)), _⟩ => decide (D = C)
    | _ => false)
  | _ => false
theorem cellB_ok {K : PySem.W.Frag} {C : Addr} {l : List (Str × Addr)} (h : cellB K C l = true) : ∃ cc, l = ([("__class__", cc)] : List (Str × Addr)) ∧ ∃ c2 d2 s2, K.lookup cc = some ⟨c2, d2, .cell (some (.ref C)), s2⟩ := by
  unfold cellB at h
  split at h
  · rename_i n cc
    obtain ⟨h1, h2⟩ := and2 h
    split at h2
    · rename_i c2 d2 D s2 lk
      have e1 := of_decide_eq_true h1
      have e2 := of_decide_eq_true h2
      subst e1 e2
      exact ⟨cc, rfl, c2, d2, s2, lk⟩
    · cases h2
  · cases h
def dflB (K : PySem.W.Frag) : Value → Bool
  | .ref T => (match K.lookup T with
    | some ⟨_, _, .seq its _, _⟩ => (match its.toList with
      | [.none] => true
      | _ => false)
    | _ => false)
  | _ => false
theorem dflB_ok {K : PySem.W.Frag} {v : Value} (h : dflB K v = true) : ∃ T, v = .ref T ∧ ∃ c3 d3 n3 s3, K.lookup T = some ⟨c3, d3, .seq #[.none] n3, s3⟩ := by
  unfold dflB at h
  split at h
  · rename_i T
    split at h
    · rename_i c3 d3 its n3 s3 lk
      split at h
      · rename_i hl
        have e : its = #[.none] := Array.toList_inj.mp hl
        subst e
        exact ⟨T, rfl, c3, d3, n3, s3, lk⟩
      · cases h
    · cases h
  · cases h
def fnB (K : PySem.W.Frag) (file : Str) (C fI : Addr) : Bool := match K.lookup fI with
  | some ⟨_, _, .func fd, _⟩ => decide (fd.name = "__init__") && (bodyB fd.body && (decide (fd.globals = mainGlobals) && (decide (fd.builtins = builtinsNs) && (cellB K C fd.closure && (dflB K fd.defaults && (codeB K file fd.code fd.qualname && (parB fd.params && scoB fd.scope)))))))
  | _ => false
def iniB (K : PySem.W.Frag) (file : Str) (C : Addr) : Bool := match PySem.W.findIn K (.ref C) "__init__" with
  | some (some (.ref fI)) => decide (PySem.W.typeIn K (.ref fI) = some (.type "function")) && fnB K file C fI
  | _ => false
def exB (K : PySem.W.Frag) (file : Str) (C : Addr) : Bool := oexB K C && (decide (PySem.W.findIn K (.ref C) "value" = some none) && (decide (PySem.W.ks_superIn K C C "__init__" = some (some (.builtin "ValueError.__init__"))) &&
  (decide (PySem.W.subIn K (.ref C) (.type "ValueError") = some true) && (decide (PySem.W.nsIn K cStatics "thirdparty.any" = some none) && (decide (PySem.W.nsIn K mainGlobals "super" = some none) && iniB K file C)))))
theorem exB_ok {K : PySem.W.Frag} {file : Str} {C : Addr} (h : exB K file C = true) : ExF K file C := by
  obtain ⟨h1, h⟩ := and2 h
  obtain ⟨h2, h⟩ := and2 h
  obtain ⟨h3, h⟩ := and2 h
  obtain ⟨h4, h⟩ := and2 h
  obtain ⟨h5, h⟩ := and2 h
  obtain ⟨h6, h7⟩ := and2 h
  refine ⟨oexB_ok h1, of_decide_eq_true h2, of_decide_eq_true h3, of_decide_eq_true h4, of_decide_eq_true h5, of_decide_eq_true h6, ?_⟩
  unfold iniB at h7
  split at h7
  · rename_i fI hf
    obtain ⟨h8, h9⟩ := and2 h7
    unfold fnB at h9
    split at h9
    · rename_i oc od fd osl lk
      obtain ⟨nm, qual, params, body, scope, gl, cl, dV, kV, doc, pm, an, code, ct, bu⟩ := fd
      dsimp only at h9
      obtain ⟨i1, h9⟩ := and2 h9
      obtain ⟨i2, h9⟩ := and2 h9
      obtain ⟨i3, h9⟩ := and2 h9
      obtain ⟨i4, h9⟩ := and2 h9
      obtain ⟨i5, h9⟩ := and2 h9
      obtain ⟨i6, h9⟩ := and2 h9
      obtain ⟨i7, h9⟩ := and2 h9
      obtain ⟨i8, i9⟩ := and2 h9
      obtain ⟨p0, p1, p2, p3, p4, p5, p6, p7, p8, e2, hl⟩ := bodyB_ok i2
      obtain ⟨cc, e5, hcell⟩ := cellB_ok i5
      obtain ⟨T, e6, hT⟩ := dflB_ok i6
      obtain ⟨cda, e7, hci, hcode⟩ := codeB_ok i7
      have e1 := of_decide_eq_true i1
      have e3 := of_decide_eq_true i3
      have e4 := of_decide_eq_true i4
      subst e1 e2 e3 e4 e5 e6 e7
      exact ⟨fI, cc, cda, T, oc, od, qual, params, p0, p1, p2, p3, p4, p5, p6, p7, p8, scope, kV, doc, pm, ct, an, osl, hf, of_decide_eq_true h8, lk, hci, parB_ok i8, scoB_ok i9, hl, hcode, hcell, hT⟩
    · cases h9
  · cases h7
end EX

set_option Elab.async false
set_option linter.all false
set_option maxRecDepth 100000
set_option maxHeartbeats 1000000
namespace EX
open PySem PySem.Spec PyProof.Rows PySem.Calls L2
/-- what isinstance and a field's reading ask of an error class -/
structure ExK (K : PySem.W.Frag) (C : Addr) : Prop where
  cl : (PySem.W.clsIn K C).isSome = true
  ga : PySem.W.findIn K (.ref C) "__getattribute__" = some (some (.builtin "BaseException.__getattribute__"))
  gg : PySem.W.findIn K (.ref C) "__getattr__" = some none
  ba : PySem.W.subIn K (.ref C) (.type "BaseException") = some true
  ca : PySem.W.findIn K (.ref C) "__class__" = some (some (.builtin "object.__class__"))
  ob : PySem.W.mroIn K C (.type "object") = some true
  hd : PySem.W.hasDictIn K C = true
structure ExS (K : PySem.W.Frag) : Prop where
  gt : PySem.W.specialIn K (.builtin "object.__class__") "__get__" = some (some (.builtin "getset_descriptor.__get__"))
  tk : PySem.W.takesIn K (.builtin "object.__class__") = some true
def exkB (K : PySem.W.Frag) (C : Addr) : Bool := (PySem.W.clsIn K C).isSome && (decide (PySem.W.findIn K (.ref C) "__getattribute__" = some (some (.builtin "BaseException.__getattribute__"))) && (decide (PySem.W.findIn K (.ref C) "__getattr__" = some none) &&
  (decide (PySem.W.subIn K (.ref C) (.type "BaseException") = some true) && (decide (PySem.W.findIn K (.ref C) "__class__" = some (some (.builtin "object.__class__"))) && (decide (PySem.W.mroIn K C (.type "object") = some true) && PySem.W.hasDictIn K C)))))
theorem exkB_ok {K : PySem.W.Frag} {C : Addr} (h : exkB K C = true) : ExK K C := by
  obtain ⟨h1, h⟩ := and2 h
  obtain ⟨h2, h⟩ := and2 h
  obtain ⟨h3, h⟩ := and2 h
  obtain ⟨h4, h⟩ := and2 h
  obtain ⟨h5, h⟩ := and2 h
  obtain ⟨h6, h7⟩ := and2 h
  exact ⟨h1, of_decide_eq_true h2, of_decide_eq_true h3, of_decide_eq_true h4, of_decide_eq_true h5, of_decide_eq_true h6, h7⟩
def exsB (K : PySem.W.Frag) : Bool := decide (PySem.W.specialIn K (.builtin "object.__class__") "__get__" = some (some (.builtin "getset_descriptor.__get__"))) && decide (PySem.W.takesIn K (.builtin "object.__class__") = some true)
theorem exsB_ok {K : PySem.W.Frag} (h : exsB K = true) : ExS K := by
  obtain ⟨h1, h2⟩ := and2 h
  exact ⟨of_decide_eq_true h1, of_decide_eq_true h2⟩
/-- an error object at a, its dict (if any) told -/
def ErrAt (H : Hp) (a C : Addr) : Prop := H a = some (exo a C none) ∨ ∃ dx fs, H a = some (exo a C (some dx)) ∧ H dx = some (exd dx fs)
section
variable {X : Cx} {pins : List (Addr × Obj)} {σ : L2.St} {H : Hp} {s : Shared}
theorem err_inst {a C : Addr} (I : Inv X pins σ H s) (h : ErrAt H a C) : ∃ ox od, PySem.W.InstAt s.heap a ox C od := by
  rcases h with h | ⟨dx, fs, h1, h2⟩
  · obtain ⟨t1, ho⟩ := exo_at I.hok h
    exact ⟨_, none, ho, rfl, rfl, trivial⟩
  · obtain ⟨t1, ho⟩ := exo_at I.hok h1
    obtain ⟨mA, hns, -⟩ := exd_at I.hok h2
    obtain ⟨od, es, ep, hod, -⟩ := hns
    exact ⟨_, some od, ho, rfl, rfl, hod⟩
/-- isinstance(e, c), e an error object -/
theorem call_exis (S : ExS X.K) : CallR X (.builtin "isinstance") (fun xs H Q => ∃ (a C : Addr) (c : V) (u : Value) (b : Bool), xs = [.ref a, c] ∧ ClsV c u ∧ ErrAt H a C ∧ ExK X.K C ∧ PySem.W.kitOne X.K (.ref C) u = some b ∧ Q (.bl b) H) := by
  intro pins s σ H xs us Q I r h
  obtain ⟨a, C, c, u, b, ex, k, ea, E, e, q⟩ := h
  subst ex
  obtain ⟨u1, u2, eu, r1, r2⟩ := vals2 r
  subst eu
  have e2 := k.eq r2
  subst e2
  cases (show u1 = Value.ref a from r1)
  obtain ⟨ox, od, J⟩ := err_inst I ea
  exact PySem.W.kia_one (PySem.W.kitx_exc E.cl E.ga E.gg E.ba E.ca S.gt S.tk E.ob) I.kIn J e (fun z => nomatch z) fun tk => ⟨.bl b, H, I.tok tk, rfl, q⟩
/-- e.f, e an error object -/
def tExv (K : PySem.W.Frag) (f : Str) (te : TE) : TE := fun σ H Q => te σ H fun x H1 => ∃ (a C dx : Addr) (fs : List (Str × V)) (v : V), x = .ref a ∧ ExK K C ∧ PySem.W.findIn K (.ref C) f = some none ∧ H1 a = some (exo a C (some dx)) ∧ H1 dx = some (exd dx fs) ∧ fs.lookup f = some v ∧ Q v H1
theorem pe_exv {e : Expr} {te : TE} {pos : Pos} {n : Str} (he : PE X e te) (hb : attributeBase e n X.env (eval e X.env) = eval e X.env := by rfl) : PE X (.Attribute e n pos) (tExv X.K n te) := by
  constructor
  intro pins s σ H Q I h
  apply attr_of hb
  apply thn (he.run pins s σ H _ I h)
  rintro u s1 ⟨x, H1, I1, rx, a, C, dx, fs, v, ex, E, hno, ea, ed, l, q⟩
  subst ex
  cases (show u = Value.ref a from rx)
  obtain ⟨t1, ho⟩ := exo_at I1.hok ea
  obtain ⟨mA, hns, hr⟩ := exd_at I1.hok ed
  obtain ⟨od, hod, hl⟩ := lookIn_ns hns
  obtain ⟨u, hu, ru⟩ := RelO.some_of (v := v) (o := mA n) (by rw [← l]; exact hr n)
  have J : PySem.W.InstAt s1.heap a _ C (some od) := ⟨ho, rfl, rfl, hod⟩
  exact HandSPX.exc_get I1.kIn J E.ga E.gg E.ba (PySem.W.findObj_own E.hd hno rfl (by rw [hl, hu])) (handed_of ru) ⟨v, H1, I1.tok _, ru, q⟩
/-- C(), C an error class without own __init__ -/
def tExB (C : Addr) : TE := fun σ H Q => ∀ a, H a = none → Q (.ref a) (upd H a (exo a C none))
theorem pe_exb {C : Addr} {x : Str} {p pos : Pos} (q : PySem.W.excIn X.K C He.veBase "ValueError.__new__" = true) (hg : Gl X x) (hm : X.mg x = some (.ref C)) (kp : PySem.W.keepIn X.K (.ref C) = true)
    (hdb : (x == ("__debug__" : Str)) = false := by decide) : PE X (.Call (.Name x p) [] [] pos) (tExB C) := by
  constructor
  intro pins s σ H Q I h
  apply wpAny_Call_Name_kw (ld_glob I hg hm ?_ hdb)
  apply PySem.W.callWith_K0 I.kIn kp
  show wpAny _ _ (call (.ref C) []) _ _ _
  obtain ⟨bm, N, nm, qn, bs, hdct, sn, sub, ab, col, dd, k0, k1, k2, k3, k5, mN, hC, hN, hni, T⟩ := exc_obj I.kIn q
  refine wpAny_call_exc_subT F.excBase_ValueError T hC hN hni (fun h' e hm => ?_) (Nat.zero_le _)
  obtain ⟨t1, he, -, -⟩ := hm.there
  have hn : H e = none := I.hok.gone hm.new
  have un : Un X.fs [] H (upd H e (exo e C none)) s.heap h' := Un.laidN hm.keeps hm.new hn
  exact ⟨.ref e, _, I.un (t' := s.toks) un (I.hok.laidN hm.keeps hn (exo_ok he)), rfl, h e hn⟩
end
end EX

set_option Elab.async false
set_option linter.all false
set_option maxRecDepth 100000
namespace HK
open PySem PySem.Spec PyProof.Rows L2 He
/-- the hook: a def's facts as in HeadHook2, and one more Bool -/
abbrev AlE : Type := AlD × Bool
def fragOf (g : Addr → Option Obj) (n : Nat) : PySem.W.Frag := frG g (cStatics :: asD g n)
def obsE (n : Nat) (fa : List Fa) (fn : List DefD) (ex : PySem.W.Frag → Bool) (g : Addr → Option Obj) : AlE := (obsD fa fn (fragOf g n), ex (fragOf g n))
def hookE (n : Nat) (fa : List Fa) (fn : List DefD) (ex : PySem.W.Frag → Bool) : PySem.W.Hook where
  α := AlE
  obs := fun s => obsE n fa fn ex s.heap.get?
  val := fun _ => (valD fn, true)
  says := fun _ h => ∃ K : PySem.W.Frag, K.In h ∧ SaysD fa fn K ∧ ex K = true
  of := fun _ s e => ⟨fragOf s.heap.get? n, frG_in, congrArg (fun z : AlE => z.1) e, congrArg (fun z : AlE => z.2) e⟩
  keeps := fun _ _ _ ⟨K, hK, c⟩ k => ⟨K, PySem.W.Frag.In.keeps hK k, c⟩
theorem obsE_eq {n : Nat} {fa : List Fa} {fn : List DefD} {ex : PySem.W.Frag → Bool} {g : Addr → Option Obj} {s : Shared} (h : ∀ a, g a = s.heap.get? a) : obsE n fa fn ex g = (hookE n fa fn ex).obs s := by
  have e : g = s.heap.get? := funext h
  rw [e] <;> rfl
end HK

set_option Elab.async false
set_option linter.all false
set_option maxRecDepth 100000
set_option maxHeartbeats 0
namespace Hd1
open PySem PySem.Spec PyProof.Rows L2 He
def top (i : Nat) : Stmt := PySem.Challenge.pw_barsanddyes_k01_errors_made.main.body.getD i (.Pass ⟨0, 0, 0, 0⟩)
abbrev s30 : Stmt := top 30
abbrev s31 : Stmt := top 31
abbrev s32 : Stmt := top 32
abbrev s33 : Stmt := top 33
abbrev s34 : Stmt := top 34
abbrev s35 : Stmt := top 35
abbrev s36 : Stmt := top 36
abbrev s37 : Stmt := top 37
abbrev s38 : Stmt := top 38
abbrev s39 : Stmt := top 39
abbrev s40 : Stmt := top 40
abbrev s41 : Stmt := top 41
abbrev s42 : Stmt := top 42
def fn0 : List He.DefD := [⟨("_law_purse", none), "_law_purse", "_law_purse", defArgs s30, defBody s30, defScope s30, [], []⟩, ⟨("_law_mixed", none), "_law_mixed", "_law_mixed", defArgs s31, defBody s31, defScope s31, [], []⟩, ⟨("_law_draw", none), "_law_draw", "_law_draw", defArgs s32, defBody s32, defScope s32, [], []⟩, ⟨("_law_purses", none), "_law_purses", "_law_purses", defArgs s33, defBody s33, defScope s33, [], []⟩, ⟨("_law_one_of", none), "_law_one_of", "_law_one_of", defArgs s34, defBody s34, defScope s34, [], []⟩, ⟨("_law_word", none), "_law_word", "_law_word", defArgs s35, defBody s35, defScope s35, [], []⟩, ⟨("_law_first", none), "_law_first", "_law_first", defArgs s36, defBody s36, defScope s36, [], []⟩, ⟨("_law_named", none), "_law_named", "_law_named", defArgs s37, defBody s37, defScope s37, [], []⟩, ⟨("_law_bare", none), "_law_bare", "_law_bare", defArgs s38, defBody s38, defScope s38, [], []⟩, ⟨("_law_code", none), "_law_code", "_law_code", defArgs s39, defBody s39, defScope s39, [], []⟩, ⟨("_law_is_error", none), "_law_is_error", "_law_is_error", defArgs s40, defBody s40, defScope s40, [], []⟩, ⟨("_law_right", none), "_law_right", "_law_right", defArgs s41, defBody s41, defScope s41, [], []⟩, ⟨("law", none), "law", "law", defArgs s42, defBody s42, defScope s42, [], []⟩]
def fn : List He.DefD := fn0
def fa0 : List He.Fa := [.glo "LandError", .glo "InvalidSize", .glo "InvalidRoads", .glo "InvalidWeb", .glo "NotTree", .glo "InvalidPlace", .glo "InvalidPlaces", .glo "InvalidKind", .glo "InvalidKinds", .glo "InvalidRoad", .glo "TakenRoad", .glo "UnknownRoad", .glo "InvalidLeading", .glo "InvalidCount", .glo "InvalidTold", .glo "InvalidTrees", .glo "InvalidRule", .glo "InvalidShares", .glo "InvalidTowns", .glo "Clash", .glo "NotRight", .glo "Broken", .glo "InvalidTown", .glo "InvalidScript", .glo "InvalidLog", .glo "InvalidText", .glo "NothingToUndo", .glo "NothingToRedo", .glo "_law_purse", .glo "_law_mixed"]
def fa1 : List He.Fa := [.glo "_law_draw", .glo "_law_purses", .glo "_law_one_of", .glo "_law_word", .glo "_law_first", .glo "_law_named", .glo "_law_bare", .glo "_law_code", .glo "_law_is_error", .glo "_law_right", .glo "law", .free "len", .free "range", .free "sorted", .free "set", .free "list", .free "isinstance", .free "int", .free "max", .free "min", .free "sum", .free "repr", .free "dict", .free "str", .free "tuple", .free "abs", .free "zip", .free "enumerate", .free "super", .free "ValueError"]
def fa2 : List He.Fa := [.free "bool"]
def fa : List He.Fa := fa0 ++ fa1 ++ fa2
def loose0 : List PySem.Str := ["LandError", "InvalidSize", "InvalidRoads", "InvalidWeb", "NotTree", "InvalidPlace", "InvalidPlaces", "InvalidKind", "InvalidKinds", "InvalidRoad", "TakenRoad", "UnknownRoad", "InvalidLeading", "InvalidCount", "InvalidTold", "InvalidTrees", "InvalidRule", "InvalidShares", "InvalidTowns", "Clash", "NotRight", "Broken", "InvalidTown", "InvalidScript", "InvalidLog", "InvalidText", "NothingToUndo", "NothingToRedo", "_law_purse", "_law_mixed"]
def loose1 : List PySem.Str := ["_law_draw", "_law_purses", "_law_one_of", "_law_word", "_law_first", "_law_named", "_law_bare", "_law_code", "_law_is_error", "_law_right"]
def loose : List PySem.Str := loose0 ++ loose1
/-- the error classes with a field, those without -/
def exF0 : List PySem.Str := ["InvalidSize", "InvalidRoads", "InvalidWeb", "NotTree", "InvalidPlace", "InvalidPlaces", "InvalidKind", "InvalidKinds", "InvalidRoad", "TakenRoad", "UnknownRoad", "InvalidLeading", "InvalidCount", "InvalidTold", "InvalidTrees", "InvalidRule", "InvalidShares", "InvalidTowns", "Clash", "NotRight", "Broken", "InvalidTown", "InvalidScript", "InvalidLog", "InvalidText"]
def exF : List PySem.Str := exF0
def exC0 : List PySem.Str := ["LandError", "NothingToUndo", "NothingToRedo"]
def exC : List PySem.Str := exC0
def file : Str := PySem.Challenge.pw_barsanddyes_k01_errors_made.main.file
def ex (K : PySem.W.Frag) : Bool := EX.exsB K && (exF.all (fun x => EX.exB K file (ga K x) && EX.exkB K (ga K x)) && (exC.all (fun x => PySem.W.excIn K (ga K x) veBase "ValueError.__new__" && (PySem.W.keepIn K (.ref (ga K x)) && EX.exkB K (ga K x))) &&
  (exF ++ exC).all (fun x => (exF ++ exC).all (fun y => decide (PySem.W.kitOne K (.ref (ga K x)) (.ref (ga K y)) = some (decide (x = y) || decide (y = "LandError")))) && decide (PySem.W.kitOne K (.ref (ga K x)) (.type "ValueError") = some true))))
abbrev R : PySem.W.OpenRow := PySem.W.OpenLaw.row PySem.Challenge.rw_barsanddyes_k01_errors_made
abbrev hk : PySem.W.Hook := HK.hookE 6 fa fn ex
def ob (s : PySem.W.SharedT) : HK.AlE := HK.obsE 6 fa fn ex (HandSHeadRun.getT s)
theorem ob_eq (s : PySem.W.SharedT) : ob s = hk.obs s.abs := HK.obsE_eq (HandSHeadRun.getT_eq s)
theorem run (w : World) : HandSHeadRun.RunEq R (PySem.W.view R.prog [42]) hk ob 60000 loose w := by
  intro os
  kernel_rfl
end Hd1

set_option Elab.async false
set_option linter.all false
set_option maxRecDepth 100000
set_option maxHeartbeats 1000000
namespace DL
open PySem PySem.Spec PyProof.Rows L2
section
variable {P : Program} {w : World} {K : PySem.W.Frag} {mg : Str → Option Value} {base : Heap} {x qual : Str} {params : Arguments} {body : List Stmt} {scope : Scope} {dvs : List V} {kws : List (Str × V)} {f : Addr} {fd : FuncData}
/-- the rule for a def, its context written out -/
theorem fnG_ofC {N ps : List Str} {k : Nat} {sp : Sp} (F : FunD K x qual params body scope dvs kws f fd) (S : FnScope N ps scope) (len : ∀ vs H Q, sp vs H Q E0 → vs.length = ps.length)
    (hb : ∀ (cdv : Value) (A : Around) (out : List Env) (s : Shared) (H : Hp) (vs : List V) (Q : VK), Good k (cxOf CX0 P w K mg base N qual scope f cdv A out s H E0).nox → sp vs H Q E0 →
      ∃ t, PSs (cxOf CX0 P w K mg base N qual scope f cdv A out s H E0).nox body t ∧ t { nx := fun _ H' => Q .non H', rt := Q } (start N vs) H) : FnG P w K mg base (k + 1) f fd ps sp := by
  obtain ⟨oc, od, dV, kV, doc, pm, an, cdv, ct, osl, rfl, lk, hcd, -, -⟩ := F.ex
  constructor
  · exact len
  intro A out s H args us vs Q room gd e0 bd rv hsp
  have kin : K.In s.heap := e0.mod.kin.keeps (fun b o e => (e0.bs b o e).1)
  have nolim : s.heap.NoLimit := e0.mod.nolimit.keeps (fun b o e => (e0.bs b o e).1)
  have vis : ∀ y ∈ ps.zip us, scope.names.lookup y.1 = some .local ∨ (scope.names.lookup y.1 = some .cell ∧ ((cellsFrom (s.heap.objs.size + 1) scope.names []).lookup y.1).isSome = true) := by
    rintro ⟨n, v⟩ hy
    cases S.par n (List.of_mem_zip hy).1 with
    | inl q => exact Or.inl q
    | inr q => exact Or.inr ⟨q, PySem.W.cellsFrom_some _ _ _ (Or.inl q)⟩
  apply codeAny_call_function room.depth (kin _ _ lk) rfl S.co S.gen rfl (PySem.W.codeRec_of kin hcd)
  refine bd _ _ _ _ ?_
  apply wpAny_newFunctionEnv_cells S.kind vis
  intro env he s1 entered
  subst he
  refine ⟨nolim.keeps entered.toInCall.keep, codeAny_func ?_⟩
  have J := inv_start (CX := CX0) (E := E0) (P := P) (w := w) S room.hd e0 (len _ _ _ hsp) rv entered
  obtain ⟨t, ht, hq⟩ := hb cdv A out s H vs Q ⟨rfl, gd, room.deeper _, S.nd⟩ hsp
  have run := ht.run [] s1 (start N vs) H _ (J.wish _) hq
  refine wpAny_mono run ?_ (fun e s' z => False.elim z)
  intro fl s' hs
  cases fl with
  | next =>
    obtain ⟨σ', H', I', q⟩ := hs
    exact ⟨V.non, H', I'.os, I'.bare, I'.base, I'.hok, rfl, q⟩
  | ret u =>
    obtain ⟨v, σ', H', I', r', q⟩ := hs
    exact ⟨v, H', I'.os, I'.bare, I'.base, I'.hok, r', q⟩
  | brk => obtain ⟨_, _, _, q⟩ := hs; exact False.elim q
  | cont => obtain ⟨_, _, _, q⟩ := hs; exact False.elim q
end
/-! the law's end for a promise of this kind -/
/-- the state at the law's call: only the script may be tracked -/
theorem law_core {P : Program} {w : World} {K : PySem.W.Frag} {mg mb : Str → Option Value} {k : Nat} {fa a : Addr} {fd : FuncData} {x : Str} {sp : Sp} {s : Shared} {vs : List Value} {H : Hp}
    (KX : K.In s.heap) (hns : s.heap.Ns mainGlobals mg) (hb : s.heap.Ns builtinsNs mb) (hbb : ∀ y : Str, y ≠ "__name__" → mb y = bootBuiltins y) (lim : s.heap.NoLimit) (hg : s.gens = #[])
    (ha : s.heap.get? a = some { cls := .type "list", data := .seq vs.toArray }) (room : Room k callerA)
    (F : ∀ base : Heap, K.In base → base.Ns mainGlobals mg → FnG P w K mg base k fa fd [x] sp) (bind : ∀ (s : Shared) (u : Value), BindsTo s fd ⟨[u], []⟩ [(x, u)])
    (hsp : sp [.ref a] H (fun v _ => v = .bl true) E0) (hok : HOk P w H s.heap) (hA : ∀ b, H b ≠ none → b = a) (hK : H a ≠ none → K.lookup a = none)
    (hO : ∀ b u, H b = some u → ∃ o ys, u = .frz o (.lst ys)) :
    codeAny (model P w) callerA (.call (.ref fa) ⟨[.ref a], []⟩) (fun r s' => r = .ok (.ret (.bool true)) ∧ OldK s.heap s'.heap ∧ s'.os = s.os ∧ AllBare s'.gens) s := by
  have is_a : ∀ {b : Addr} {u : HO}, H b = some u → b = a := fun {b u} z => hA b (by rw [z]; exact Option.some_ne_none _)
  have free_of : ∀ {b : Addr} {o : Obj} {es : Array DictEntry} {n : Nat}, s.heap.get? b = some o → o.data = .dict es n → H b = none := by
    intro b o es n e d
    cases q : H b with
    | none => rfl
    | some u =>
      have := is_a q
      subst this
      rw [ha] at e
      cases e
      exact nomatch (show Data.seq vs.toArray _ = Data.dict es n from d)
  have ns_of : ∀ {b : Addr} {m : Str → Option Value}, s.heap.Ns b m → (hidT s.heap H).Ns b m := by
    rintro b m ⟨o, es, n, e, d, r⟩
    exact ⟨o, es, n, hidT_get e (free_of e d), d, r⟩
  have kin : K.In (hidT s.heap H) := by
    intro b o e
    refine hidT_get (KX b o e) ?_
    cases q : H b with
    | none => rfl
    | some u =>
      have := is_a q
      subst this
      rw [hK (by rw [q]; exact Option.some_ne_none _)] at e
      exact nomatch e
  obtain ⟨mc, l1, l2⟩ := lim
  have md : Mod K mg (hidT s.heap H) := ⟨kin, ns_of hns, ⟨mb, ns_of hb, hbb⟩, ⟨mc, ns_of l1, l2⟩⟩
  have no : ∀ {b : Addr}, b ∉ ([] : List Addr) := List.not_mem_nil
  have e0 : Env0 P w K mg (hidT s.heap H) callerA [] s H := ⟨rfl, md, fun b o e => of_hidT e, Nat.le_of_eq (hidT_size _ _), trivial, fun b z => absurd z no, hok, .of_eq hg⟩
  refine codeAny_mono ((F _ kin (ns_of hns)).go callerA [] s H ⟨[.ref a], []⟩ [.ref a] [.ref a] _ room rfl e0 (bind s (.ref a)) (.cons rfl .nil) hsp) ?_
  intro r s' h
  match r, h with
  | .error e, h => exact False.elim h
  | .ok .next, h => exact False.elim h
  | .ok .brk, h => exact False.elim h
  | .ok .cont, h => exact False.elim h
  | .ok (.ret u), h =>
    obtain ⟨v, H', os, bare, un, hok', r', q⟩ := h
    have ev : v = .bl true := q
    subst ev
    cases (show u = Value.bool true from r')
    refine ⟨rfl, OldK.of_keep ?_, os, bare⟩
    intro b o e
    cases q : H b with
    | none => exact un.keep b o e q no no
    | some u =>
      obtain ⟨ob, ys, eu⟩ := hO b u q
      subst eu
      have e1 := (hok b _ q).1
      have e2 := (hok' b _ (un.frzs b ob _ q)).1
      rw [e] at e1
      cases e1
      exact e2
theorem law_callG {P : Program} {w : World} {K : PySem.W.Frag} {mg mb : Str → Option Value} {k : Nat} {fa a : Addr} {fd : FuncData} {x : Str} {sp : Sp} {s : Shared} {vs : List Value} {ns : List Int}
    (KX : K.In s.heap) (hns : s.heap.Ns mainGlobals mg) (hb : s.heap.Ns builtinsNs mb) (hbb : ∀ y : Str, y ≠ "__name__" → mb y = bootBuiltins y) (lim : s.heap.NoLimit) (hg : s.gens = #[])
    (ha : s.heap.get? a = some { cls := .type "list", data := .seq vs.toArray }) (hi : IntsAre vs ns) (hl : ns.length ≤ sizeLine) (room : Room k callerA)
    (F : ∀ base : Heap, K.In base → base.Ns mainGlobals mg → FnG P w K mg base k fa fd [x] sp) (bind : ∀ (s : Shared) (u : Value), BindsTo s fd ⟨[u], []⟩ [(x, u)])
    (hsp : ∀ H : Hp, SqL K H a (ns.map V.int) → sp [.ref a] H (fun v _ => v = .bl true) E0) :
    codeAny (model P w) callerA (.call (.ref fa) ⟨[.ref a], []⟩) (fun r s' => r = .ok (.ret (.bool true)) ∧ OldK s.heap s'.heap ∧ s'.os = s.os ∧ AllBare s'.gens) s := by
  have rv := vals_ints hi
  cases hk : K.lookup a with
  | some o =>
    have e := KX a o hk
    rw [ha] at e
    cases e
    have sq : SqL K (fun _ => none) a (ns.map V.int) := .inr ⟨_, vs.toArray, _, hk, rfl, rfl, rfl, (by rw [List.size_toArray, hi.length]; exact hl), (by simpa using rv)⟩
    refine law_core KX hns hb hbb lim hg ha room F bind (hsp _ sq) ?_ (fun b z => absurd rfl z) (fun z => absurd rfl z) ?_
    · intro b u z
      exact nomatch z
    · intro b u z
      exact nomatch z
  | none =>
    let o : Obj := { cls := .type "list", data := .seq vs.toArray }
    have at_ : ∀ {b : Addr} {u : HO}, upd (fun _ => none) a (.frz o (.lst (ns.map V.int))) b = some u → b = a ∧ u = .frz o (.lst (ns.map V.int)) := by
      intro b u z
      by_cases q : b = a
      · subst q
        rw [upd_same] at z
        exact ⟨rfl, (Option.some.inj z).symm⟩
      · rw [upd_ne q] at z
        exact nomatch z
    have sq : SqL K (upd (fun _ => none) a (.frz o (.lst (ns.map V.int)))) a (ns.map V.int) := .inl (.inr ⟨o, upd_same⟩)
    refine law_core KX hns hb hbb lim hg ha room F bind (hsp _ sq) ?_ ?_ (fun _ => hk) ?_
    · intro b u z
      obtain ⟨e1, e2⟩ := at_ z
      subst e1 e2
      exact ⟨ha, by rw [List.length_map]; exact hl, vs, _, rv, ha⟩
    · intro b z
      cases q : upd (fun _ => none) a (.frz o (.lst (ns.map V.int))) b with
      | none => exact absurd q z
      | some u => exact (at_ q).1
    · intro b u z
      obtain ⟨e1, e2⟩ := at_ z
      exact ⟨_, _, e2⟩
/-- THE END over a head by facts -/
theorem walk_ofG {l : PySem.W.OpenLaw} {n k : Nat} {q : Program} {loose : List Str} {XP : (Str → Option Value) → Heap → Prop} {YP : World → Heap → Prop} {d : DefRec} {x : Str}
    (hn : l.most = some n) (hn2 : n ≤ sizeLine) (hdf : d.params.defaults = []) (room : Room k callerA)
    (F : ∀ (w : World) (mg : Str → Option Value) (fa : Addr) (h : Heap), YP w h → h.Ns mainGlobals mg → mg d.name = some (.ref fa) →
      ∃ (K : PySem.W.Frag) (fd : FuncData) (sp : Sp), K.In h ∧ (∀ (s : Shared) (u : Value), BindsTo s fd ⟨[u], []⟩ [(x, u)]) ∧
        (∀ (H : Hp) (a : Addr) (ns : List Int), ns.length ≤ n → SqL K H a (ns.map V.int) → sp [.ref a] H (fun v _ => v = .bl true) E0) ∧
        ∀ base : Heap, K.In base → base.Ns mainGlobals mg → FnG l.prog w K mg base k fa fd [x] sp) :
    PySem.W.WalkO q loose XP YP l.row.toRowW d [] (fun f vs => PySem.call f vs) := by
  apply Att.attach_call hn hdf
  intro w s₀ s₁ mg mb fa o pm cd doc a vs ns G Y ho hd hcd hmg hobj hints hlen hg
  obtain ⟨K, fd, sp, KX, hb, hsp, hF⟩ := F w mg fa _ Y G.T.g hmg
  exact law_callG KX G.T.g G.T.b G.T.builtins G.T.nolimit hg hobj hints (Nat.le_trans hlen hn2) room hF hb (fun H hS => hsp H a ns hlen hS)
end DL

set_option Elab.async false
set_option linter.all false
set_option maxRecDepth 100000
set_option maxHeartbeats 1000000
namespace DL
open PySem PySem.Spec PyProof.Rows L2
section
variable {K : PySem.W.Frag} {σ : L2.St} {H : Hp} {Q : VK} {D : Ends} {tl : TE} {ta : TA} {tt : TT} {te : TE} {tb : TS} {i0 : Nat}
theorem wipe1 {x : Option V} : wipe ((wipe σ [i0]).set i0 x) [i0] = wipe σ [i0] := by
  show ((σ.set i0 none).set i0 x).set i0 none = σ.set i0 none
  rw [List.set_set, List.set_set]
/-- one turn's work of a comprehension -/
abbrev LcStep (σ : L2.St) (i0 : Nat) (tt : TT) (te : TE) (C : Addr) (R : Nat → Hp → Prop) (i : Nat) (x : V) (H' : Hp) : Prop :=
  tt ((σ.set i0 none).set i0 (some x)) H' fun b H3 => if b = true then te ((σ.set i0 none).set i0 (some x)) H3 fun y H4 => ∃ acc, H4 C = some (.lst acc) ∧ acc.length < sizeLine ∧ R (i + 1) (upd H4 C (.lst (acc ++ [y]))) else R (i + 1) H3
/-- the turns of a comprehension over n items -/
theorem lc_turn {J : It} {n : Nat} {it : Nat → V} {C : Addr} {H1 : Hp} (R : Nat → Hp → Prop) (r0 : R 0 (upd H1 C (.lst [])))
    (hgo : ∀ i H', R i H' → i < n → J.go i H') (hstop : ∀ i H', R i H' → n ≤ i → J.stop i H') (hy : ∀ i H' x H2, R i H' → i < n → J.yld i H' x H2 → H2 = H' ∧ x = it i)
    (step : ∀ i H', R i H' → i < n → LcStep σ i0 tt te C R i (it i) H') (fin : ∀ i H', R i H' → n ≤ i → Q (.ref C) H') : ∃ W : Nat → Nat → Hp → Prop, (∃ m, W 0 m (upd H1 C (.lst []))) ∧ ∀ i m H, W i m H →
      (J.stop i H ∧ Q (.ref C) H) ∨ (J.go i H ∧ ∃ Nx : Hp → Prop, (∀ H', Nx H' → ∃ m', m' < m ∧ W (i + 1) m' H') ∧ ∀ x H', J.yld i H x H' → gName i0 x (wipe σ [i0]) H' fun σ2 H2 => wipe σ2 [i0] = wipe σ [i0] ∧ tt σ2 H2 fun b H3 =>
        if b = true then te σ2 H3 fun y H4 => ∃ acc, H4 C = some (.lst acc) ∧ acc.length < sizeLine ∧ Nx (upd H4 C (.lst (acc ++ [y]))) else Nx H3) := by
  refine ⟨fun i m H => R i H ∧ m = n - i, ⟨n, r0, by omega⟩, ?_⟩
  rintro i m H' ⟨r, em⟩
  by_cases h : i < n
  · refine .inr ⟨hgo i H' r h, R (i + 1), fun H2 r2 => ⟨n - (i + 1), by omega, r2, rfl⟩, ?_⟩
    intro x H2 y
    obtain ⟨e1, e2⟩ := hy i H' x H2 r h y
    subst e1 e2
    exact ⟨wipe1, step i H2 r h⟩
  · exact .inl ⟨hstop i H' r (by omega), fin i H' r (by omega)⟩
abbrev LcTail (J : It) (σ : L2.St) (i0 : Nat) (tt : TT) (te : TE) (Q : VK) (H1 : Hp) : Prop := ∀ C, H1 C = none → ∃ W : Nat → Nat → Hp → Prop, (∃ m, W 0 m (upd H1 C (.lst []))) ∧ ∀ i m H, W i m H →
      (J.stop i H ∧ Q (.ref C) H) ∨ (J.go i H ∧ ∃ Nx : Hp → Prop, (∀ H', Nx H' → ∃ m', m' < m ∧ W (i + 1) m' H') ∧ ∀ x H', J.yld i H x H' → gName i0 x (wipe σ [i0]) H' fun σ2 H2 => wipe σ2 [i0] = wipe σ [i0] ∧ tt σ2 H2 fun b H3 =>
        if b = true then te σ2 H3 fun y H4 => ∃ acc, H4 C = some (.lst acc) ∧ acc.length < sizeLine ∧ Nx (upd H4 C (.lst (acc ++ [y]))) else Nx H3)
theorem lcL {a : Addr} {xs : List V} (sq : SqL K H a xs) (h : ∀ C, H C = none → ∃ R : Nat → Hp → Prop, R 0 (upd H C (.lst [])) ∧ (∀ i H', R i H' → SqL K H' a xs) ∧
      (∀ i H' x, R i H' → xs[i]? = some x → LcStep σ i0 tt te C R i x H') ∧ ∀ i H', R i H' → xs.length ≤ i → Q (.ref C) H') :
    ∃ a', V.ref a = .ref a' ∧ (∃ xs, SqL K H a' xs) ∧ LcTail (Itl K a') σ i0 tt te Q H := by
  refine ⟨a, rfl, ⟨xs, sq⟩, ?_⟩
  intro C hC
  obtain ⟨R, r0, ks, step, fin⟩ := h C hC
  refine lc_turn (n := xs.length) (it := fun i => xs.getD i .non) R r0 ?_ ?_ ?_ ?_ fin
  · intro i H' r lt
    exact ⟨xs, xs[i], ks i H' r, List.getElem?_eq_getElem lt⟩
  · intro i H' r le
    exact ⟨xs, ks i H' r, le⟩
  · rintro i H' x H2 r lt ⟨e1, e2⟩
    refine ⟨e1, ?_⟩
    have := e2 xs (ks i H' r)
    simp [List.getD, this]
  · intro i H' r lt
    exact step i H' _ r (by simp [List.getD, List.getElem?_eq_getElem lt])
theorem lcR {n : Nat} (lt : n < 2 ^ 62) (h : ∀ C, H C = none → ∃ R : Nat → Hp → Prop, R 0 (upd H C (.lst [])) ∧
      (∀ i H', R i H' → i < n → LcStep σ i0 tt te C R i (.int i) H') ∧ ∀ i H', R i H' → n ≤ i → Q (.ref C) H') :
    ∃ j : Int, [V.int n] = [.int j] ∧ -(2 ^ 62) ≤ j ∧ j < 2 ^ 62 ∧ LcTail (Itr 0 j.toNat) σ i0 tt te Q H := by
  refine ⟨n, rfl, by omega, by omega, ?_⟩
  intro C hC
  obtain ⟨R, r0, step, fin⟩ := h C hC
  refine lc_turn (n := n) (it := fun i => .int i) R r0 ?_ ?_ ?_ step fin
  · intro i H' r lt
    exact lt
  · intro i H' r le
    exact le
  · rintro i H' x H2 r lt ⟨e1, e2⟩
    exact ⟨e1, by rw [e2]; simp⟩
/-- the turns of a for loop over n items -/
abbrev ForStep (D : Ends) (i0 : Nat) (tb : TS) (R : Nat → L2.St → Hp → Prop) (i : Nat) (x : V) (σ' : L2.St) (H' : Hp) : Prop :=
  tb { D with nx := R (i + 1), ct := R (i + 1), bk := D.nx } (σ'.set i0 (some x)) H'
theorem for_turn {J : It} {n : Nat} {it : Nat → V} {H1 : Hp} (R : Nat → L2.St → Hp → Prop) (r0 : R 0 σ H1)
    (hgo : ∀ i σ' H', R i σ' H' → i < n → J.go i H') (hstop : ∀ i σ' H', R i σ' H' → n ≤ i → J.stop i H') (hy : ∀ i σ' H' x H2, R i σ' H' → i < n → J.yld i H' x H2 → H2 = H' ∧ x = it i)
    (step : ∀ i σ' H', R i σ' H' → i < n → ForStep D i0 tb R i (it i) σ' H') (fin : ∀ i σ' H', R i σ' H' → n ≤ i → D.nx σ' H') : ∃ W : Nat → Nat → L2.St → Hp → Prop, (∃ m, W 0 m σ H1) ∧ ∀ i m σ H, W i m σ H →
      (J.stop i H ∧ D.nx σ H) ∨ (J.go i H ∧ ∃ N : L2.St → Hp → Prop, (∀ σ' H', N σ' H' → ∃ m', m' < m ∧ W (i + 1) m' σ' H') ∧ ∀ x H', J.yld i H x H' → gName i0 x σ H' fun σ2 H2 => tb { D with nx := N, ct := N, bk := D.nx } σ2 H2) := by
  refine ⟨fun i m σ' H => R i σ' H ∧ m = n - i, ⟨n, r0, by omega⟩, ?_⟩
  rintro i m σ' H' ⟨r, em⟩
  by_cases h : i < n
  · refine .inr ⟨hgo i σ' H' r h, R (i + 1), fun σ2 H2 r2 => ⟨n - (i + 1), by omega, r2, rfl⟩, ?_⟩
    intro x H2 y
    obtain ⟨e1, e2⟩ := hy i σ' H' x H2 r h y
    subst e1 e2
    exact step i σ' H2 r h
  · exact .inl ⟨hstop i σ' H' r (by omega), fin i σ' H' r (by omega)⟩
abbrev ForTail (J : It) (i0 : Nat) (tb : TS) (D : Ends) (σ : L2.St) (H1 : Hp) : Prop := ∃ W : Nat → Nat → L2.St → Hp → Prop, (∃ m, W 0 m σ H1) ∧ ∀ i m σ H, W i m σ H →
      (J.stop i H ∧ D.nx σ H) ∨ (J.go i H ∧ ∃ N : L2.St → Hp → Prop, (∀ σ' H', N σ' H' → ∃ m', m' < m ∧ W (i + 1) m' σ' H') ∧ ∀ x H', J.yld i H x H' → gName i0 x σ H' fun σ2 H2 => tb { D with nx := N, ct := N, bk := D.nx } σ2 H2)
theorem forL {a : Addr} {xs : List V} (sq : SqL K H a xs) (R : Nat → L2.St → Hp → Prop) (r0 : R 0 σ H) (ks : ∀ i σ' H', R i σ' H' → SqL K H' a xs)
    (step : ∀ i σ' H' x, R i σ' H' → xs[i]? = some x → ForStep D i0 tb R i x σ' H') (fin : ∀ i σ' H', R i σ' H' → xs.length ≤ i → D.nx σ' H') :
    ∃ a', V.ref a = .ref a' ∧ (∃ xs, SqL K H a' xs) ∧ ForTail (Itl K a') i0 tb D σ H := by
  refine ⟨a, rfl, ⟨xs, sq⟩, ?_⟩
  refine for_turn (n := xs.length) (it := fun i => xs.getD i .non) R r0 ?_ ?_ ?_ ?_ fin
  · intro i σ' H' r lt
    exact ⟨xs, xs[i], ks i σ' H' r, List.getElem?_eq_getElem lt⟩
  · intro i σ' H' r le
    exact ⟨xs, ks i σ' H' r, le⟩
  · rintro i σ' H' x H2 r lt ⟨e1, e2⟩
    refine ⟨e1, ?_⟩
    have := e2 xs (ks i σ' H' r)
    simp [List.getD, this]
  · intro i σ' H' r lt
    exact step i σ' H' _ r (by simp [List.getD, List.getElem?_eq_getElem lt])
theorem forT {a : Addr} {xs : List V} (sq : SqT K H a xs) (R : Nat → L2.St → Hp → Prop) (r0 : R 0 σ H) (ks : ∀ i σ' H', R i σ' H' → SqT K H' a xs)
    (step : ∀ i σ' H' x, R i σ' H' → xs[i]? = some x → ForStep D i0 tb R i x σ' H') (fin : ∀ i σ' H', R i σ' H' → xs.length ≤ i → D.nx σ' H') :
    ∃ a', V.ref a = .ref a' ∧ (∃ xs, SqT K H a' xs) ∧ ForTail (Itt K a') i0 tb D σ H := by
  refine ⟨a, rfl, ⟨xs, sq⟩, ?_⟩
  refine for_turn (n := xs.length) (it := fun i => xs.getD i .non) R r0 ?_ ?_ ?_ ?_ fin
  · intro i σ' H' r lt
    exact ⟨xs, xs[i], ks i σ' H' r, List.getElem?_eq_getElem lt⟩
  · intro i σ' H' r le
    exact ⟨xs, ks i σ' H' r, le⟩
  · rintro i σ' H' x H2 r lt ⟨e1, e2⟩
    refine ⟨e1, ?_⟩
    have := e2 xs (ks i σ' H' r)
    simp [List.getD, this]
  · intro i σ' H' r lt
    exact step i σ' H' _ r (by simp [List.getD, List.getElem?_eq_getElem lt])
theorem forR {n : Nat} (lt : n < 2 ^ 62) (R : Nat → L2.St → Hp → Prop) (r0 : R 0 σ H) (step : ∀ i σ' H', R i σ' H' → i < n → ForStep D i0 tb R i (.int i) σ' H') (fin : ∀ i σ' H', R i σ' H' → n ≤ i → D.nx σ' H') :
    ∃ j : Int, [V.int n] = [.int j] ∧ -(2 ^ 62) ≤ j ∧ j < 2 ^ 62 ∧ ForTail (Itr 0 j.toNat) i0 tb D σ H := by
  refine ⟨n, rfl, by omega, by omega, ?_⟩
  refine for_turn (n := n) (it := fun i => .int i) R r0 ?_ ?_ ?_ step fin
  · intro i σ' H' r lt
    exact lt
  · intro i σ' H' r le
    exact le
  · rintro i σ' H' x H2 r lt ⟨e1, e2⟩
    exact ⟨e1, by rw [e2]; simp⟩
end
end DL

set_option Elab.async false
set_option linter.all false
set_option maxRecDepth 100000
set_option maxHeartbeats 1000000
namespace DL
open PySem PySem.Spec PyProof.Rows L2
/-- a def of the law, with what its calls ask -/
def Ok (P : Program) (w : World) (K : PySem.W.Frag) (mg : Str → Option Value) (base : Heap) (d : He.DefD) (k : Nat) (ps : List Str) (sp : Sp) : Prop :=
  ∃ fd, FnG P w K mg base k (He.fAd K d.at_) fd ps sp ∧ Binds K fd ps [] ∧ PySem.W.keepIn K (.ref (He.fAd K d.at_)) = true ∧ ∃ (oc : Value) (od : Option Addr) (osl : Array (Option Value)), K.lookup (He.fAd K d.at_) = some ⟨oc, od, .func fd, osl⟩
theorem fun_lk {K : PySem.W.Frag} {x qual : Str} {params : Arguments} {body : List Stmt} {scope : Scope} {dvs : List V} {kws : List (Str × V)} {f : Addr} {fd : FuncData} (F : FunD K x qual params body scope dvs kws f fd) :
    ∃ (oc : Value) (od : Option Addr) (osl : Array (Option Value)), K.lookup f = some ⟨oc, od, .func fd, osl⟩ := by
  obtain ⟨oc, od, dV, kV, doc, pm, an, cdv, ct, osl, -, lk, -⟩ := F.ex
  exact ⟨oc, od, osl, lk⟩
theorem Good.g' {k : Nat} {X : Cx} (h : Good k X) : X.A.guards = some [] := h.g
theorem Good.u64 {k : Nat} {X : Cx} (h : Good k X) : X.A.units + 64 < cLine := h.room.units
section
variable {X : Cx} {d : He.DefD} {k : Nat} {ps : List Str} {sp : Sp} {x : Str} {p pos : Pos} {e : Expr} {es : List Expr} {t : TA}
theorem pe_callO (F : Ok X.prog X.w X.K X.mg X.base d k ps sp) (G : Good k X) (hg : Gl X x) (hm : X.mg x = some (.ref (He.fAd X.K d.at_))) (ha : PA X (e :: es) t)
    (hdb : (x == ("__debug__" : Str)) = false := by decide) (he : starEach (e :: es) X.env = (false, eval e X.env) :: starEach es X.env := by rfl) (hpl : (backTo pos (starEach es X.env)).any (·.1) = false := by rfl) :
    PE X (.Call (.Name x p) (e :: es) [] pos) (tCall sp [] E0 t) := by
  obtain ⟨fd, f, b, kp, -⟩ := F
  exact pe_callG f G hg hm kp b .nil ha hdb he hpl
theorem pe_callO0 (F : Ok X.prog X.w X.K X.mg X.base d k ps sp) (G : Good k X) (hg : Gl X x) (hm : X.mg x = some (.ref (He.fAd X.K d.at_)))
    (hdb : (x == ("__debug__" : Str)) = false := by decide) : PE X (.Call (.Name x p) [] [] pos) (tCall sp [] E0 tNil) := by
  obtain ⟨fd, f, b, kp, -⟩ := F
  exact pe_callG0 f G hg hm kp b .nil hdb
/-- ** of a base of any size -/
theorem op_powW : OpR X (binaryOp .Pow) (rI (fun i j => 0 ≤ j ∧ (Builtin.Int.intBits i : Int) * j ≤ 2 ^ 27) fun i j => .int (i ^ j.toNat)) := opI fun _ _ _ _ _ _ _ c q => pow_int c.1 c.2 q
/-- repr of plain data, of the empty dict -/
def rRepr (K : PySem.W.Frag) : List V → Hp → VK → Prop := fun xs H Q => (∃ v d, xs = [v] ∧ Dp K H v d ∧ d.showable = true ∧ d.hasDict = false ∧ d.depth ≤ 60 ∧ d.shown.length ≤ sizeLine ∧ (∀ i, d = .int i → i.natAbs.log2 < 1920) ∧ Q (.str d.shown) H) ∨
  ∃ a, xs = [.ref a] ∧ H a = some (.dK []) ∧ Q (.str "{}") H
theorem call_reprD (g : X.A.guards = some []) (u : X.A.units + 64 < cLine) : CallR X (.builtin "repr") (rRepr X.K) := by
  intro pins s σ H xs us Q I r h
  rcases h with ⟨v, d, ex, hd, h1, h2, h3, h4, h5, q⟩ | ⟨a, ex, ha, q⟩
  · subst ex
    obtain ⟨u1, eu, r1⟩ := vals1 r
    subst eu
    obtain ⟨as, rd⟩ := Dp.reads I d v u1 hd r1
    cases hd with
    | non =>
      cases (show u1 = Value.none from r1)
      exact PySem.P.repr_of_none ⟨.str _, H, I.tok _, ⟨_, rfl⟩, q⟩
    | bl b =>
      cases (show u1 = Value.bool b from r1)
      refine PySem.P.repr_of_bool ⟨.str _, H, I.tok _, ⟨_, rfl⟩, ?_⟩
      cases b <;> exact q
    | int i =>
      obtain ⟨t, e⟩ := (show ∃ t, u1 = Value.int i t from r1)
      subst e
      exact PySem.P.repr_of_int (h5 i rfl) ⟨.str _, H, I.tok _, ⟨_, rfl⟩, q⟩
    | str z =>
      obtain ⟨t, e⟩ := (show ∃ t, u1 = Value.str z t from r1)
      subst e
      exact PySem.P.repr_of_str ⟨.str _, H, I.tok _, ⟨_, rfl⟩, q⟩ h4
    | lst sq al =>
      cases (show u1 = Value.ref _ from r1)
      exact repr_of_reads' rd h1 (fun z => by rw [h2] at z; cases z) g (by omega) (fun b o z => z) (fun h' t tk kp => ⟨.str _, H, I.kept (t' := tk) kp, ⟨_, rfl⟩, q⟩) h4
    | tup sq al =>
      cases (show u1 = Value.ref _ from r1)
      exact repr_of_reads' rd h1 (fun z => by rw [h2] at z; cases z) g (by omega) (fun b o z => z) (fun h' t tk kp => ⟨.str _, H, I.kept (t' := tk) kp, ⟨_, rfl⟩, q⟩) h4
  · subst ex
    obtain ⟨u1, eu, r1⟩ := vals1 r
    subst eu
    cases (show u1 = Value.ref a from r1)
    obtain ⟨-, hs, vs, kv, dof⟩ := (show ObjOk X.prog X.w H s.heap a (.dK []) from I.hok a _ ha)
    cases kv
    obtain ⟨o, es, ep, ho, ex, hdt, -, pr, -⟩ := dof
    have el : es.toList = [] := by
      cases z : es.toList with
      | nil => rfl
      | cons a b =>
        rw [z] at pr
        cases pr
    have rd : Reads s.heap (.ref a) (.dict []) ([a] ++ [] ++ []) := Reads.dict ho ex.1 hdt (by rw [el]; exact .nil) (by rw [el]; exact .nil)
    have na : sysModules ∉ ([a] ++ [] ++ [] : List Addr) := by
      intro z
      have e : sysModules = a := by simpa using z
      subst e
      simp at hs
    exact repr_of_reads' rd (by decide +kernel) (fun _ => na) g (by have z : PyData.depth (.dict []) ≤ 60 := (by decide +kernel); omega) (fun b o z => z) (fun h' t tk kp => ⟨.str (PyData.shown (.dict [])), H, I.kept (t' := tk) kp, ⟨_, rfl⟩, (show PyData.shown (.dict []) = "{}" from by decide +kernel) ▸ q⟩) (by decide +kernel)
theorem CallR.or' {f : Value} {r r' : List V → Hp → VK → Prop} (h : CallR X f r) (h' : CallR X f r') : CallR X f (fun xs H Q => r xs H Q ∨ r' xs H Q) := by
  intro pins s σ H xs us Q I rv q
  rcases q with q | q
  · exact h pins s σ H xs us Q I rv q
  · exact h' pins s σ H xs us Q I rv q
/-- isinstance(x, c): of plain data; of an error object -/
def rIsX (K : PySem.W.Frag) : List V → Hp → VK → Prop := fun xs H Q => rIsi K xs H Q ∨ ∃ (a C : Addr) (c : V) (u : Value) (b : Bool), xs = [.ref a, c] ∧ ClsV c u ∧ EX.ErrAt H a C ∧ EX.ExK K C ∧ PySem.W.kitOne K (.ref C) u = some b ∧ Q (.bl b) H
theorem call_isiX (S : EX.ExS X.K) : CallR X (.builtin "isinstance") (rIsX X.K) := CallR.or' call_isi (EX.call_exis S)
theorem pe_append1 {o e : Expr} {to te : TE} {apos cpos : Pos} (ho : PE X o to) (he : PE X e te) (hbase : attributeBase o "append" X.env (eval o X.env) = eval o X.env := by rfl)
    (hfew : ((backTo cpos (starEach [e] X.env)).all (fun x => !x.1) && (backToKw cpos (keywordEach [] X.env)).all (fun x => x.1.isSome)
      && decide ([e].length + ([] : List Keyword).length + (if ([] : List Keyword).isEmpty then 0 else 1) < 30)) = true := by rfl)
    (hline : (apos.endLine == cpos.line) = true := by rfl) (hs : starEach [e] X.env = (false, eval e X.env) :: starEach [] X.env := by rfl) (hplain : (backTo cpos (starEach [] X.env)).any (·.1) = false := by rfl) :
    PE X (.Call (.Attribute o "append" apos) [e] [] cpos) (tBM X.K "list" rAppend to (tCons te tNil)) :=
  pe_bm PySem.F.plainAttrs_list PySem.F.slot_list_append PySem.F.type_list_append mt_append ho (pa_cons he pa_nil hs) hbase hfew hline hs hplain
theorem pe_pop0 {o : Expr} {to : TE} {apos cpos : Pos} (ho : PE X o to) (hbase : attributeBase o "pop" X.env (eval o X.env) = eval o X.env := by rfl) (hline : (apos.endLine == cpos.line) = true := by rfl) :
    PE X (.Call (.Attribute o "pop" apos) [] [] cpos) (tBM0 X.K "list" rPop to) :=
  pe_bm0 PySem.F.plainAttrs_list PySem.F.slot_list_pop PySem.F.type_list_pop mt_pop ho hbase hline
end
end DL

set_option Elab.async false
set_option linter.all false
set_option maxRecDepth 100000
set_option maxHeartbeats 1000000
namespace DL
open PySem PySem.Spec PyProof.Rows L2
theorem mulW {i j : Int} (h : (-(2 ^ 64) < i ∧ i < 2 ^ 64) ∧ (-(2 ^ 64) < j ∧ j < 2 ^ 64)) : CMulW i j := by
  obtain ⟨⟨h1, h2⟩, h3, h4⟩ := h
  exact wide_mul (a := 65) (b := 65) (by omega) (by omega) (by decide) (by decide) (by decide)
/-! readings of tracked lists: what stands there is sure -/
def rIxO : R2 := fun x y H Q => ∃ p xs i v, x = .ref p ∧ y = .int i ∧ H p = some (.lst xs) ∧ atI xs i = some v ∧ Q v H
section
variable {X : Cx}
theorem ix_own : IxR X rIxO := by
  intro value slice pins s σ H x y v u Q I rx ry h hs
  obtain ⟨p, xs, i, z, e1, e2, hp, hv, q⟩ := h
  exact ix_list value slice pins s σ H x y v u Q I rx ry ⟨p, xs, i, z, e1, e2, .inl (.inl hp), hv, q⟩ hs
def rLenO : List V → Hp → VK → Prop := fun vs H Q => ∃ p xs, vs = [.ref p] ∧ H p = some (.lst xs) ∧ Q (.int xs.length) H
def rLenL (K : PySem.W.Frag) : List V → Hp → VK → Prop := fun vs H Q => ∃ p xs, vs = [.ref p] ∧ SqL K H p xs ∧ Q (.int xs.length) H
theorem call_lenL : CallR X (.builtin "len") (rLenL X.K) := by
  intro pins s σ H xs us Q I r h
  obtain ⟨p, ys, e, hp, q⟩ := h
  exact call_len pins s σ H xs us Q I r ⟨.ref p, ys.length, e, .inl ⟨ys, hp, rfl⟩, q⟩
theorem call_lenO : CallR X (.builtin "len") rLenO := by
  intro pins s σ H xs us Q I r h
  obtain ⟨p, ys, e, hp, q⟩ := h
  exact call_len pins s σ H xs us Q I r ⟨.ref p, ys.length, e, .inl ⟨ys, .inl (.inl hp), rfl⟩, q⟩
end
/-! rules that name the written part by itself: for a comprehension's block -/
section
variable {X : Cx} {K : PySem.W.Frag}
theorem op_eqK (hK : X.K = K) (hu : X.A.units + 64 < cLine) : OpR X (compareOp .Eq) (rEqD K) := by
  subst hK
  exact op_eqD hu
theorem op_neK (hK : X.K = K) (hu : X.A.units + 64 < cLine) : OpR X (compareOp .NotEq) (rNeD K) := by
  subst hK
  exact op_neD hu
/-- == and !=: scalars; plain data -/
def rEqU (K : PySem.W.Frag) : R2 := fun x y H Q => rEq x y H Q ∨ rEqD K x y H Q
def rNeU (K : PySem.W.Frag) : R2 := fun x y H Q => rNe x y H Q ∨ rNeD K x y H Q
theorem op_eqU (hK : X.K = K) (hu : X.A.units + 64 < cLine) : OpR X (compareOp .Eq) (rEqU K) := OpR.or op_eq (op_eqK hK hu)
theorem op_neU (hK : X.K = K) (hu : X.A.units + 64 < cLine) : OpR X (compareOp .NotEq) (rNeU K) := OpR.or op_ne (op_neK hK hu)
theorem call_reprK (hK : X.K = K) (g : X.A.guards = some []) (u : X.A.units + 64 < cLine) : CallR X (.builtin "repr") (rRepr K) := by
  subst hK
  exact call_reprD g u
theorem call_isiK' (hK : X.K = K) (S : EX.ExS K) : CallR X (.builtin "isinstance") (rIsX K) := by
  subst hK
  exact call_isiX S
theorem call_lenK (hK : X.K = K) : CallR X (.builtin "len") (rLenL K) := by
  subst hK
  exact call_lenL
theorem pe_exvK {e : Expr} {te : TE} {pos : Pos} {n : Str} (hK : X.K = K) (he : PE X e te) (hb : attributeBase e n X.env (eval e X.env) = eval e X.env := by rfl) : PE X (.Attribute e n pos) (EX.tExv K n te) := by
  subst hK
  exact EX.pe_exv he hb
theorem pi_listK {tg l : Expr} {tl : TE} (hK : X.K = K) (hl : PE X l tl) : PI X tg l (iList K tl) := by
  subst hK
  exact pi_list hl
theorem pi_tupK {tg l : Expr} {tl : TE} (hK : X.K = K) (hl : PE X l tl) : PI X tg l (iTup K tl) := by
  subst hK
  exact pi_tup hl
end
/-- dict([]) -/
def rDictE : List V → Hp → VK → Prop := fun xs H Q => ∃ a, xs = [.ref a] ∧ H a = some (.lst []) ∧ ∀ p, H p = none → Q (.ref p) (upd H p (.dK []))
theorem call_dictE {X : Cx} (hc : X.calm = true) : CallR X (.type "dict") rDictE := by
  intro pins s σ H xs us Q I r h
  obtain ⟨a, ex, ha, q⟩ := h
  exact call_dictP hc pins s σ H xs us Q I r ⟨a, [], [], ex, .inl (.inl ha), .nil, q⟩
/-! the loops' tails, kept folded -/
def ForT (J : It) (g : TG) (tb : TS) (D : Ends) (σ : L2.St) (H1 : Hp) : Prop := ∃ W : Nat → Nat → L2.St → Hp → Prop, (∃ m, W 0 m σ H1) ∧ ∀ i m σ H, W i m σ H →
  (J.stop i H ∧ D.nx σ H) ∨ (J.go i H ∧ ∃ N : L2.St → Hp → Prop, (∀ σ' H', N σ' H' → ∃ m', m' < m ∧ W (i + 1) m' σ' H') ∧ ∀ x H', J.yld i H x H' → g x σ H' fun σ2 H2 => tb { D with nx := N, ct := N, bk := D.nx } σ2 H2)
def LcT (J : It) (g : TG) (tt : TT) (te : TE) (vs : List Nat) (σ : L2.St) (Q : VK) (H1 : Hp) : Prop := ∀ C, H1 C = none → ∃ W : Nat → Nat → Hp → Prop, (∃ m, W 0 m (upd H1 C (.lst []))) ∧ ∀ i m H, W i m H →
  (J.stop i H ∧ Q (.ref C) H) ∨ (J.go i H ∧ ∃ Nx : Hp → Prop, (∀ H', Nx H' → ∃ m', m' < m ∧ W (i + 1) m' H') ∧ ∀ x H', J.yld i H x H' → g x (wipe σ vs) H' fun σ2 H2 => wipe σ2 vs = wipe σ vs ∧ tt σ2 H2 fun b H3 =>
    if b = true then te σ2 H3 fun y H4 => ∃ acc, H4 C = some (.lst acc) ∧ acc.length < sizeLine ∧ Nx (upd H4 C (.lst (acc ++ [y]))) else Nx H3)
section
variable {σ : L2.St} {H : Hp} {Q : VK} {D : Ends} {K : PySem.W.Frag} {a b to te tl ti : TE} {ta tr : TA} {tt t1 t2 : TT} {tb t u : TS} {g : TG} {wi : TI} {i : Nat} {v x y : V} {xs : List V} {vs : List Nat} {QB : Bool → Hp → Prop} {QA : List V → Hp → Prop} {r : R2} {rc : List V → Hp → VK → Prop} {C : Int → Int → Prop} {f : Int → Int → V} {sp : Sp} {ds : List V}
theorem e_seq : tSeq t u D σ H = t { D with nx := u D } σ H := rfl
theorem e_asg : tAsg te g D σ H = te σ H fun x H1 => g x σ H1 D.nx := rfl
theorem e_ret : tRet te D σ H = te σ H D.rt := rfl
theorem e_drop : tDrop te D σ H = te σ H fun _ H1 => D.nx σ H1 := rfl
theorem e_ifs : tIfS tt t u D σ H = tt σ H fun c H1 => if c = true then t D σ H1 else u D σ H1 := rfl
theorem e_next : tNext D σ H = D.nx σ H := rfl
theorem e_for : tFor wi g tb D σ H = wi σ H fun J H1 => ForT J g tb D σ H1 := rfl
theorem e_lc : tLc wi g tt te vs σ H Q = wi σ H fun J H1 => LcT J g tt te vs σ Q H1 := rfl
theorem e_name : gName i v σ H = fun Q => Q (σ.set i (some v)) H := rfl
theorem e_gsub {t3 : TSet} : gSub to ti t3 v σ H = fun Q => to σ H fun o H1 => ti σ H1 fun k H2 => t3 o k v H2 fun H3 => Q σ H3 := rfl
theorem e_setL {o k z : V} {QH : Hp → Prop} : rSetL o k z H QH = ∃ p xs k' j, o = .ref p ∧ k = .int k' ∧ H p = some (.lst xs) ∧ ixN xs.length k' = some j ∧ QH (upd H p (.lst (xs.set j z))) := rfl
theorem e_var : tVar i σ H Q = ∃ v, σ[i]? = some (some v) ∧ Q v H := rfl
theorem e_c : tC v σ H Q = Q v H := rfl
theorem e_op : tOp r a b σ H Q = a σ H fun x H1 => b σ H1 fun y H2 => r x y H2 Q := rfl
theorem e_rI : rI C f x y H Q = ∃ i j, x = .int i ∧ y = .int j ∧ C i j ∧ Q (f i j) H := rfl
theorem e_rI0 : rI0 f x y H Q = ∃ i j, x = .int i ∧ y = .int j ∧ Q (f i j) H := rfl
theorem e_add3 : rAdd3 x y H Q = ((∃ i j, x = .int i ∧ y = .int j ∧ Q (.int (i + j)) H) ∨ (∃ i j, x = .str i ∧ y = .str j ∧ i.length + j.length ≤ sizeLine ∧ Q (.str (i ++ j)) H) ∨
  ∃ l b xs zs, x = .ref l ∧ y = .ref b ∧ H l = some (.lst xs) ∧ H b = some (.lst zs) ∧ xs.length + zs.length ≤ sizeLine ∧ ∀ p, H p = none → Q (.ref p) (upd H p (.lst (xs ++ zs)))) := rfl
theorem e_B {t : TE} : tB t σ H QB = t σ H fun x H1 => ∃ c, x = .bl c ∧ QB c H1 := rfl
theorem e_not : tNot t1 σ H QB = t1 σ H fun c H1 => QB (!c) H1 := rfl
theorem e_and : tAnd t1 t2 σ H QB = t1 σ H fun c H1 => if c = true then t2 σ H1 QB else QB false H1 := rfl
theorem e_or : tOr t1 t2 σ H QB = t1 σ H fun c H1 => if c = true then QB true H1 else t2 σ H1 QB := rfl
theorem e_andV : tAndV a b σ H Q = a σ H fun x H1 => ∃ c, x = .bl c ∧ if c = true then b σ H1 Q else Q (.bl false) H1 := rfl
theorem e_orV : tOrV a b σ H Q = a σ H fun x H1 => ∃ c, x = .bl c ∧ if c = true then Q (.bl true) H1 else b σ H1 Q := rfl
theorem e_notV : tNotV a σ H Q = a σ H fun x H1 => ∃ c, x = .bl c ∧ Q (.bl (!c)) H1 := rfl
theorem e_nil : tNil σ H QA = QA [] H := rfl
theorem e_cons : tCons a tr σ H QA = a σ H fun x H1 => tr σ H1 fun xs H2 => QA (x :: xs) H2 := rfl
theorem e_cb : tCB rc ta σ H Q = ta σ H fun xs H1 => rc xs H1 Q := rfl
theorem e_call {E : XK} : tCall sp ds E ta σ H Q = ta σ H fun vs H1 => sp (vs ++ ds) H1 Q E := rfl
theorem e_lst : tLst ta σ H Q = ta σ H fun xs H1 => xs.length ≤ sizeLine ∧ ∀ p, H1 p = none → Q (.ref p) (upd H1 p (.lst xs)) := rfl
theorem e_tup : tTup ta σ H Q = ta σ H fun xs H1 => xs.length ≤ sizeLine ∧ ∀ p, H1 p = none → Q (.ref p) (upd H1 p (.tup xs)) := rfl
theorem e_bits : tBits to σ H Q = to σ H fun x H1 => ∃ i, x = .int i ∧ Q (.int (Builtin.Int.intBits i : Nat)) H1 := rfl
theorem e_ixO : rIxO x y H Q = ∃ p xs i v, x = .ref p ∧ y = .int i ∧ H p = some (.lst xs) ∧ atI xs i = some v ∧ Q v H := rfl
theorem e_ixS : rIxS x y H Q = ∃ z i c, x = .str z ∧ y = .int i ∧ z.length ≤ sizeLine ∧ atI z.cps.toList i = some c ∧ Q (.str ⟨#[c]⟩) H := rfl
theorem e_lenO : rLenO xs H Q = ∃ p ys, xs = [.ref p] ∧ H p = some (.lst ys) ∧ Q (.int ys.length) H := rfl
theorem e_lenL : rLenL K xs H Q = ∃ p ys, xs = [.ref p] ∧ SqL K H p ys ∧ Q (.int ys.length) H := rfl
theorem e_sl {rs : V → Option Int → Option Int → Hp → VK → Prop} {tl th : TO} : tSl rs te tl th σ H Q = te σ H fun x H1 => tl σ H1 fun l H2 => th σ H2 fun u H3 => rs x l u H3 Q := rfl
theorem e_rng : iRng1 ta σ H = fun R => ta σ H fun vs H1 => ∃ j : Int, vs = [.int j] ∧ -(2 ^ 62) ≤ j ∧ j < 2 ^ 62 ∧ R (Itr 0 j.toNat) H1 := rfl
theorem e_list : iList K tl σ H = fun R => tl σ H fun x H1 => ∃ a, x = .ref a ∧ (∃ xs, SqL K H1 a xs) ∧ R (Itl K a) H1 := rfl
theorem e_ituple : iTup K tl σ H = fun R => tl σ H fun x H1 => ∃ a, x = .ref a ∧ (∃ xs, SqT K H1 a xs) ∧ R (Itt K a) H1 := rfl
theorem e_yes : tYes σ H QB = QB true H := rfl
theorem e_start {N : List Str} : L2.start N xs = xs.map some ++ List.replicate (N.length - xs.length) none := rfl
theorem e_part {te : TE} {QO : Option Int → Hp → Prop} : tPart te σ H QO = te σ H fun x H1 => ∃ i, x = .int i ∧ QO (some i) H1 := rfl
theorem e_nop {QO : Option Int → Hp → Prop} : tNoPart σ H QO = QO none H := rfl
theorem e_slL {lo hi : Option Int} : rSlL K x lo hi H Q = ∃ a xs, x = .ref a ∧ SqL K H a xs ∧ ∀ p, H p = none → Q (.ref p) (upd H p (.lst (cutV xs lo hi))) := rfl
theorem e_sum : rSum K xs H Q = ∃ (a : Addr) (ns : List Int), xs = [V.ref a] ∧ SqL K H a (ns.map V.int) ∧ Q (.int ns.sum) H := rfl
theorem cutV_ints (ns : List Int) (lo hi : Option Int) : ∃ ms : List Int, cutV (ns.map V.int) lo hi = ms.map V.int := by
  unfold cutV
  rw [← List.map_drop, ← List.map_take]
  exact ⟨_, rfl⟩
/-! the loops' tails from an invariant -/
theorem lc_L {i0 : Nat} {a : Addr} {te : TE} (sq : SqL K H a xs) (h : ∀ C, H C = none → ∃ R : Nat → Hp → Prop, R 0 (upd H C (.lst [])) ∧ (∀ i H', R i H' → SqL K H' a xs) ∧
      (∀ i H' x, R i H' → xs[i]? = some x → LcStep σ i0 tt te C R i x H') ∧ ∀ i H', R i H' → xs.length ≤ i → Q (.ref C) H') : LcT (Itl K a) (gName i0) tt te [i0] σ Q H := by
  obtain ⟨a', e, -, h⟩ := lcL (te := te) (tt := tt) (σ := σ) (Q := Q) sq h
  cases e
  exact h
theorem lc_R {i0 n : Nat} {te : TE} (h : ∀ C, H C = none → ∃ R : Nat → Hp → Prop, R 0 (upd H C (.lst [])) ∧
      (∀ i H', R i H' → i < n → LcStep σ i0 tt te C R i (.int i) H') ∧ ∀ i H', R i H' → n ≤ i → Q (.ref C) H') : LcT (Itr 0 n) (gName i0) tt te [i0] σ Q H := by
  intro C hC
  obtain ⟨R, r0, step, fin⟩ := h C hC
  refine lc_turn (n := n) (it := fun i => .int i) R r0 (fun i H' r lt => lt) (fun i H' r le => le) ?_ step fin
  rintro i H' x H2 r lt ⟨e1, e2⟩
  exact ⟨e1, by rw [e2]; simp⟩
theorem for_L {i0 : Nat} {a : Addr} (sq : SqL K H a xs) (R : Nat → L2.St → Hp → Prop) (r0 : R 0 σ H) (ks : ∀ i σ' H', R i σ' H' → SqL K H' a xs)
    (step : ∀ i σ' H' x, R i σ' H' → xs[i]? = some x → ForStep D i0 tb R i x σ' H') (fin : ∀ i σ' H', R i σ' H' → xs.length ≤ i → D.nx σ' H') : ForT (Itl K a) (gName i0) tb D σ H := by
  obtain ⟨a', e, -, h⟩ := forL (tb := tb) (D := D) sq R r0 ks step fin
  cases e
  exact h
theorem for_T {i0 : Nat} {a : Addr} (sq : SqT K H a xs) (R : Nat → L2.St → Hp → Prop) (r0 : R 0 σ H) (ks : ∀ i σ' H', R i σ' H' → SqT K H' a xs)
    (step : ∀ i σ' H' x, R i σ' H' → xs[i]? = some x → ForStep D i0 tb R i x σ' H') (fin : ∀ i σ' H', R i σ' H' → xs.length ≤ i → D.nx σ' H') : ForT (Itt K a) (gName i0) tb D σ H := by
  obtain ⟨a', e, -, h⟩ := forT (tb := tb) (D := D) sq R r0 ks step fin
  cases e
  exact h
theorem for_R {i0 n : Nat} (R : Nat → L2.St → Hp → Prop) (r0 : R 0 σ H) (step : ∀ i σ' H', R i σ' H' → i < n → ForStep D i0 tb R i (.int i) σ' H') (fin : ∀ i σ' H', R i σ' H' → n ≤ i → D.nx σ' H') :
    ForT (Itr 0 n) (gName i0) tb D σ H := by
  refine for_turn (n := n) (it := fun i => .int i) R r0 (fun i σ' H' r lt => lt) (fun i σ' H' r le => le) ?_ step fin
  rintro i σ' H' x H2 r lt ⟨e1, e2⟩
  exact ⟨e1, by rw [e2]; simp⟩
end
theorem ite_tt {A B : Prop} : (if true = true then A else B) = A := if_pos rfl
theorem ite_ff {A B : Prop} : (if false = true then A else B) = B := if_neg Bool.false_ne_true
theorem ix40 : ixN (0 + 1 + 1 + 1 + 1) 0 = some 0 := rfl
theorem ix41 : ixN (0 + 1 + 1 + 1 + 1) 1 = some 1 := rfl
theorem ix42 : ixN (0 + 1 + 1 + 1 + 1) 2 = some 2 := rfl
theorem ix43 : ixN (0 + 1 + 1 + 1 + 1) 3 = some 3 := rfl
theorem at40 {α : Type} {a b c d : α} : atI [a, b, c, d] 0 = some a := rfl
theorem at41 {α : Type} {a b c d : α} : atI [a, b, c, d] 1 = some b := rfl
theorem at42 {α : Type} {a b c d : α} : atI [a, b, c, d] 2 = some c := rfl
theorem at43 {α : Type} {a b c d : α} : atI [a, b, c, d] 3 = some d := rfl
end DL

set_option Elab.async false
set_option linter.all false
set_option maxRecDepth 100000
set_option maxHeartbeats 1000000
namespace DL
open PySem PySem.Spec PyProof.Rows L2
/-! many errors made in a row -/
structure Made (H0 H : Hp) (es : List Addr) (v : V) (cs : List Addr) : Prop where
  same : Same H0 H
  len : es.length = cs.length
  err : ∀ (i : Nat) (e C : Addr), es[i]? = some e → cs[i]? = some C → ∃ dx, H e = some (exo e C (some dx)) ∧ H dx = some (exd dx [("value", v)])
  new : ∀ e ∈ es, H0 e = none
theorem sameA {H : Hp} {p : Addr} {o : HO} (h : H p = none) : Same H (upd H p o) := fun b u e => by rw [upd_ne (ne_of_none e h)]; exact e
theorem Same.none {H H1 : Hp} {a : Addr} (s : Same H H1) (h : H1 a = none) : H a = none := by
  cases z : H a with
  | none => rfl
  | some o => rw [s _ _ z] at h; cases h
theorem updN {H : Hp} {p q : Addr} {o : HO} (h : upd H p o q = none) : q ≠ p ∧ H q = none := by
  have n : q ≠ p := fun z => by rw [z, upd_same] at h; cases h
  rw [upd_ne n] at h
  exact ⟨n, h⟩
theorem Made.nil {H : Hp} {v : V} : Made H H [] v [] := ⟨Same.refl H, rfl, fun i e C h => by simp at h, fun e h => by cases h⟩
theorem Made.alloc {H0 H : Hp} {es cs : List Addr} {v : V} {p : Addr} {o : HO} (m : Made H0 H es v cs) (hp : H p = none) : Made H0 (upd H p o) es v cs :=
  ⟨m.same.trans (sameA hp), m.len, fun i e C h1 h2 => by
    obtain ⟨dx, a, b⟩ := m.err i e C h1 h2
    exact ⟨dx, sameA hp _ _ a, sameA hp _ _ b⟩, m.new⟩
theorem Made.app {H0 H1 H2 : Hp} {es es2 cs cs2 : List Addr} {v : V} (m : Made H0 H1 es v cs) (m2 : Made H1 H2 es2 v cs2) : Made H0 H2 (es ++ es2) v (cs ++ cs2) := by
  refine ⟨m.same.trans m2.same, by rw [List.length_append, List.length_append, m.len, m2.len], ?_, ?_⟩
  · intro i e C h1 h2
    by_cases lt : i < es.length
    · rw [List.getElem?_append_left lt] at h1
      rw [List.getElem?_append_left (by rw [← m.len]; exact lt)] at h2
      obtain ⟨dx, a, b⟩ := m.err i e C h1 h2
      exact ⟨dx, m2.same _ _ a, m2.same _ _ b⟩
    · rw [List.getElem?_append_right (by omega)] at h1
      rw [List.getElem?_append_right (by rw [← m.len]; omega), ← m.len] at h2
      exact m2.err _ e C h1 h2
  · intro e h
    rcases List.mem_append.mp h with h | h
    · exact m.new e h
    · exact Same.none m.same (m2.new e h)
theorem Made.one {H : Hp} {a dx C : Addr} {v : V} (ha : H a = none) (hd : H dx = none) (ne : dx ≠ a) : Made H (EX.madeH H C a dx v) [a] v [C] := by
  have ha2 : upd H dx (exd dx [("value", v)]) a = none := by rw [upd_ne (Ne.symm ne)]; exact ha
  refine ⟨(sameA hd).trans (sameA ha2), rfl, ?_, ?_⟩
  · intro i e C2 h1 h2
    cases i with
    | zero =>
      have e1 : a = e := by simpa using h1
      have e2 : C = C2 := by simpa using h2
      subst e1 e2
      exact ⟨dx, upd_same, by rw [EX.madeH, upd_ne ne, upd_same]⟩
    | succ i => simp at h1
  · intro e h
    have : e = a := by simpa using h
    subst this
    exact ha
/-- the readings of C1(e), C2(e), .. -/
def exArgs (te : TE) : List Addr → TA
  | [] => tNil
  | C :: cs => tCons (EX.tEx C te) (exArgs te cs)
theorem exArgs_of {te : TE} {σ : L2.St} {v : V} (hte : ∀ (H : Hp) (Q : VK), Q v H → te σ H Q) : ∀ (cs : List Addr) (H : Hp) (QA : List V → Hp → Prop), (∀ es H1, Made H H1 es v cs → QA (es.map V.ref) H1) → exArgs te cs σ H QA
  | [], H, QA, h => h [] H Made.nil
  | C :: cs, H, QA, h => by
    refine hte H _ ?_
    intro a dx ha hd ne
    refine exArgs_of hte cs _ _ ?_
    intro es H1 m
    exact h (a :: es) H1 ((Made.one ha hd ne).app m)
/-- found = found + [..], again and again, then return found -/
def exBody (te : TE) (i : Nat) : List (List Addr) → TS
  | [] => tRet (tVar i)
  | cs :: r => tSeq (tAsg (tOp rAdd3 (tVar i) (tLst (exArgs te cs))) (gName i)) (exBody te i r)
theorem exBody_of {te : TE} {v : V} {i : Nat} : ∀ (r : List (List Addr)) (σ : L2.St) (H0 H : Hp) (D : Ends) (l : Addr) (es cs : List Addr), i < σ.length → (∀ (σ' : L2.St), (∀ j, j ≠ i → σ'[j]? = σ[j]?) → ∀ (H : Hp) (Q : VK), Q v H → te σ' H Q) → σ[i]? = some (some (.ref l)) → Made H0 H es v cs → H l = some (.lst (es.map V.ref)) →
    (cs ++ r.flatten).length ≤ 1000 → (∀ es2 H1 l1, Made H0 H1 es2 v (cs ++ r.flatten) → H1 l1 = some (.lst (es2.map V.ref)) → D.rt (.ref l1) H1) → exBody te i r D σ H
  | [], σ, H0, H, D, l, es, cs, il, hte, hl, m, hH, sz, h => ⟨.ref l, hl, h es H l (by simpa using m) hH⟩
  | c :: r, σ, H0, H, D, l, es, cs, il, hte, hl, m, hH, sz, h => by
    refine ⟨.ref l, hl, ?_⟩
    refine exArgs_of (hte σ (fun _ _ => rfl)) c H _ ?_
    intro es2 H1 m2
    have lens : es.length + es2.length ≤ 1000 := by
      have e1 := m.len
      have e2 := m2.len
      simp only [List.length_append, List.flatten_cons] at sz
      omega
    refine ⟨by rw [List.length_map]; exact Nat.le_of_lt (small1000 (by omega)), ?_⟩
    intro p hp
    refine .inr (.inr ⟨l, p, es.map V.ref, es2.map V.ref, rfl, rfl, ?_, upd_same, ?_, ?_⟩)
    · exact sameA hp _ _ (m2.same _ _ hH)
    · rw [List.length_map, List.length_map]
      exact Nat.le_of_lt (small1000 (by omega))
    intro p2 hp2
    refine exBody_of r (σ.set i (some (.ref p2))) H0 _ D p2 (es ++ es2) (cs ++ c) (by rw [List.length_set]; exact il) ?_ (by rw [List.getElem?_set_self il]) ((m.app m2).alloc hp |>.alloc hp2) (by rw [upd_same, List.map_append]) ?_ ?_
    · intro σ' hσ
      refine hte σ' (fun j ne => ?_)
      rw [hσ j ne, List.getElem?_set_ne (Ne.symm ne)]
    · simpa [List.append_assoc] using sz
    · intro es3 H3 l3 m3 hl3
      exact h es3 H3 l3 (by simpa [List.append_assoc] using m3) hl3
theorem exBody0 {te : TE} {v : V} {i : Nat} {c : List Addr} {r : List (List Addr)} {σ : L2.St} {H : Hp} {D : Ends} (il : i < σ.length) (hte : ∀ (σ' : L2.St), (∀ j, j ≠ i → σ'[j]? = σ[j]?) → ∀ (H : Hp) (Q : VK), Q v H → te σ' H Q)
    (sz : (c ++ r.flatten).length ≤ 1000) (h : ∀ es2 H1 l1, Made H H1 es2 v (c ++ r.flatten) → H1 l1 = some (.lst (es2.map V.ref)) → D.rt (.ref l1) H1) :
    tSeq (tAsg (tLst (exArgs te c)) (gName i)) (exBody te i r) D σ H := by
  refine exArgs_of (hte σ (fun _ _ => rfl)) c H _ ?_
  intro es H1 m
  have lens : es.length ≤ 1000 := by
    have e1 := m.len
    simp only [List.length_append] at sz
    omega
  refine ⟨by rw [List.length_map]; exact Nat.le_of_lt (small1000 (by omega)), ?_⟩
  intro p hp
  refine exBody_of r (σ.set i (some (.ref p))) H _ D p es c (by rw [List.length_set]; exact il) ?_ (by rw [List.getElem?_set_self il]) (m.alloc hp) upd_same sz h
  intro σ' hσ
  refine hte σ' (fun j ne => ?_)
  rw [hσ j ne, List.getElem?_set_ne (Ne.symm ne)]
end DL

set_option Elab.async false
set_option linter.all false
set_option maxRecDepth 100000
set_option maxHeartbeats 1000000
namespace DL
open PySem PySem.Spec PyProof.Rows L2
theorem Same.sqt {K : PySem.W.Frag} {H H1 : Hp} {a : Addr} {xs : List V} (s : Same H H1) (h : SqT K H a xs) : SqT K H1 a xs := by
  rcases h with (h | ⟨o, h⟩) | h
  · exact .inl (.inl (s _ _ h))
  · exact .inl (.inr ⟨o, s _ _ h⟩)
  · exact .inr h
mutual
theorem Dp.same {K : PySem.W.Frag} {H H1 : Hp} (s : Same H H1) : ∀ (d : PyData) (v : V), Dp K H v d → Dp K H1 v d
  | .none, _, h => by cases h; exact .non
  | .bool b, _, h => by cases h; exact .bl b
  | .int i, _, h => by cases h; exact .int i
  | .str x, _, h => by cases h; exact .str x
  | .list ds, _, h => by cases h with | lst sq al => exact .lst (s.seq sq) (DpAll.same s _ _ al)
  | .tuple ds, _, h => by cases h with | tup sq al => exact .tup (Same.sqt s sq) (DpAll.same s _ _ al)
  | .dict _, _, h => nomatch h
theorem DpAll.same {K : PySem.W.Frag} {H H1 : Hp} (s : Same H H1) : ∀ (ds : List PyData) (vs : List V), DpAll K H vs ds → DpAll K H1 vs ds
  | [], _, h => by cases h; exact .nil
  | d :: ds, _, h => by cases h with | cons h1 h2 => exact .cons (Dp.same s d _ h1) (DpAll.same s ds _ h2)
end
theorem ErrAt.same {H H1 : Hp} {a C : Addr} (s : Same H H1) (h : EX.ErrAt H a C) : EX.ErrAt H1 a C := by
  rcases h with h | ⟨dx, fs, h1, h2⟩
  · exact .inl (s _ _ h)
  · exact .inr ⟨dx, fs, s _ _ h1, s _ _ h2⟩
/-- [isinstance(e, C1), ..] -/
def isArgs (K : PySem.W.Frag) : List Str → TA
  | [] => tNil
  | y :: r => tCons (tCB (rIsX K) (tCons (tVar 0) (tCons (tC (.ref (He.ga K y))) tNil))) (isArgs K r)
section
variable {K : PySem.W.Frag} {σ : L2.St} {H : Hp} {e C0 : Addr} {f : Str → Bool} {D : Ends} {i : Nat}
theorem isArgs_of (he : EX.ErrAt H e C0) (xk : EX.ExK K C0) (h0 : σ[0]? = some (some (.ref e))) : ∀ (ns : List Str) (QA : List V → Hp → Prop), (∀ y ∈ ns, PySem.W.kitOne K (.ref C0) (.ref (He.ga K y)) = some (f y)) → QA (ns.map fun y => .bl (f y)) H → isArgs K ns σ H QA
  | [], QA, _, h => h
  | y :: r, QA, hk, h => by
    refine ⟨.ref e, h0, ?_⟩
    refine .inr ⟨e, C0, _, _, f y, rfl, .own _, he, xk, hk y List.mem_cons_self, ?_⟩
    exact isArgs_of he xk h0 r _ (fun z hz => hk z (List.mem_cons_of_mem _ hz)) h
def isBody (K : PySem.W.Frag) (i : Nat) (tl : TS) : List (List Str) → TS
  | [] => tl
  | ns :: r => tSeq (tAsg (tOp rAdd3 (tVar i) (tLst (isArgs K ns))) (gName i)) (isBody K i tl r)
theorem isBody_of {tl : TS} (hi : i ≠ 0) (xk : EX.ExK K C0) : ∀ (r : List (List Str)) (σ : L2.St) (H0 H : Hp) (l : Addr) (ns : List Str), i < σ.length → EX.ErrAt H e C0 → σ[0]? = some (some (.ref e)) → σ[i]? = some (some (.ref l)) → Same H0 H → H l = some (.lst (ns.map fun y => .bl (f y))) →
    (∀ y ∈ r.flatten, PySem.W.kitOne K (.ref C0) (.ref (He.ga K y)) = some (f y)) → (ns ++ r.flatten).length ≤ 1000 →
    (∀ (σ' : L2.St) (H1 : Hp) (l1 : Addr), (∀ j, j ≠ i → σ'[j]? = σ[j]?) → σ'.length = σ.length → σ'[i]? = some (some (.ref l1)) → Same H0 H1 → H1 l1 = some (.lst ((ns ++ r.flatten).map fun y => .bl (f y))) → tl D σ' H1) → isBody K i tl r D σ H
  | [], σ, H0, H, l, ns, il, he, h0, hl, s, hH, hk, sz, h => h σ H l (fun _ _ => rfl) rfl hl s (by simpa using hH)
  | c :: r, σ, H0, H, l, ns, il, he, h0, hl, s, hH, hk, sz, h => by
    refine ⟨.ref l, hl, ?_⟩
    have lens : ns.length + c.length ≤ 1000 := by
      simp only [List.length_append, List.flatten_cons] at sz
      omega
    refine isArgs_of he xk h0 c _ (fun y hy => hk y (by simp [hy])) ?_
    refine ⟨by rw [List.length_map]; exact Nat.le_of_lt (small1000 (by omega)), ?_⟩
    intro p hp
    refine .inr (.inr ⟨l, p, _, _, rfl, rfl, sameA hp _ _ hH, upd_same, by rw [List.length_map, List.length_map]; exact Nat.le_of_lt (small1000 (by omega)), ?_⟩)
    intro p2 hp2
    have s2 : Same H (upd (upd H p (.lst (c.map fun y => .bl (f y)))) p2 (.lst ((ns.map fun y => .bl (f y)) ++ c.map fun y => .bl (f y)))) := (sameA hp).trans (sameA hp2)
    refine isBody_of hi xk r (σ.set i (some (.ref p2))) H0 _ p2 (ns ++ c) (by rw [List.length_set]; exact il) (ErrAt.same s2 he) (by rw [List.getElem?_set_ne hi]; exact h0) (by rw [List.getElem?_set_self il]) (s.trans s2) (by rw [upd_same, List.map_append]) (fun y hy => hk y (by simp [hy])) (by simpa [List.append_assoc] using sz) ?_
    intro σ' H1 l1 e1 e2 e3 e4 e5
    refine h σ' H1 l1 (fun j ne => ?_) (by rw [e2, List.length_set]) e3 e4 (by simpa [List.append_assoc] using e5)
    rw [e1 j ne, List.getElem?_set_ne (Ne.symm ne)]
theorem isBody0 {tl : TS} {c : List Str} {r : List (List Str)} (hi : i ≠ 0) (xk : EX.ExK K C0) (il : i < σ.length) (he : EX.ErrAt H e C0) (h0 : σ[0]? = some (some (.ref e))) (hk : ∀ y ∈ c ++ r.flatten, PySem.W.kitOne K (.ref C0) (.ref (He.ga K y)) = some (f y))
    (sz : (c ++ r.flatten).length ≤ 1000) (h : ∀ (σ' : L2.St) (H1 : Hp) (l1 : Addr), (∀ j, j ≠ i → σ'[j]? = σ[j]?) → σ'.length = σ.length → σ'[i]? = some (some (.ref l1)) → Same H H1 → H1 l1 = some (.lst ((c ++ r.flatten).map fun y => .bl (f y))) → tl D σ' H1) :
    tSeq (tAsg (tLst (isArgs K c)) (gName i)) (isBody K i tl r) D σ H := by
  refine isArgs_of he xk h0 c _ (fun y hy => hk y (by simp [hy])) ?_
  have lens : c.length ≤ 1000 := by
    simp only [List.length_append] at sz
    omega
  refine ⟨by rw [List.length_map]; exact Nat.le_of_lt (small1000 (by omega)), ?_⟩
  intro p hp
  refine isBody_of hi xk r (σ.set i (some (.ref p))) H _ p c (by rw [List.length_set]; exact il) (ErrAt.same (sameA hp) he) (by rw [List.getElem?_set_ne hi]; exact h0) (by rw [List.getElem?_set_self il]) (sameA hp) upd_same (fun y hy => hk y (List.mem_append_right _ hy)) sz ?_
  intro σ' H1 l1 e1 e2 e3 e4 e5
  refine h σ' H1 l1 (fun j ne => ?_) (by rw [e2, List.length_set]) e3 e4 e5
  rw [e1 j ne, List.getElem?_set_ne (Ne.symm ne)]
end
end DL

set_option Elab.async false
set_option linter.all false
set_option maxRecDepth 100000
set_option maxHeartbeats 1000000
namespace Hd1
open PySem PySem.Spec PyProof.Rows L2 DL
/-- a purse at p, drawn from n times at most -/
def Purse (H : Hp) (p : Addr) (n : Int) : Prop := ∃ x y c d : Int, H p = some (.lst [.int x, .int y, .int c, .int d]) ∧ (0 ≤ x ∧ x < 10 ^ 480) ∧ (0 ≤ y ∧ y < 2 ^ 31) ∧ (0 ≤ c ∧ c ≤ n) ∧ (0 ≤ d ∧ d < 64)
/-- all but p is kept -/
def Keep (p : Addr) (H H1 : Hp) : Prop := ∀ a o, a ≠ p → H a = some o → H1 a = some o
theorem keep_upd {p : Addr} {H : Hp} {o : HO} : Keep p H (upd H p o) := fun a u ne h => by rw [upd_ne ne]; exact h
theorem ten480 : ((10 : Int) ^ Int.toNat 60) ^ Int.toNat 8 = 10 ^ 480 := by decide +kernel
theorem Purse.same {H H1 : Hp} {p : Addr} {n : Int} (h : Purse H p n) (s : Same H H1) : Purse H1 p n := by
  obtain ⟨x, y, c, d, e, r⟩ := h
  exact ⟨x, y, c, d, s _ _ e, r⟩
theorem Purse.upd {H : Hp} {p q : Addr} {n : Int} {o : HO} (h : Purse H p n) (ne : p ≠ q) : Purse (L2.upd H q o) p n := by
  obtain ⟨x, y, c, d, e, r⟩ := h
  exact ⟨x, y, c, d, by rw [upd_ne ne]; exact e, r⟩
theorem Purse.keep {H H1 : Hp} {p q : Addr} {n : Int} (h : Purse H p n) (s : Keep q H H1) (ne : p ≠ q) : Purse H1 p n := by
  obtain ⟨x, y, c, d, e, r⟩ := h
  exact ⟨x, y, c, d, s _ _ ne e, r⟩
theorem Purse.some {H : Hp} {p : Addr} {n : Int} (h : Purse H p n) : H p ≠ none := by
  obtain ⟨x, y, c, d, e, r⟩ := h
  rw [e]
  exact Option.some_ne_none _
/-- small letters -/
def Letters (x : Str) : Prop := ∀ c ∈ x.cps.toList, 97 ≤ c ∧ c < 123
theorem no_letters : Letters (Str.ofString "") := by
  intro c hc
  have e : (Str.ofString "").cps.toList = [] := by decide +kernel
  rw [e] at hc
  cases hc
theorem alpha : ∀ j < 26, ∃ c, (Str.ofString "abcdefghijklmnopqrstuvwxyz").cps.toList[j]? = some c ∧ 97 ≤ c ∧ c < 123 := by
  have e : (Str.ofString "abcdefghijklmnopqrstuvwxyz").cps.toList = (List.range 26).map (· + 97) := by decide +kernel
  intro j hj
  rw [e]
  exact ⟨j + 97, by simp [List.getElem?_map, List.getElem?_range hj], by omega, by omega⟩
theorem app_list (x y : Str) : (x ++ y).cps.toList = x.cps.toList ++ y.cps.toList := by
  show (x.cps ++ y.cps).toList = _
  simp
theorem app_len (x y : Str) : (x ++ y).length = x.length + y.length := by
  show (x.cps ++ y.cps).size = _
  simp [Str.length]
theorem xf {K : PySem.W.Frag} (c2 : ex K = true) (x : Str) (h : x ∈ exF) : EX.ExF K file (He.ga K x) := by
  obtain ⟨-, h2⟩ := EX.and2 c2
  obtain ⟨h3, -⟩ := EX.and2 h2
  exact EX.exB_ok (EX.and2 (List.all_eq_true.mp h3 x h)).1
theorem xk {K : PySem.W.Frag} (c2 : ex K = true) (x : Str) (h : x ∈ exF ++ exC) : EX.ExK K (He.ga K x) := by
  obtain ⟨-, h2⟩ := EX.and2 c2
  obtain ⟨h3, h4⟩ := EX.and2 h2
  obtain ⟨h5, -⟩ := EX.and2 h4
  rcases List.mem_append.mp h with h | h
  · exact EX.exkB_ok (EX.and2 (List.all_eq_true.mp h3 x h)).2
  · exact EX.exkB_ok (EX.and2 (EX.and2 (List.all_eq_true.mp h5 x h)).2).2
theorem kp {K : PySem.W.Frag} (c2 : ex K = true) (x : Str) (h : x ∈ exF) : PySem.W.keepIn K (.ref (He.ga K x)) = true := (xf c2 x h).o.kC
theorem xb {K : PySem.W.Frag} (c2 : ex K = true) (x : Str) (h : x ∈ exC) : PySem.W.excIn K (He.ga K x) He.veBase "ValueError.__new__" = true := by
  obtain ⟨-, h2⟩ := EX.and2 c2
  obtain ⟨h3, h4⟩ := EX.and2 h2
  obtain ⟨h5, -⟩ := EX.and2 h4
  exact (EX.and2 (List.all_eq_true.mp h5 x h)).1
theorem kb {K : PySem.W.Frag} (c2 : ex K = true) (x : Str) (h : x ∈ exC) : PySem.W.keepIn K (.ref (He.ga K x)) = true := by
  obtain ⟨-, h2⟩ := EX.and2 c2
  obtain ⟨h3, h4⟩ := EX.and2 h2
  obtain ⟨h5, -⟩ := EX.and2 h4
  exact (EX.and2 (EX.and2 (List.all_eq_true.mp h5 x h)).2).1
theorem exs {K : PySem.W.Frag} (c2 : ex K = true) : EX.ExS K := EX.exsB_ok (EX.and2 c2).1
/-- isinstance between the classes -/
theorem isk {K : PySem.W.Frag} (c2 : ex K = true) (x y : Str) (hx : x ∈ exF ++ exC) (hy : y ∈ exF ++ exC) : PySem.W.kitOne K (.ref (He.ga K x)) (.ref (He.ga K y)) = some (decide (x = y) || decide (y = "LandError")) := by
  obtain ⟨-, h2⟩ := EX.and2 c2
  obtain ⟨h3, h4⟩ := EX.and2 h2
  obtain ⟨h5, h6⟩ := EX.and2 h4
  exact of_decide_eq_true (List.all_eq_true.mp (EX.and2 (List.all_eq_true.mp h6 x hx)).1 y hy)
theorem isv {K : PySem.W.Frag} (c2 : ex K = true) (x : Str) (hx : x ∈ exF ++ exC) : PySem.W.kitOne K (.ref (He.ga K x)) (.type "ValueError") = some true := by
  obtain ⟨-, h2⟩ := EX.and2 c2
  obtain ⟨h3, h4⟩ := EX.and2 h2
  obtain ⟨h5, h6⟩ := EX.and2 h4
  exact of_decide_eq_true (EX.and2 (List.all_eq_true.mp h6 x hx)).2
theorem bits28 {m : Int} (h1 : 1 ≤ m) (h2 : m < 2 ^ 27) : (Builtin.Int.intBits m : Int) / 28 = 0 := by
  have b : Builtin.Int.intBits m ≤ m.natAbs.log2 + 1 := by
    unfold Builtin.Int.intBits
    split <;> omega
  have l : m.natAbs.log2 < 27 := PySem.Flt.log2_lt_of (by decide) (by omega)
  omega
section
variable {P : Program} {w : World} {K : PySem.W.Frag} {mg : Str → Option Value} {base : Heap}

def D_mixed : He.DefD := ⟨("_law_mixed", none), "_law_mixed", "_law_mixed", defArgs s31, defBody s31, defScope s31, [], []⟩
theorem sc_mixed : FnScope ["_law_seed", "_law_turn", "_law_at", "_law_mixed_here"] ["_law_seed", "_law_turn", "_law_at"] (defScope s31) := ⟨rfl, rfl, rfl, by decide +kernel, rfl, by decide +kernel, by decide +kernel⟩
def sp_mixed : Sp := fun vs H Q _ => ∃ (s t a : Int), vs = [.int s, .int t, .int a] ∧ (0 ≤ s ∧ s < 2 ^ 31) ∧ (0 ≤ t ∧ t < 2 ^ 20) ∧ (0 ≤ a ∧ a < 64) ∧ ∀ r : Int, 0 ≤ r → r < 2147483587 → Q (.int r) H
theorem ok_mixed (c : He.SaysD fa fn K) (c2 : ex K = true) (XK : K.In base) (G0 : base.Ns mainGlobals mg) (pl : EX.Plain P file) : Ok P w K mg base D_mixed 1 ["_law_seed", "_law_turn", "_law_at"] sp_mixed := by
  obtain ⟨fd, F⟩ := c.def_ 1 (d := D_mixed) rfl
  refine ⟨fd, fnG_ofC (k := 0) F sc_mixed (fun vs H Q h => ?_) (fun cdv A out s H vs Q G h => ⟨_, (pss_cons (ps_set (i := 3) sc_mixed.nd rfl (by first | exact Or.inl rfl | exact Or.inr rfl) (pe_op op_add3 (pe_op op_mulW (pv 0) pe_int) (pe_op op_mulW (pe_op op_mulW pe_int (pv 1)) (pv 1))))
      (pss_cons (ps_set (i := 3) sc_mixed.nd rfl (by first | exact Or.inl rfl | exact Or.inr rfl) (pe_op op_mod (pe_op op_add3 (pe_op op_add3 (pv 3) (pe_op op_mulW pe_int (pv 2))) (pv 1)) pe_int))
      (pss_cons (ps_set (i := 3) sc_mixed.nd rfl (by first | exact Or.inl rfl | exact Or.inr rfl) (pe_op op_mod (pe_op op_add3 (pe_op op_mulW (pv 3) (pv 3)) pe_int) pe_int))
      (pss_one (ps_ret (pe_op op_mod (pe_op op_mulW (pv 3) pe_int) pe_int)))))), ?_⟩), F.bindsN fun _ _ _ _ _ _ us hl => match us, hl with | [_, _, _], _ => rfl, F.kp, fun_lk F⟩
  · obtain ⟨s, t, a, e, -⟩ := h
    subst e
    rfl
  · obtain ⟨s, t, a, e, h1, h2, h3, q⟩ := h
    subst e
    simp only [e_seq, e_asg, e_ret, e_drop, e_ifs, e_next, e_for, e_lc, e_name, e_gsub, e_setL, e_var, e_c, e_op, e_rI, e_rI0, e_add3, e_B, e_not, e_and, e_or, e_andV, e_orV, e_notV, e_nil, e_cons, e_cb, e_call, e_lst, e_tup, e_bits, e_ixO, e_ixS, e_lenO, e_sl, e_rng, e_list, e_ituple, e_yes, e_start, e_part, e_nop, e_slL, e_sum, e_lenL, List.getElem?_cons_zero, List.getElem?_cons_succ, List.getElem?_nil, List.set_cons_zero, List.set_cons_succ, List.map_cons, List.map_nil, List.nil_append, List.cons_append, List.append_nil, List.length_cons, List.length_nil, Option.some.injEq, V.int.injEq, V.str.injEq, V.bl.injEq, V.ref.injEq, HO.lst.injEq, HO.tup.injEq, reduceCtorEq, false_and, and_false, exists_false, or_false, false_or, exists_eq_left, exists_eq_left', exists_eq_right, exists_and_left, exists_and_right, true_and, and_true, List.cons.injEq, and_assoc, List.replicate, List.append_eq, Nat.sub_self, Nat.add_sub_cancel, upd_same, ix40, ix41, ix42, ix43, at40, at41, at42, at43, DL.ite_tt, DL.ite_ff, Bool.not_true, Bool.not_false]
    refine ⟨mulW (by omega), mulW (by omega), mulW (by omega), mulW (by omega), by omega, mulW (by omega), by omega, mulW (by omega), by omega, q _ (by omega) (by omega)⟩

def D_draw : He.DefD := ⟨("_law_draw", none), "_law_draw", "_law_draw", defArgs s32, defBody s32, defScope s32, [], []⟩
theorem sc_draw : FnScope ["_law_purse_here", "_law_many", "_law_found", "_law_piece", "_law_drawn"] ["_law_purse_here", "_law_many"] (defScope s32) := ⟨rfl, rfl, rfl, by decide +kernel, rfl, by decide +kernel, by decide +kernel⟩
def sp_draw : Sp := fun vs H Q _ => ∃ (p : Addr) (m n : Int), vs = [.ref p, .int m] ∧ Purse H p n ∧ n < 100000 ∧ 1 ≤ m ∧ m < 2 ^ 27 ∧ ∀ (r : Int) (H1 : Hp), 0 ≤ r → r < m → Keep p H H1 → Purse H1 p (n + 1) → Q (.int r) H1
theorem ok_draw (c : He.SaysD fa fn K) (c2 : ex K = true) (XK : K.In base) (G0 : base.Ns mainGlobals mg) (pl : EX.Plain P file) (h_mixed : Ok P w K mg base D_mixed 1 ["_law_seed", "_law_turn", "_law_at"] sp_mixed) : Ok P w K mg base D_draw 2 ["_law_purse_here", "_law_many"] sp_draw := by
  obtain ⟨fd, F⟩ := c.def_ 2 (d := D_draw) rfl
  refine ⟨fd, fnG_ofC (k := 1) F sc_draw (fun vs H Q h => ?_) (fun cdv A out s H vs Q G h => ⟨_, (pss_cons (ps_if (pt_cmp (pcOp op_gt (pe_ix ix_own (pv 0) pe_int (fun _ _ => rfl)) pe_int)) (pss_cons (ps_set (i := 4) sc_draw.nd rfl (by first | exact Or.inl rfl | exact Or.inr rfl) (pe_op op_mod (pe_ix ix_own (pv 0) pe_int (fun _ _ => rfl)) (pv 1)))
      (pss_cons (ps_asg (pe_op op_fdivW (pe_ix ix_own (pv 0) pe_int (fun _ _ => rfl)) (pv 1)) (pg_sub (pv 0) pe_int set_list))
      (pss_one (ps_ret (pv 4))))) pss_nil)
      (pss_cons (ps_set (i := 2) sc_draw.nd rfl (by first | exact Or.inl rfl | exact Or.inr rfl) pe_int)
      (pss_cons (ps_for PassesOwn.never rfl (pi_range1 rfl (He.free_ok XK G0 (c.fact 42 (f := .free "range") rfl)) (pa_cons (pe_op op_add3 pe_int (pe_op op_fdivW (pe_bits (pv 1)) pe_int)) pa_nil)) (pg_name (i := 3) sc_draw.nd rfl (by first | exact Or.inl rfl | exact Or.inr rfl)) (pss_cons (ps_asg (pe_op op_add3 (pe_ix ix_own (pv 0) pe_int (fun _ _ => rfl)) pe_int) (pg_sub (pv 0) pe_int set_list))
      (pss_one (ps_set (i := 2) sc_draw.nd rfl (by first | exact Or.inl rfl | exact Or.inr rfl) (pe_op op_add3 (pe_op op_mulW (pv 2) pe_int) (pe_callO h_mixed (G.le (by decide)) rfl (He.glo_ok XK G0 (c.fact 29 (f := .glo "_law_mixed") rfl)) (pa_cons (pe_ix ix_own (pv 0) pe_int (fun _ _ => rfl)) (pa_cons (pe_ix ix_own (pv 0) pe_int (fun _ _ => rfl)) (pa_cons (pe_ix ix_own (pv 0) pe_int (fun _ _ => rfl)) pa_nil)))))))))
      (pss_one (ps_ret (pe_op op_mod (pv 2) (pv 1))))))), ?_⟩), F.bindsN fun _ _ _ _ _ _ us hl => match us, hl with | [_, _], _ => rfl, F.kp, fun_lk F⟩
  · obtain ⟨p, m, n, e, -⟩ := h
    subst e
    rfl
  · obtain ⟨p, m, n, e, ⟨x, y, c, d, hp, hx, hy, hc, hd⟩, hn, h1, h2, q⟩ := h
    subst e
    simp only [e_seq, e_asg, e_ret, e_drop, e_ifs, e_next, e_for, e_lc, e_name, e_gsub, e_setL, e_var, e_c, e_op, e_rI, e_rI0, e_add3, e_B, e_not, e_and, e_or, e_andV, e_orV, e_notV, e_nil, e_cons, e_cb, e_call, e_lst, e_tup, e_bits, e_ixO, e_ixS, e_lenO, e_sl, e_rng, e_list, e_ituple, e_yes, e_start, e_part, e_nop, e_slL, e_sum, e_lenL, List.getElem?_cons_zero, List.getElem?_cons_succ, List.getElem?_nil, List.set_cons_zero, List.set_cons_succ, List.map_cons, List.map_nil, List.nil_append, List.cons_append, List.append_nil, List.length_cons, List.length_nil, Option.some.injEq, V.int.injEq, V.str.injEq, V.bl.injEq, V.ref.injEq, HO.lst.injEq, HO.tup.injEq, reduceCtorEq, false_and, and_false, exists_false, or_false, false_or, exists_eq_left, exists_eq_left', exists_eq_right, exists_and_left, exists_and_right, true_and, and_true, List.cons.injEq, and_assoc, List.replicate, List.append_eq, Nat.sub_self, Nat.add_sub_cancel, upd_same, ix40, ix41, ix42, ix43, at40, at41, at42, at43, DL.ite_tt, DL.ite_ff, Bool.not_true, Bool.not_false, hp]
    have dm : CDivW x m := wide_div (b := 28) (by omega) (by omega) (by decide) (by decide)
    by_cases x0 : 0 < x
    · rw [if_pos (by simpa using x0)]
      refine ⟨by omega, dm, q _ _ (Int.emod_nonneg _ (by omega)) (Int.emod_lt_of_pos _ (by omega)) keep_upd ⟨x / m, y, c, d, upd_same, ⟨Int.ediv_nonneg hx.1 (by omega), Int.lt_of_le_of_lt (Int.ediv_le_self _ hx.1) hx.2⟩, hy, ⟨hc.1, by omega⟩, hd⟩⟩
    · rw [if_neg (by simpa using x0)]
      have b0 := bits28 h1 h2
      refine ⟨wide_div (b := 28) (by omega) (by omega) (by decide) (by decide), by omega, by omega, ?_⟩
      have e1 : (1 + (Builtin.Int.intBits m : Int) / 28).toNat = 1 := by omega
      rw [e1]
      refine for_R (fun i σ' H' => (i = 0 ∧ σ' = [some (.ref p), some (.int m), some (.int 0), none, none] ∧ H' = H) ∨
        (i = 1 ∧ ∃ v : Int, σ' = [some (.ref p), some (.int m), some (.int v), some (.int 0), none] ∧ H' = upd H p (.lst [.int x, .int y, .int (c + 1), .int d]))) (.inl ⟨rfl, rfl, rfl⟩) ?_ ?_
      · rintro i σ' H' (⟨ei, es, eh⟩ | ⟨ei, -⟩) lt
        · subst ei es eh
          show tSeq _ _ _ _ _
          simp only [e_seq, e_asg, e_ret, e_drop, e_ifs, e_next, e_for, e_lc, e_name, e_gsub, e_setL, e_var, e_c, e_op, e_rI, e_rI0, e_add3, e_B, e_not, e_and, e_or, e_andV, e_orV, e_notV, e_nil, e_cons, e_cb, e_call, e_lst, e_tup, e_bits, e_ixO, e_ixS, e_lenO, e_sl, e_rng, e_list, e_ituple, e_yes, e_start, e_part, e_nop, e_slL, e_sum, e_lenL, List.getElem?_cons_zero, List.getElem?_cons_succ, List.getElem?_nil, List.set_cons_zero, List.set_cons_succ, List.map_cons, List.map_nil, List.nil_append, List.cons_append, List.append_nil, List.length_cons, List.length_nil, Option.some.injEq, V.int.injEq, V.str.injEq, V.bl.injEq, V.ref.injEq, HO.lst.injEq, HO.tup.injEq, reduceCtorEq, false_and, and_false, exists_false, or_false, false_or, exists_eq_left, exists_eq_left', exists_eq_right, exists_and_left, exists_and_right, true_and, and_true, List.cons.injEq, and_assoc, List.replicate, List.append_eq, Nat.sub_self, Nat.add_sub_cancel, upd_same, ix40, ix41, ix42, ix43, at40, at41, at42, at43, DL.ite_tt, DL.ite_ff, Bool.not_true, Bool.not_false, hp]
          refine ⟨mulW (by omega), y, c + 1, d, rfl, by omega, by omega, by omega, fun r r0 r1 => ?_⟩
          exact ⟨r, rfl, ⟨_, rfl⟩, rfl, rfl⟩
        · omega
      · rintro i σ' H' (⟨ei, -⟩ | ⟨ei, v, es, eh⟩) le
        · omega
        · subst es eh
          simp only [e_seq, e_asg, e_ret, e_drop, e_ifs, e_next, e_for, e_lc, e_name, e_gsub, e_setL, e_var, e_c, e_op, e_rI, e_rI0, e_add3, e_B, e_not, e_and, e_or, e_andV, e_orV, e_notV, e_nil, e_cons, e_cb, e_call, e_lst, e_tup, e_bits, e_ixO, e_ixS, e_lenO, e_sl, e_rng, e_list, e_ituple, e_yes, e_start, e_part, e_nop, e_slL, e_sum, e_lenL, List.getElem?_cons_zero, List.getElem?_cons_succ, List.getElem?_nil, List.set_cons_zero, List.set_cons_succ, List.map_cons, List.map_nil, List.nil_append, List.cons_append, List.append_nil, List.length_cons, List.length_nil, Option.some.injEq, V.int.injEq, V.str.injEq, V.bl.injEq, V.ref.injEq, HO.lst.injEq, HO.tup.injEq, reduceCtorEq, false_and, and_false, exists_false, or_false, false_or, exists_eq_left, exists_eq_left', exists_eq_right, exists_and_left, exists_and_right, true_and, and_true, List.cons.injEq, and_assoc, List.replicate, List.append_eq, Nat.sub_self, Nat.add_sub_cancel, upd_same, ix40, ix41, ix42, ix43, at40, at41, at42, at43, DL.ite_tt, DL.ite_ff, Bool.not_true, Bool.not_false]
          exact ⟨by omega, q _ _ (Int.emod_nonneg _ (by omega)) (Int.emod_lt_of_pos _ (by omega)) keep_upd ⟨x, y, c + 1, d, upd_same, hx, hy, by omega, hd⟩⟩

def D_purse : He.DefD := ⟨("_law_purse", none), "_law_purse", "_law_purse", defArgs s30, defBody s30, defScope s30, [], []⟩
theorem sc_purse : FnScope ["_law_script", "_law_at", "_law_seed"] ["_law_script", "_law_at"] (defScope s30) := ⟨rfl, rfl, rfl, by decide +kernel, rfl, by decide +kernel, by decide +kernel⟩
def sp_purse (K : PySem.W.Frag) : Sp := fun vs H Q _ => ∃ (a : Addr) (n : Int) (ns : List Int), vs = [.ref a, .int n] ∧ (0 ≤ n ∧ n < 64) ∧ SqL K H a (ns.map V.int) ∧ ∀ (p : Addr) (H1 : Hp), Same H H1 → H p = none → Purse H1 p 0 → Q (.ref p) H1
theorem ok_purse (c : He.SaysD fa fn K) (c2 : ex K = true) (XK : K.In base) (G0 : base.Ns mainGlobals mg) (pl : EX.Plain P file) : Ok P w K mg base D_purse 1 ["_law_script", "_law_at"] (sp_purse K) := by
  obtain ⟨fd, F⟩ := c.def_ 0 (d := D_purse) rfl
  refine ⟨fd, fnG_ofC (k := 0) F sc_purse (fun vs H Q h => ?_) (fun cdv A out s H vs Q G h => ⟨_, (pss_cons (ps_set (i := 2) sc_purse.nd rfl (by first | exact Or.inl rfl | exact Or.inr rfl) (pe_callB (cr_sum rfl) rfl (He.free_ok XK G0 (c.fact 50 (f := .free "sum") rfl)) (by decide +kernel) (pa_cons (pe_slice sl_list (pv 0) (po_some (pv 1)) (po_some (pe_op op_add3 (pv 1) pe_int))) pa_nil)))
      (pss_one (ps_ret (pe_lst (pa_cons (pe_op op_mod (pe_callB (call_max2 rfl) rfl (He.free_ok XK G0 (c.fact 48 (f := .free "max") rfl)) (by decide +kernel) (pa_cons (pe_op op_sub (pv 2) (pe_op op_powW pe_int pe_int)) (pa_cons pe_int pa_nil))) (pe_op op_powW (pe_op op_powW pe_int pe_int) pe_int)) (pa_cons (pe_op op_mod (pv 2) pe_int) (pa_cons pe_int (pa_cons (pv 1) pa_nil)))))))), ?_⟩), F.bindsN fun _ _ _ _ _ _ us hl => match us, hl with | [_, _], _ => rfl, F.kp, fun_lk F⟩
  · obtain ⟨a, n, ns, e, -⟩ := h
    subst e
    rfl
  · obtain ⟨a, n, ns, e, hn, sq, q⟩ := h
    subst e
    simp only [e_seq, e_asg, e_ret, e_drop, e_ifs, e_next, e_for, e_lc, e_name, e_gsub, e_setL, e_var, e_c, e_op, e_rI, e_rI0, e_add3, e_B, e_not, e_and, e_or, e_andV, e_orV, e_notV, e_nil, e_cons, e_cb, e_call, e_lst, e_tup, e_bits, e_ixO, e_ixS, e_lenO, e_sl, e_rng, e_list, e_ituple, e_yes, e_start, e_part, e_nop, e_slL, e_sum, e_lenL, List.getElem?_cons_zero, List.getElem?_cons_succ, List.getElem?_nil, List.set_cons_zero, List.set_cons_succ, List.map_cons, List.map_nil, List.nil_append, List.cons_append, List.append_nil, List.length_cons, List.length_nil, Option.some.injEq, V.int.injEq, V.str.injEq, V.bl.injEq, V.ref.injEq, HO.lst.injEq, HO.tup.injEq, reduceCtorEq, false_and, and_false, exists_false, or_false, false_or, exists_eq_left, exists_eq_left', exists_eq_right, exists_and_left, exists_and_right, true_and, and_true, List.cons.injEq, and_assoc, List.replicate, List.append_eq, Nat.sub_self, Nat.add_sub_cancel, upd_same, ix40, ix41, ix42, ix43, at40, at41, at42, at43, DL.ite_tt, DL.ite_ff, Bool.not_true, Bool.not_false]
    obtain ⟨ms, em⟩ := cutV_ints ns (some n) (some (n + 1))
    refine ⟨_, sq, fun p hp => ⟨ms, .inl (.inl (by rw [em]; exact upd_same)), by decide, by decide +kernel, by decide, by decide +kernel, by decide, by decide +kernel, by decide +kernel, by decide, by decide +kernel, fun p1 hp1 => ?_⟩⟩
    obtain ⟨n1, n2⟩ := updN hp1
    rw [ten480]
    exact q p1 _ ((sameA hp).trans (sameA hp1)) n2 ⟨_, _, 0, n, upd_same, ⟨Int.emod_nonneg _ (by decide +kernel), Int.emod_lt_of_pos _ (by decide +kernel)⟩, by omega, by omega, by omega⟩

def D_purses : He.DefD := ⟨("_law_purses", none), "_law_purses", "_law_purses", defArgs s33, defBody s33, defScope s33, [], []⟩
theorem sc_purses : FnScope ["_law_script", "_law_few", "_law_at"] ["_law_script", "_law_few"] (defScope s33) := ⟨rfl, rfl, rfl, by decide +kernel, rfl, by decide +kernel, by decide +kernel⟩
def Purses (H0 H : Hp) (ps : List Addr) (n : Int) : Prop := (∀ p ∈ ps, Purse H p n ∧ H0 p = none) ∧ ps.Nodup
def sp_purses (K : PySem.W.Frag) : Sp := fun vs H Q _ => ∃ (a : Addr) (n : Int) (ns : List Int), vs = [.ref a, .int 3] ∧ ns.length ≤ 63 ∧ SqL K H a (ns.map V.int) ∧ ∀ (l : Addr) (ps : List Addr) (H1 : Hp), Same H H1 → ps.length ≤ 3 → H1 l = some (.lst (ps.map V.ref)) → l ∉ ps → Purses H H1 ps 0 → Q (.ref l) H1
theorem ok_purses (c : He.SaysD fa fn K) (c2 : ex K = true) (XK : K.In base) (G0 : base.Ns mainGlobals mg) (pl : EX.Plain P file) (h_purse : Ok P w K mg base D_purse 1 ["_law_script", "_law_at"] (sp_purse K)) : Ok P w K mg base D_purses 2 ["_law_script", "_law_few"] (sp_purses K) := by
  obtain ⟨fd, F⟩ := c.def_ 3 (d := D_purses) rfl
  refine ⟨fd, fnG_ofC (k := 1) F sc_purses (fun vs H Q h => ?_) (fun cdv A out s H vs Q G h => ⟨_, (pss_one (ps_ret (pe_lc (own := [("_law_at", 2)]) rfl sc_purses.nd (pi_range1 rfl (He.free_ok XK G0 (c.fact 42 (f := .free "range") rfl)) (pa_cons (pe_callB (call_max2 rfl) rfl (He.free_ok XK G0 (c.fact 48 (f := .free "max") rfl)) (by decide +kernel) (pa_cons pe_int (pa_cons (pe_callB (call_min2 rfl) rfl (He.free_ok XK G0 (c.fact 49 (f := .free "min") rfl)) (by decide +kernel) (pa_cons (pv 1) (pa_cons (pe_callB (call_lenK (K := K) rfl) rfl (He.free_ok XK G0 (c.fact 41 (f := .free "len") rfl)) (by decide +kernel) (pa_cons (pv 0) pa_nil)) pa_nil))) pa_nil))) pa_nil)) (show BlkOk ["_law_script", "_law_few", "_law_at"] (defScope s33) _ [("_law_at", 2)] from ⟨rfl, by decide +kernel, by decide +kernel, by decide +kernel, by decide +kernel⟩) (fun _ _ _ _ _ => pg_name (i := 2) sc_purses.nd rfl (Or.inl rfl)) (fun _ _ _ _ _ => by exact pts_nil) (fun _ _ _ _ _ => by exact (pe_callO h_purse ((G.blk _ _ _ _ _).le (by decide)) rfl (He.glo_ok XK G0 (c.fact 28 (f := .glo "_law_purse") rfl)) (pa_cons (pv 0) (pa_cons (pv 2) pa_nil))))))), ?_⟩), F.bindsN fun _ _ _ _ _ _ us hl => match us, hl with | [_, _], _ => rfl, F.kp, fun_lk F⟩
  · obtain ⟨a, n, ns, e, -⟩ := h
    subst e
    rfl
  · obtain ⟨a, n, ns, e, hn, sq, q⟩ := h
    subst e
    simp only [e_seq, e_asg, e_ret, e_drop, e_ifs, e_next, e_for, e_lc, e_name, e_gsub, e_setL, e_var, e_c, e_op, e_rI, e_rI0, e_add3, e_B, e_not, e_and, e_or, e_andV, e_orV, e_notV, e_nil, e_cons, e_cb, e_call, e_lst, e_tup, e_bits, e_ixO, e_ixS, e_lenO, e_sl, e_rng, e_list, e_ituple, e_yes, e_start, e_part, e_nop, e_slL, e_sum, e_lenL, List.getElem?_cons_zero, List.getElem?_cons_succ, List.getElem?_nil, List.set_cons_zero, List.set_cons_succ, List.map_cons, List.map_nil, List.nil_append, List.cons_append, List.append_nil, List.length_cons, List.length_nil, Option.some.injEq, V.int.injEq, V.str.injEq, V.bl.injEq, V.ref.injEq, HO.lst.injEq, HO.tup.injEq, reduceCtorEq, false_and, and_false, exists_false, or_false, false_or, exists_eq_left, exists_eq_left', exists_eq_right, exists_and_left, exists_and_right, true_and, and_true, List.cons.injEq, and_assoc, List.replicate, List.append_eq, Nat.sub_self, Nat.add_sub_cancel, upd_same, ix40, ix41, ix42, ix43, at40, at41, at42, at43, DL.ite_tt, DL.ite_ff, Bool.not_true, Bool.not_false]
    refine ⟨_, sq, ?_⟩
    generalize hm : (if (if ((ns.map V.int).length : Int) < 3 then ((ns.map V.int).length : Int) else 3) > 1 then if ((ns.map V.int).length : Int) < 3 then ((ns.map V.int).length : Int) else 3 else 1) = m
    have hm3 : 0 ≤ m ∧ m ≤ 3 := by subst hm; split <;> split <;> omega
    refine ⟨by omega, by omega, lc_R (fun C hC => ?_)⟩
    obtain ⟨R, hR⟩ : ∃ R : Nat → Hp → Prop, ∀ i H', R i H' ↔ (∃ ps : List Addr, (ps.length = i ∧ i ≤ 3) ∧ H' C = some (.lst (ps.map V.ref)) ∧ Same H H' ∧ C ∉ ps ∧ Purses H H' ps 0) := ⟨_, fun _ _ => Iff.rfl⟩
    refine ⟨R, (hR _ _).mpr ?_, ?_, ?_⟩
    · exact ⟨[], ⟨rfl, by omega⟩, upd_same, sameA hC, by simp, by simp, .nil⟩
    · rintro i H' r lt
      obtain ⟨ps, e1, e2, e3, e4, e5, e6⟩ := (hR _ _).mp r
      show tYes _ _ _
      simp only [e_seq, e_asg, e_ret, e_drop, e_ifs, e_next, e_for, e_lc, e_name, e_gsub, e_setL, e_var, e_c, e_op, e_rI, e_rI0, e_add3, e_B, e_not, e_and, e_or, e_andV, e_orV, e_notV, e_nil, e_cons, e_cb, e_call, e_lst, e_tup, e_bits, e_ixO, e_ixS, e_lenO, e_sl, e_rng, e_list, e_ituple, e_yes, e_start, e_part, e_nop, e_slL, e_sum, e_lenL, List.getElem?_cons_zero, List.getElem?_cons_succ, List.getElem?_nil, List.set_cons_zero, List.set_cons_succ, List.map_cons, List.map_nil, List.nil_append, List.cons_append, List.append_nil, List.length_cons, List.length_nil, Option.some.injEq, V.int.injEq, V.str.injEq, V.bl.injEq, V.ref.injEq, HO.lst.injEq, HO.tup.injEq, reduceCtorEq, false_and, and_false, exists_false, or_false, false_or, exists_eq_left, exists_eq_left', exists_eq_right, exists_and_left, exists_and_right, true_and, and_true, List.cons.injEq, and_assoc, List.replicate, List.append_eq, Nat.sub_self, Nat.add_sub_cancel, upd_same, ix40, ix41, ix42, ix43, at40, at41, at42, at43, DL.ite_tt, DL.ite_ff, Bool.not_true, Bool.not_false]
      refine ⟨a, i, ns, rfl, by omega, e3.seq sq, fun p H1 s1 n1 pu => ?_⟩
      refine ⟨_, s1 _ _ e2, ?_⟩
      have pC : p ≠ C := fun z => by rw [z, e2] at n1; cases n1
      have pp : p ∉ ps := fun z => (e5 p z).1.some n1
      have hp : H p = none := by
        cases z : H p with
        | none => rfl
        | some o => rw [e3 _ _ z] at n1; cases n1
      have s2 : Same H H1 := e3.trans s1
      have s3 : Same H (upd H1 C (.lst (ps.map V.ref ++ [V.ref p]))) := fun b o z => by
        have bC : b ≠ C := fun y => by rw [y, hC] at z; cases z
        rw [upd_ne bC]
        exact s2 b o z
      refine ⟨by rw [List.length_map]; exact small1000 (by omega), (hR _ _).mpr ⟨ps ++ [p], ⟨by simp [e1.1], by omega⟩, by simp [upd_same], s3, ?_, ?_, ?_⟩⟩
      · simp [e4, Ne.symm pC]
      · intro b hb
        rcases List.mem_append.mp hb with hb | hb
        · exact ⟨((e5 b hb).1.same s1).upd (fun z => e4 (z ▸ hb)), (e5 b hb).2⟩
        · have : b = p := by simpa using hb
          subst this
          exact ⟨pu.upd pC, hp⟩
      · exact List.nodup_append.mpr ⟨e6, by simp, fun b hb d hd => by
          have : d = p := by simpa using hd
          subst this
          exact fun z => pp (z ▸ hb)⟩
    · rintro i H' r le
      obtain ⟨ps, e1, e2, e3, e4, e5, e6⟩ := (hR _ _).mp r
      exact q C ps H' e3 (by omega) e2 e4 ⟨e5, e6⟩

def D_one_of : He.DefD := ⟨("_law_one_of", none), "_law_one_of", "_law_one_of", defArgs s34, defBody s34, defScope s34, [], []⟩
theorem sc_one_of : FnScope ["_law_purse_here", "_law_some"] ["_law_purse_here", "_law_some"] (defScope s34) := ⟨rfl, rfl, rfl, by decide +kernel, rfl, by decide +kernel, by decide +kernel⟩
def sp_one_of : Sp := fun vs H Q _ => ∃ (p l : Addr) (n : Int) (xs : List V), vs = [.ref p, .ref l] ∧ Purse H p n ∧ n < 100000 ∧ l ≠ p ∧ H l = some (.lst xs) ∧ 1 ≤ xs.length ∧ xs.length ≤ 1000 ∧ ∀ (x : V) (H1 : Hp), x ∈ xs → Keep p H H1 → Purse H1 p (n + 1) → Q x H1
theorem ok_one_of (c : He.SaysD fa fn K) (c2 : ex K = true) (XK : K.In base) (G0 : base.Ns mainGlobals mg) (pl : EX.Plain P file) (h_draw : Ok P w K mg base D_draw 2 ["_law_purse_here", "_law_many"] sp_draw) : Ok P w K mg base D_one_of 3 ["_law_purse_here", "_law_some"] sp_one_of := by
  obtain ⟨fd, F⟩ := c.def_ 4 (d := D_one_of) rfl
  refine ⟨fd, fnG_ofC (k := 2) F sc_one_of (fun vs H Q h => ?_) (fun cdv A out s H vs Q G h => ⟨_, (pss_one (ps_ret (pe_ix ix_own (pv 1) (pe_callO h_draw (G.le (by decide)) rfl (He.glo_ok XK G0 (c.fact 30 (f := .glo "_law_draw") rfl)) (pa_cons (pv 0) (pa_cons (pe_callB call_lenO rfl (He.free_ok XK G0 (c.fact 41 (f := .free "len") rfl)) (by decide +kernel) (pa_cons (pv 1) pa_nil)) pa_nil))) (fun _ _ => rfl)))), ?_⟩), F.bindsN fun _ _ _ _ _ _ us hl => match us, hl with | [_, _], _ => rfl, F.kp, fun_lk F⟩
  · obtain ⟨p, l, n, xs, e, -⟩ := h
    subst e
    rfl
  · obtain ⟨p, l, n, xs, e, hp, hn, ne, hl, h1, h2, q⟩ := h
    subst e
    simp only [e_seq, e_asg, e_ret, e_drop, e_ifs, e_next, e_for, e_lc, e_name, e_gsub, e_setL, e_var, e_c, e_op, e_rI, e_rI0, e_add3, e_B, e_not, e_and, e_or, e_andV, e_orV, e_notV, e_nil, e_cons, e_cb, e_call, e_lst, e_tup, e_bits, e_ixO, e_ixS, e_lenO, e_sl, e_rng, e_list, e_ituple, e_yes, e_start, e_part, e_nop, e_slL, e_sum, e_lenL, List.getElem?_cons_zero, List.getElem?_cons_succ, List.getElem?_nil, List.set_cons_zero, List.set_cons_succ, List.map_cons, List.map_nil, List.nil_append, List.cons_append, List.append_nil, List.length_cons, List.length_nil, Option.some.injEq, V.int.injEq, V.str.injEq, V.bl.injEq, V.ref.injEq, HO.lst.injEq, HO.tup.injEq, reduceCtorEq, false_and, and_false, exists_false, or_false, false_or, exists_eq_left, exists_eq_left', exists_eq_right, exists_and_left, exists_and_right, true_and, and_true, List.cons.injEq, and_assoc, List.replicate, List.append_eq, Nat.sub_self, Nat.add_sub_cancel, upd_same, ix40, ix41, ix42, ix43, at40, at41, at42, at43, DL.ite_tt, DL.ite_ff, Bool.not_true, Bool.not_false, hl]
    refine ⟨p, xs.length, n, rfl, hp, hn, by omega, by omega, fun r H1 r0 r1 kp pu => ?_⟩
    obtain ⟨j, ej⟩ := Int.eq_ofNat_of_zero_le r0
    subst ej
    have lt : j < xs.length := by omega
    exact ⟨xs, j, rfl, kp l _ ne hl, xs[j], atI_nat (List.getElem?_eq_getElem lt), q _ _ (List.getElem_mem lt) kp pu⟩

def D_word : He.DefD := ⟨("_law_word", none), "_law_word", "_law_word", defArgs s35, defBody s35, defScope s35, [], []⟩
theorem sc_word : FnScope ["_law_purse_here", "_law_found", "_law_turn"] ["_law_purse_here"] (defScope s35) := ⟨rfl, rfl, rfl, by decide +kernel, rfl, by decide +kernel, by decide +kernel⟩
def sp_word : Sp := fun vs H Q _ => ∃ (p : Addr) (n : Int), vs = [.ref p] ∧ Purse H p n ∧ n < 90000 ∧ ∀ (x : Str) (H1 : Hp), Letters x → x.length ≤ 8 → Keep p H H1 → Purse H1 p (n + 9) → Q (.str x) H1
theorem ok_word (c : He.SaysD fa fn K) (c2 : ex K = true) (XK : K.In base) (G0 : base.Ns mainGlobals mg) (pl : EX.Plain P file) (h_draw : Ok P w K mg base D_draw 2 ["_law_purse_here", "_law_many"] sp_draw) : Ok P w K mg base D_word 3 ["_law_purse_here"] sp_word := by
  obtain ⟨fd, F⟩ := c.def_ 5 (d := D_word) rfl
  refine ⟨fd, fnG_ofC (k := 2) F sc_word (fun vs H Q h => ?_) (fun cdv A out s H vs Q G h => ⟨_, (pss_cons (ps_set (i := 1) sc_word.nd rfl (by first | exact Or.inl rfl | exact Or.inr rfl) pe_str)
      (pss_cons (ps_for PassesOwn.never rfl (pi_range1 rfl (He.free_ok XK G0 (c.fact 42 (f := .free "range") rfl)) (pa_cons (pe_op op_add3 pe_int (pe_callO h_draw (G.le (by decide)) rfl (He.glo_ok XK G0 (c.fact 30 (f := .glo "_law_draw") rfl)) (pa_cons (pv 0) (pa_cons pe_int pa_nil)))) pa_nil)) (pg_name (i := 2) sc_word.nd rfl (by first | exact Or.inl rfl | exact Or.inr rfl)) (pss_one (ps_set (i := 1) sc_word.nd rfl (by first | exact Or.inl rfl | exact Or.inr rfl) (pe_op op_add3 (pv 1) (pe_ix ix_str pe_str (pe_callO h_draw (G.le (by decide)) rfl (He.glo_ok XK G0 (c.fact 30 (f := .glo "_law_draw") rfl)) (pa_cons (pv 0) (pa_cons pe_int pa_nil))) (fun _ _ => rfl))))))
      (pss_one (ps_ret (pv 1))))), ?_⟩), F.bindsN fun _ _ _ _ _ _ us hl => match us, hl with | [_], _ => rfl, F.kp, fun_lk F⟩
  · obtain ⟨p, n, e, -⟩ := h
    subst e
    rfl
  · obtain ⟨p, n, e, hp, hn, q⟩ := h
    subst e
    simp only [e_seq, e_asg, e_ret, e_drop, e_ifs, e_next, e_for, e_lc, e_name, e_gsub, e_setL, e_var, e_c, e_op, e_rI, e_rI0, e_add3, e_B, e_not, e_and, e_or, e_andV, e_orV, e_notV, e_nil, e_cons, e_cb, e_call, e_lst, e_tup, e_bits, e_ixO, e_ixS, e_lenO, e_sl, e_rng, e_list, e_ituple, e_yes, e_start, e_part, e_nop, e_slL, e_sum, e_lenL, List.getElem?_cons_zero, List.getElem?_cons_succ, List.getElem?_nil, List.set_cons_zero, List.set_cons_succ, List.map_cons, List.map_nil, List.nil_append, List.cons_append, List.append_nil, List.length_cons, List.length_nil, Option.some.injEq, V.int.injEq, V.str.injEq, V.bl.injEq, V.ref.injEq, HO.lst.injEq, HO.tup.injEq, reduceCtorEq, false_and, and_false, exists_false, or_false, false_or, exists_eq_left, exists_eq_left', exists_eq_right, exists_and_left, exists_and_right, true_and, and_true, List.cons.injEq, and_assoc, List.replicate, List.append_eq, Nat.sub_self, Nat.add_sub_cancel, upd_same, ix40, ix41, ix42, ix43, at40, at41, at42, at43, DL.ite_tt, DL.ite_ff, Bool.not_true, Bool.not_false]
    refine ⟨p, 8, n, rfl, hp, by omega, by omega, by omega, fun r H1 r0 r1 kp pu => ⟨r, rfl, by omega, by omega, ?_⟩⟩
    obtain ⟨R, hR⟩ : ∃ R : Nat → L2.St → Hp → Prop, ∀ i σ' H', R i σ' H' ↔ (i ≤ 8 ∧ ∃ (x : Str) (t : Option V), σ' = [some (.ref p), some (.str x), t] ∧ x.length = i ∧ Letters x ∧ Keep p H H' ∧ Purse H' p (n + 1 + i)) := ⟨_, fun _ _ _ => Iff.rfl⟩
    refine for_R R ((hR _ _ _).mpr ?_) ?_ ?_
    · exact ⟨by omega, _, _, rfl, rfl, no_letters, kp, by simpa using pu⟩
    · rintro i σ' H' rr lt
      obtain ⟨i8, x, t, es, el, le, k2, pu2⟩ := (hR _ _ _).mp rr
      subst es
      show tAsg _ _ _ _ _
      simp only [e_seq, e_asg, e_ret, e_drop, e_ifs, e_next, e_for, e_lc, e_name, e_gsub, e_setL, e_var, e_c, e_op, e_rI, e_rI0, e_add3, e_B, e_not, e_and, e_or, e_andV, e_orV, e_notV, e_nil, e_cons, e_cb, e_call, e_lst, e_tup, e_bits, e_ixO, e_ixS, e_lenO, e_sl, e_rng, e_list, e_ituple, e_yes, e_start, e_part, e_nop, e_slL, e_sum, e_lenL, List.getElem?_cons_zero, List.getElem?_cons_succ, List.getElem?_nil, List.set_cons_zero, List.set_cons_succ, List.map_cons, List.map_nil, List.nil_append, List.cons_append, List.append_nil, List.length_cons, List.length_nil, Option.some.injEq, V.int.injEq, V.str.injEq, V.bl.injEq, V.ref.injEq, HO.lst.injEq, HO.tup.injEq, reduceCtorEq, false_and, and_false, exists_false, or_false, false_or, exists_eq_left, exists_eq_left', exists_eq_right, exists_and_left, exists_and_right, true_and, and_true, List.cons.injEq, and_assoc, List.replicate, List.append_eq, Nat.sub_self, Nat.add_sub_cancel, upd_same, ix40, ix41, ix42, ix43, at40, at41, at42, at43, DL.ite_tt, DL.ite_ff, Bool.not_true, Bool.not_false]
      refine ⟨p, 26, n + 1 + i, rfl, pu2, by omega, by omega, by omega, fun j H2 j0 j1 k3 pu3 => ⟨j, rfl, by decide +kernel, ?_⟩⟩
      obtain ⟨m, em⟩ := Int.eq_ofNat_of_zero_le j0
      subst em
      obtain ⟨c, hc, c1, c2⟩ := alpha m (by omega)
      refine ⟨c, atI_nat hc, ?_, (hR _ _ _).mpr ⟨by omega, _, _, rfl, ?_, ?_, ?_, ?_⟩⟩
      · exact Nat.le_of_lt (small1000 (by show x.length + 1 ≤ 1000; omega))
      · rw [app_len, el]
        rfl
      · intro d hd
        rw [app_list] at hd
        rcases List.mem_append.mp hd with hd | hd
        · exact le d hd
        · have : d = c := by simpa using hd
          subst this
          exact ⟨c1, c2⟩
      · exact fun b o ne h => k3 b o ne (k2 b o ne h)
      · have e : n + 1 + ((i + 1 : Nat) : Int) = n + 1 + i + 1 := by omega
        rw [e]
        exact pu3
    · rintro i σ' H' rr ge
      obtain ⟨i8, x, t, es, el, le, k2, pu2⟩ := (hR _ _ _).mp rr
      subst es
      simp only [e_seq, e_asg, e_ret, e_drop, e_ifs, e_next, e_for, e_lc, e_name, e_gsub, e_setL, e_var, e_c, e_op, e_rI, e_rI0, e_add3, e_B, e_not, e_and, e_or, e_andV, e_orV, e_notV, e_nil, e_cons, e_cb, e_call, e_lst, e_tup, e_bits, e_ixO, e_ixS, e_lenO, e_sl, e_rng, e_list, e_ituple, e_yes, e_start, e_part, e_nop, e_slL, e_sum, e_lenL, List.getElem?_cons_zero, List.getElem?_cons_succ, List.getElem?_nil, List.set_cons_zero, List.set_cons_succ, List.map_cons, List.map_nil, List.nil_append, List.cons_append, List.append_nil, List.length_cons, List.length_nil, Option.some.injEq, V.int.injEq, V.str.injEq, V.bl.injEq, V.ref.injEq, HO.lst.injEq, HO.tup.injEq, reduceCtorEq, false_and, and_false, exists_false, or_false, false_or, exists_eq_left, exists_eq_left', exists_eq_right, exists_and_left, exists_and_right, true_and, and_true, List.cons.injEq, and_assoc, List.replicate, List.append_eq, Nat.sub_self, Nat.add_sub_cancel, upd_same, ix40, ix41, ix42, ix43, at40, at41, at42, at43, DL.ite_tt, DL.ite_ff, Bool.not_true, Bool.not_false]
      refine q x H' le (by omega) k2 ?_
      obtain ⟨x0, y0, c0, d0, e0, hx, hy, hc, hd⟩ := pu2
      exact ⟨x0, y0, c0, d0, e0, hx, hy, by omega, hd⟩

def D_first : He.DefD := ⟨("_law_first", none), "_law_first", "_law_first", defArgs s36, defBody s36, defScope s36, [], []⟩
theorem sc_first : FnScope ["_law_thing", "_law_found"] ["_law_thing"] (defScope s36) := ⟨rfl, rfl, rfl, by decide +kernel, rfl, by decide +kernel, by decide +kernel⟩
def sp_first (K : PySem.W.Frag) : Sp := fun vs H Q _ => ∃ v, vs = [v] ∧ ∀ (l : Addr) (es : List Addr) (H1 : Hp), Made H H1 es v (exF.map (He.ga K)) → H1 l = some (.lst (es.map V.ref)) → Q (.ref l) H1
theorem ok_first (c : He.SaysD fa fn K) (c2 : ex K = true) (XK : K.In base) (G0 : base.Ns mainGlobals mg) (pl : EX.Plain P file) : Ok P w K mg base D_first 3 ["_law_thing"] (sp_first K) := by
  obtain ⟨fd, F⟩ := c.def_ 6 (d := D_first) rfl
  refine ⟨fd, fnG_ofC (k := 2) F sc_first (fun vs H Q h => ?_) (fun cdv A out s H vs Q G h => ⟨_, (pss_cons (ps_set (i := 1) sc_first.nd rfl (by first | exact Or.inl rfl | exact Or.inr rfl) (pe_lst (pa_cons (EX.pe_ex (xf c2 "InvalidSize" (by decide)) pl (He.free_ok XK G0 (c.fact 58 (f := .free "super") rfl)) (G.room.mono (by decide) : Room (0 + 1) _) rfl (He.glo_ok XK G0 (c.fact 1 (f := .glo "InvalidSize") rfl)) (kp c2 "InvalidSize" (by decide)) (pv 0)) (pa_cons (EX.pe_ex (xf c2 "InvalidRoads" (by decide)) pl (He.free_ok XK G0 (c.fact 58 (f := .free "super") rfl)) (G.room.mono (by decide) : Room (0 + 1) _) rfl (He.glo_ok XK G0 (c.fact 2 (f := .glo "InvalidRoads") rfl)) (kp c2 "InvalidRoads" (by decide)) (pv 0)) (pa_cons (EX.pe_ex (xf c2 "InvalidWeb" (by decide)) pl (He.free_ok XK G0 (c.fact 58 (f := .free "super") rfl)) (G.room.mono (by decide) : Room (0 + 1) _) rfl (He.glo_ok XK G0 (c.fact 3 (f := .glo "InvalidWeb") rfl)) (kp c2 "InvalidWeb" (by decide)) (pv 0)) (pa_cons (EX.pe_ex (xf c2 "NotTree" (by decide)) pl (He.free_ok XK G0 (c.fact 58 (f := .free "super") rfl)) (G.room.mono (by decide) : Room (0 + 1) _) rfl (He.glo_ok XK G0 (c.fact 4 (f := .glo "NotTree") rfl)) (kp c2 "NotTree" (by decide)) (pv 0)) pa_nil))))))
      (pss_cons (ps_set (i := 1) sc_first.nd rfl (by first | exact Or.inl rfl | exact Or.inr rfl) (pe_op op_add3 (pv 1) (pe_lst (pa_cons (EX.pe_ex (xf c2 "InvalidPlace" (by decide)) pl (He.free_ok XK G0 (c.fact 58 (f := .free "super") rfl)) (G.room.mono (by decide) : Room (0 + 1) _) rfl (He.glo_ok XK G0 (c.fact 5 (f := .glo "InvalidPlace") rfl)) (kp c2 "InvalidPlace" (by decide)) (pv 0)) (pa_cons (EX.pe_ex (xf c2 "InvalidPlaces" (by decide)) pl (He.free_ok XK G0 (c.fact 58 (f := .free "super") rfl)) (G.room.mono (by decide) : Room (0 + 1) _) rfl (He.glo_ok XK G0 (c.fact 6 (f := .glo "InvalidPlaces") rfl)) (kp c2 "InvalidPlaces" (by decide)) (pv 0)) (pa_cons (EX.pe_ex (xf c2 "InvalidKind" (by decide)) pl (He.free_ok XK G0 (c.fact 58 (f := .free "super") rfl)) (G.room.mono (by decide) : Room (0 + 1) _) rfl (He.glo_ok XK G0 (c.fact 7 (f := .glo "InvalidKind") rfl)) (kp c2 "InvalidKind" (by decide)) (pv 0)) (pa_cons (EX.pe_ex (xf c2 "InvalidKinds" (by decide)) pl (He.free_ok XK G0 (c.fact 58 (f := .free "super") rfl)) (G.room.mono (by decide) : Room (0 + 1) _) rfl (He.glo_ok XK G0 (c.fact 8 (f := .glo "InvalidKinds") rfl)) (kp c2 "InvalidKinds" (by decide)) (pv 0)) pa_nil)))))))
      (pss_cons (ps_set (i := 1) sc_first.nd rfl (by first | exact Or.inl rfl | exact Or.inr rfl) (pe_op op_add3 (pv 1) (pe_lst (pa_cons (EX.pe_ex (xf c2 "InvalidRoad" (by decide)) pl (He.free_ok XK G0 (c.fact 58 (f := .free "super") rfl)) (G.room.mono (by decide) : Room (0 + 1) _) rfl (He.glo_ok XK G0 (c.fact 9 (f := .glo "InvalidRoad") rfl)) (kp c2 "InvalidRoad" (by decide)) (pv 0)) (pa_cons (EX.pe_ex (xf c2 "TakenRoad" (by decide)) pl (He.free_ok XK G0 (c.fact 58 (f := .free "super") rfl)) (G.room.mono (by decide) : Room (0 + 1) _) rfl (He.glo_ok XK G0 (c.fact 10 (f := .glo "TakenRoad") rfl)) (kp c2 "TakenRoad" (by decide)) (pv 0)) (pa_cons (EX.pe_ex (xf c2 "UnknownRoad" (by decide)) pl (He.free_ok XK G0 (c.fact 58 (f := .free "super") rfl)) (G.room.mono (by decide) : Room (0 + 1) _) rfl (He.glo_ok XK G0 (c.fact 11 (f := .glo "UnknownRoad") rfl)) (kp c2 "UnknownRoad" (by decide)) (pv 0)) (pa_cons (EX.pe_ex (xf c2 "InvalidLeading" (by decide)) pl (He.free_ok XK G0 (c.fact 58 (f := .free "super") rfl)) (G.room.mono (by decide) : Room (0 + 1) _) rfl (He.glo_ok XK G0 (c.fact 12 (f := .glo "InvalidLeading") rfl)) (kp c2 "InvalidLeading" (by decide)) (pv 0)) pa_nil)))))))
      (pss_cons (ps_set (i := 1) sc_first.nd rfl (by first | exact Or.inl rfl | exact Or.inr rfl) (pe_op op_add3 (pv 1) (pe_lst (pa_cons (EX.pe_ex (xf c2 "InvalidCount" (by decide)) pl (He.free_ok XK G0 (c.fact 58 (f := .free "super") rfl)) (G.room.mono (by decide) : Room (0 + 1) _) rfl (He.glo_ok XK G0 (c.fact 13 (f := .glo "InvalidCount") rfl)) (kp c2 "InvalidCount" (by decide)) (pv 0)) (pa_cons (EX.pe_ex (xf c2 "InvalidTold" (by decide)) pl (He.free_ok XK G0 (c.fact 58 (f := .free "super") rfl)) (G.room.mono (by decide) : Room (0 + 1) _) rfl (He.glo_ok XK G0 (c.fact 14 (f := .glo "InvalidTold") rfl)) (kp c2 "InvalidTold" (by decide)) (pv 0)) (pa_cons (EX.pe_ex (xf c2 "InvalidTrees" (by decide)) pl (He.free_ok XK G0 (c.fact 58 (f := .free "super") rfl)) (G.room.mono (by decide) : Room (0 + 1) _) rfl (He.glo_ok XK G0 (c.fact 15 (f := .glo "InvalidTrees") rfl)) (kp c2 "InvalidTrees" (by decide)) (pv 0)) (pa_cons (EX.pe_ex (xf c2 "InvalidRule" (by decide)) pl (He.free_ok XK G0 (c.fact 58 (f := .free "super") rfl)) (G.room.mono (by decide) : Room (0 + 1) _) rfl (He.glo_ok XK G0 (c.fact 16 (f := .glo "InvalidRule") rfl)) (kp c2 "InvalidRule" (by decide)) (pv 0)) pa_nil)))))))
      (pss_cons (ps_set (i := 1) sc_first.nd rfl (by first | exact Or.inl rfl | exact Or.inr rfl) (pe_op op_add3 (pv 1) (pe_lst (pa_cons (EX.pe_ex (xf c2 "InvalidShares" (by decide)) pl (He.free_ok XK G0 (c.fact 58 (f := .free "super") rfl)) (G.room.mono (by decide) : Room (0 + 1) _) rfl (He.glo_ok XK G0 (c.fact 17 (f := .glo "InvalidShares") rfl)) (kp c2 "InvalidShares" (by decide)) (pv 0)) (pa_cons (EX.pe_ex (xf c2 "InvalidTowns" (by decide)) pl (He.free_ok XK G0 (c.fact 58 (f := .free "super") rfl)) (G.room.mono (by decide) : Room (0 + 1) _) rfl (He.glo_ok XK G0 (c.fact 18 (f := .glo "InvalidTowns") rfl)) (kp c2 "InvalidTowns" (by decide)) (pv 0)) (pa_cons (EX.pe_ex (xf c2 "Clash" (by decide)) pl (He.free_ok XK G0 (c.fact 58 (f := .free "super") rfl)) (G.room.mono (by decide) : Room (0 + 1) _) rfl (He.glo_ok XK G0 (c.fact 19 (f := .glo "Clash") rfl)) (kp c2 "Clash" (by decide)) (pv 0)) (pa_cons (EX.pe_ex (xf c2 "NotRight" (by decide)) pl (He.free_ok XK G0 (c.fact 58 (f := .free "super") rfl)) (G.room.mono (by decide) : Room (0 + 1) _) rfl (He.glo_ok XK G0 (c.fact 20 (f := .glo "NotRight") rfl)) (kp c2 "NotRight" (by decide)) (pv 0)) pa_nil)))))))
      (pss_cons (ps_set (i := 1) sc_first.nd rfl (by first | exact Or.inl rfl | exact Or.inr rfl) (pe_op op_add3 (pv 1) (pe_lst (pa_cons (EX.pe_ex (xf c2 "Broken" (by decide)) pl (He.free_ok XK G0 (c.fact 58 (f := .free "super") rfl)) (G.room.mono (by decide) : Room (0 + 1) _) rfl (He.glo_ok XK G0 (c.fact 21 (f := .glo "Broken") rfl)) (kp c2 "Broken" (by decide)) (pv 0)) (pa_cons (EX.pe_ex (xf c2 "InvalidTown" (by decide)) pl (He.free_ok XK G0 (c.fact 58 (f := .free "super") rfl)) (G.room.mono (by decide) : Room (0 + 1) _) rfl (He.glo_ok XK G0 (c.fact 22 (f := .glo "InvalidTown") rfl)) (kp c2 "InvalidTown" (by decide)) (pv 0)) (pa_cons (EX.pe_ex (xf c2 "InvalidScript" (by decide)) pl (He.free_ok XK G0 (c.fact 58 (f := .free "super") rfl)) (G.room.mono (by decide) : Room (0 + 1) _) rfl (He.glo_ok XK G0 (c.fact 23 (f := .glo "InvalidScript") rfl)) (kp c2 "InvalidScript" (by decide)) (pv 0)) (pa_cons (EX.pe_ex (xf c2 "InvalidLog" (by decide)) pl (He.free_ok XK G0 (c.fact 58 (f := .free "super") rfl)) (G.room.mono (by decide) : Room (0 + 1) _) rfl (He.glo_ok XK G0 (c.fact 24 (f := .glo "InvalidLog") rfl)) (kp c2 "InvalidLog" (by decide)) (pv 0)) pa_nil)))))))
      (pss_cons (ps_set (i := 1) sc_first.nd rfl (by first | exact Or.inl rfl | exact Or.inr rfl) (pe_op op_add3 (pv 1) (pe_lst (pa_cons (EX.pe_ex (xf c2 "InvalidText" (by decide)) pl (He.free_ok XK G0 (c.fact 58 (f := .free "super") rfl)) (G.room.mono (by decide) : Room (0 + 1) _) rfl (He.glo_ok XK G0 (c.fact 25 (f := .glo "InvalidText") rfl)) (kp c2 "InvalidText" (by decide)) (pv 0)) pa_nil))))
      (pss_one (ps_ret (pv 1)))))))))), ?_⟩), F.bindsN fun _ _ _ _ _ _ us hl => match us, hl with | [_], _ => rfl, F.kp, fun_lk F⟩
  · obtain ⟨v, e, -⟩ := h
    subst e
    rfl
  · obtain ⟨v, e, q⟩ := h
    subst e
    exact exBody0 (te := tVar 0) (v := v) (i := 1) (c := [He.ga K "InvalidSize", He.ga K "InvalidRoads", He.ga K "InvalidWeb", He.ga K "NotTree"]) (r := [[He.ga K "InvalidPlace", He.ga K "InvalidPlaces", He.ga K "InvalidKind", He.ga K "InvalidKinds"], [He.ga K "InvalidRoad", He.ga K "TakenRoad", He.ga K "UnknownRoad", He.ga K "InvalidLeading"], [He.ga K "InvalidCount", He.ga K "InvalidTold", He.ga K "InvalidTrees", He.ga K "InvalidRule"], [He.ga K "InvalidShares", He.ga K "InvalidTowns", He.ga K "Clash", He.ga K "NotRight"], [He.ga K "Broken", He.ga K "InvalidTown", He.ga K "InvalidScript", He.ga K "InvalidLog"], [He.ga K "InvalidText"]]) (show 1 < 2 from by decide) (fun σ2 hs H2 Q2 z => ⟨v, by rw [hs 0 (by decide)]; rfl, z⟩) (show 25 ≤ 1000 from by decide) (fun es2 H1 l1 m hl => q l1 es2 H1 m hl)

def D_named : He.DefD := ⟨("_law_named", none), "_law_named", "_law_named", defArgs s37, defBody s37, defScope s37, [], []⟩
theorem sc_named : FnScope ["_law_thing", "_law_found"] ["_law_thing"] (defScope s37) := ⟨rfl, rfl, rfl, by decide +kernel, rfl, by decide +kernel, by decide +kernel⟩
def sp_named (K : PySem.W.Frag) : Sp := fun vs H Q _ => ∃ v, vs = [v] ∧ ∀ (l : Addr) (es : List Addr) (H1 : Hp), Made H H1 es v (exF.map (He.ga K)) → H1 l = some (.lst (es.map V.ref)) → Q (.ref l) H1
theorem ok_named (c : He.SaysD fa fn K) (c2 : ex K = true) (XK : K.In base) (G0 : base.Ns mainGlobals mg) (pl : EX.Plain P file) : Ok P w K mg base D_named 3 ["_law_thing"] (sp_named K) := by
  obtain ⟨fd, F⟩ := c.def_ 7 (d := D_named) rfl
  refine ⟨fd, fnG_ofC (k := 2) F sc_named (fun vs H Q h => ?_) (fun cdv A out s H vs Q G h => ⟨_, (pss_cons (ps_set (i := 1) sc_named.nd rfl (by first | exact Or.inl rfl | exact Or.inr rfl) (pe_lst (pa_cons (EX.pe_exK (xf c2 "InvalidSize" (by decide)) pl (He.free_ok XK G0 (c.fact 58 (f := .free "super") rfl)) (G.room.mono (by decide) : Room (0 + 1) _) rfl (He.glo_ok XK G0 (c.fact 1 (f := .glo "InvalidSize") rfl)) (kp c2 "InvalidSize" (by decide)) (pv 0)) (pa_cons (EX.pe_exK (xf c2 "InvalidRoads" (by decide)) pl (He.free_ok XK G0 (c.fact 58 (f := .free "super") rfl)) (G.room.mono (by decide) : Room (0 + 1) _) rfl (He.glo_ok XK G0 (c.fact 2 (f := .glo "InvalidRoads") rfl)) (kp c2 "InvalidRoads" (by decide)) (pv 0)) (pa_cons (EX.pe_exK (xf c2 "InvalidWeb" (by decide)) pl (He.free_ok XK G0 (c.fact 58 (f := .free "super") rfl)) (G.room.mono (by decide) : Room (0 + 1) _) rfl (He.glo_ok XK G0 (c.fact 3 (f := .glo "InvalidWeb") rfl)) (kp c2 "InvalidWeb" (by decide)) (pv 0)) pa_nil)))))
      (pss_cons (ps_set (i := 1) sc_named.nd rfl (by first | exact Or.inl rfl | exact Or.inr rfl) (pe_op op_add3 (pv 1) (pe_lst (pa_cons (EX.pe_exK (xf c2 "NotTree" (by decide)) pl (He.free_ok XK G0 (c.fact 58 (f := .free "super") rfl)) (G.room.mono (by decide) : Room (0 + 1) _) rfl (He.glo_ok XK G0 (c.fact 4 (f := .glo "NotTree") rfl)) (kp c2 "NotTree" (by decide)) (pv 0)) (pa_cons (EX.pe_exK (xf c2 "InvalidPlace" (by decide)) pl (He.free_ok XK G0 (c.fact 58 (f := .free "super") rfl)) (G.room.mono (by decide) : Room (0 + 1) _) rfl (He.glo_ok XK G0 (c.fact 5 (f := .glo "InvalidPlace") rfl)) (kp c2 "InvalidPlace" (by decide)) (pv 0)) (pa_cons (EX.pe_exK (xf c2 "InvalidPlaces" (by decide)) pl (He.free_ok XK G0 (c.fact 58 (f := .free "super") rfl)) (G.room.mono (by decide) : Room (0 + 1) _) rfl (He.glo_ok XK G0 (c.fact 6 (f := .glo "InvalidPlaces") rfl)) (kp c2 "InvalidPlaces" (by decide)) (pv 0)) pa_nil))))))
      (pss_cons (ps_set (i := 1) sc_named.nd rfl (by first | exact Or.inl rfl | exact Or.inr rfl) (pe_op op_add3 (pv 1) (pe_lst (pa_cons (EX.pe_exK (xf c2 "InvalidKind" (by decide)) pl (He.free_ok XK G0 (c.fact 58 (f := .free "super") rfl)) (G.room.mono (by decide) : Room (0 + 1) _) rfl (He.glo_ok XK G0 (c.fact 7 (f := .glo "InvalidKind") rfl)) (kp c2 "InvalidKind" (by decide)) (pv 0)) (pa_cons (EX.pe_exK (xf c2 "InvalidKinds" (by decide)) pl (He.free_ok XK G0 (c.fact 58 (f := .free "super") rfl)) (G.room.mono (by decide) : Room (0 + 1) _) rfl (He.glo_ok XK G0 (c.fact 8 (f := .glo "InvalidKinds") rfl)) (kp c2 "InvalidKinds" (by decide)) (pv 0)) (pa_cons (EX.pe_exK (xf c2 "InvalidRoad" (by decide)) pl (He.free_ok XK G0 (c.fact 58 (f := .free "super") rfl)) (G.room.mono (by decide) : Room (0 + 1) _) rfl (He.glo_ok XK G0 (c.fact 9 (f := .glo "InvalidRoad") rfl)) (kp c2 "InvalidRoad" (by decide)) (pv 0)) pa_nil))))))
      (pss_cons (ps_set (i := 1) sc_named.nd rfl (by first | exact Or.inl rfl | exact Or.inr rfl) (pe_op op_add3 (pv 1) (pe_lst (pa_cons (EX.pe_exK (xf c2 "TakenRoad" (by decide)) pl (He.free_ok XK G0 (c.fact 58 (f := .free "super") rfl)) (G.room.mono (by decide) : Room (0 + 1) _) rfl (He.glo_ok XK G0 (c.fact 10 (f := .glo "TakenRoad") rfl)) (kp c2 "TakenRoad" (by decide)) (pv 0)) (pa_cons (EX.pe_exK (xf c2 "UnknownRoad" (by decide)) pl (He.free_ok XK G0 (c.fact 58 (f := .free "super") rfl)) (G.room.mono (by decide) : Room (0 + 1) _) rfl (He.glo_ok XK G0 (c.fact 11 (f := .glo "UnknownRoad") rfl)) (kp c2 "UnknownRoad" (by decide)) (pv 0)) (pa_cons (EX.pe_exK (xf c2 "InvalidLeading" (by decide)) pl (He.free_ok XK G0 (c.fact 58 (f := .free "super") rfl)) (G.room.mono (by decide) : Room (0 + 1) _) rfl (He.glo_ok XK G0 (c.fact 12 (f := .glo "InvalidLeading") rfl)) (kp c2 "InvalidLeading" (by decide)) (pv 0)) pa_nil))))))
      (pss_cons (ps_set (i := 1) sc_named.nd rfl (by first | exact Or.inl rfl | exact Or.inr rfl) (pe_op op_add3 (pv 1) (pe_lst (pa_cons (EX.pe_exK (xf c2 "InvalidCount" (by decide)) pl (He.free_ok XK G0 (c.fact 58 (f := .free "super") rfl)) (G.room.mono (by decide) : Room (0 + 1) _) rfl (He.glo_ok XK G0 (c.fact 13 (f := .glo "InvalidCount") rfl)) (kp c2 "InvalidCount" (by decide)) (pv 0)) (pa_cons (EX.pe_exK (xf c2 "InvalidTold" (by decide)) pl (He.free_ok XK G0 (c.fact 58 (f := .free "super") rfl)) (G.room.mono (by decide) : Room (0 + 1) _) rfl (He.glo_ok XK G0 (c.fact 14 (f := .glo "InvalidTold") rfl)) (kp c2 "InvalidTold" (by decide)) (pv 0)) (pa_cons (EX.pe_exK (xf c2 "InvalidTrees" (by decide)) pl (He.free_ok XK G0 (c.fact 58 (f := .free "super") rfl)) (G.room.mono (by decide) : Room (0 + 1) _) rfl (He.glo_ok XK G0 (c.fact 15 (f := .glo "InvalidTrees") rfl)) (kp c2 "InvalidTrees" (by decide)) (pv 0)) pa_nil))))))
      (pss_cons (ps_set (i := 1) sc_named.nd rfl (by first | exact Or.inl rfl | exact Or.inr rfl) (pe_op op_add3 (pv 1) (pe_lst (pa_cons (EX.pe_exK (xf c2 "InvalidRule" (by decide)) pl (He.free_ok XK G0 (c.fact 58 (f := .free "super") rfl)) (G.room.mono (by decide) : Room (0 + 1) _) rfl (He.glo_ok XK G0 (c.fact 16 (f := .glo "InvalidRule") rfl)) (kp c2 "InvalidRule" (by decide)) (pv 0)) (pa_cons (EX.pe_exK (xf c2 "InvalidShares" (by decide)) pl (He.free_ok XK G0 (c.fact 58 (f := .free "super") rfl)) (G.room.mono (by decide) : Room (0 + 1) _) rfl (He.glo_ok XK G0 (c.fact 17 (f := .glo "InvalidShares") rfl)) (kp c2 "InvalidShares" (by decide)) (pv 0)) (pa_cons (EX.pe_exK (xf c2 "InvalidTowns" (by decide)) pl (He.free_ok XK G0 (c.fact 58 (f := .free "super") rfl)) (G.room.mono (by decide) : Room (0 + 1) _) rfl (He.glo_ok XK G0 (c.fact 18 (f := .glo "InvalidTowns") rfl)) (kp c2 "InvalidTowns" (by decide)) (pv 0)) pa_nil))))))
      (pss_cons (ps_set (i := 1) sc_named.nd rfl (by first | exact Or.inl rfl | exact Or.inr rfl) (pe_op op_add3 (pv 1) (pe_lst (pa_cons (EX.pe_exK (xf c2 "Clash" (by decide)) pl (He.free_ok XK G0 (c.fact 58 (f := .free "super") rfl)) (G.room.mono (by decide) : Room (0 + 1) _) rfl (He.glo_ok XK G0 (c.fact 19 (f := .glo "Clash") rfl)) (kp c2 "Clash" (by decide)) (pv 0)) (pa_cons (EX.pe_exK (xf c2 "NotRight" (by decide)) pl (He.free_ok XK G0 (c.fact 58 (f := .free "super") rfl)) (G.room.mono (by decide) : Room (0 + 1) _) rfl (He.glo_ok XK G0 (c.fact 20 (f := .glo "NotRight") rfl)) (kp c2 "NotRight" (by decide)) (pv 0)) (pa_cons (EX.pe_exK (xf c2 "Broken" (by decide)) pl (He.free_ok XK G0 (c.fact 58 (f := .free "super") rfl)) (G.room.mono (by decide) : Room (0 + 1) _) rfl (He.glo_ok XK G0 (c.fact 21 (f := .glo "Broken") rfl)) (kp c2 "Broken" (by decide)) (pv 0)) pa_nil))))))
      (pss_cons (ps_set (i := 1) sc_named.nd rfl (by first | exact Or.inl rfl | exact Or.inr rfl) (pe_op op_add3 (pv 1) (pe_lst (pa_cons (EX.pe_exK (xf c2 "InvalidTown" (by decide)) pl (He.free_ok XK G0 (c.fact 58 (f := .free "super") rfl)) (G.room.mono (by decide) : Room (0 + 1) _) rfl (He.glo_ok XK G0 (c.fact 22 (f := .glo "InvalidTown") rfl)) (kp c2 "InvalidTown" (by decide)) (pv 0)) (pa_cons (EX.pe_exK (xf c2 "InvalidScript" (by decide)) pl (He.free_ok XK G0 (c.fact 58 (f := .free "super") rfl)) (G.room.mono (by decide) : Room (0 + 1) _) rfl (He.glo_ok XK G0 (c.fact 23 (f := .glo "InvalidScript") rfl)) (kp c2 "InvalidScript" (by decide)) (pv 0)) (pa_cons (EX.pe_exK (xf c2 "InvalidLog" (by decide)) pl (He.free_ok XK G0 (c.fact 58 (f := .free "super") rfl)) (G.room.mono (by decide) : Room (0 + 1) _) rfl (He.glo_ok XK G0 (c.fact 24 (f := .glo "InvalidLog") rfl)) (kp c2 "InvalidLog" (by decide)) (pv 0)) pa_nil))))))
      (pss_cons (ps_set (i := 1) sc_named.nd rfl (by first | exact Or.inl rfl | exact Or.inr rfl) (pe_op op_add3 (pv 1) (pe_lst (pa_cons (EX.pe_exK (xf c2 "InvalidText" (by decide)) pl (He.free_ok XK G0 (c.fact 58 (f := .free "super") rfl)) (G.room.mono (by decide) : Room (0 + 1) _) rfl (He.glo_ok XK G0 (c.fact 25 (f := .glo "InvalidText") rfl)) (kp c2 "InvalidText" (by decide)) (pv 0)) pa_nil))))
      (pss_one (ps_ret (pv 1)))))))))))), ?_⟩), F.bindsN fun _ _ _ _ _ _ us hl => match us, hl with | [_], _ => rfl, F.kp, fun_lk F⟩
  · obtain ⟨v, e, -⟩ := h
    subst e
    rfl
  · obtain ⟨v, e, q⟩ := h
    subst e
    exact exBody0 (te := tVar 0) (v := v) (i := 1) (c := [He.ga K "InvalidSize", He.ga K "InvalidRoads", He.ga K "InvalidWeb"]) (r := [[He.ga K "NotTree", He.ga K "InvalidPlace", He.ga K "InvalidPlaces"], [He.ga K "InvalidKind", He.ga K "InvalidKinds", He.ga K "InvalidRoad"], [He.ga K "TakenRoad", He.ga K "UnknownRoad", He.ga K "InvalidLeading"], [He.ga K "InvalidCount", He.ga K "InvalidTold", He.ga K "InvalidTrees"], [He.ga K "InvalidRule", He.ga K "InvalidShares", He.ga K "InvalidTowns"], [He.ga K "Clash", He.ga K "NotRight", He.ga K "Broken"], [He.ga K "InvalidTown", He.ga K "InvalidScript", He.ga K "InvalidLog"], [He.ga K "InvalidText"]]) (show 1 < 2 from by decide) (fun σ2 hs H2 Q2 z => ⟨v, by rw [hs 0 (by decide)]; rfl, z⟩) (show 25 ≤ 1000 from by decide) (fun es2 H1 l1 m hl => q l1 es2 H1 m hl)

def D_bare : He.DefD := ⟨("_law_bare", none), "_law_bare", "_law_bare", defArgs s38, defBody s38, defScope s38, [], []⟩
theorem sc_bare : FnScope ["_law_found"] [] (defScope s38) := ⟨rfl, rfl, rfl, by decide +kernel, rfl, by decide +kernel, by decide +kernel⟩
def sp_bare (K : PySem.W.Frag) : Sp := fun vs H Q _ => vs = [] ∧ ∀ (l : Addr) (es : List Addr) (H1 : Hp), Made H H1 es .non (exF.map (He.ga K)) → H1 l = some (.lst (es.map V.ref)) → Q (.ref l) H1
theorem ok_bare (c : He.SaysD fa fn K) (c2 : ex K = true) (XK : K.In base) (G0 : base.Ns mainGlobals mg) (pl : EX.Plain P file) : Ok P w K mg base D_bare 3 [] (sp_bare K) := by
  obtain ⟨fd, F⟩ := c.def_ 8 (d := D_bare) rfl
  refine ⟨fd, fnG_ofC (k := 2) F sc_bare (fun vs H Q h => ?_) (fun cdv A out s H vs Q G h => ⟨_, (pss_cons (ps_set (i := 0) sc_bare.nd rfl (by first | exact Or.inl rfl | exact Or.inr rfl) (pe_lst (pa_cons (EX.pe_ex0 (xf c2 "InvalidSize" (by decide)) pl (He.free_ok XK G0 (c.fact 58 (f := .free "super") rfl)) (G.room.mono (by decide) : Room (0 + 1) _) rfl (He.glo_ok XK G0 (c.fact 1 (f := .glo "InvalidSize") rfl)) (kp c2 "InvalidSize" (by decide))) (pa_cons (EX.pe_ex0 (xf c2 "InvalidRoads" (by decide)) pl (He.free_ok XK G0 (c.fact 58 (f := .free "super") rfl)) (G.room.mono (by decide) : Room (0 + 1) _) rfl (He.glo_ok XK G0 (c.fact 2 (f := .glo "InvalidRoads") rfl)) (kp c2 "InvalidRoads" (by decide))) (pa_cons (EX.pe_ex0 (xf c2 "InvalidWeb" (by decide)) pl (He.free_ok XK G0 (c.fact 58 (f := .free "super") rfl)) (G.room.mono (by decide) : Room (0 + 1) _) rfl (He.glo_ok XK G0 (c.fact 3 (f := .glo "InvalidWeb") rfl)) (kp c2 "InvalidWeb" (by decide))) (pa_cons (EX.pe_ex0 (xf c2 "NotTree" (by decide)) pl (He.free_ok XK G0 (c.fact 58 (f := .free "super") rfl)) (G.room.mono (by decide) : Room (0 + 1) _) rfl (He.glo_ok XK G0 (c.fact 4 (f := .glo "NotTree") rfl)) (kp c2 "NotTree" (by decide))) pa_nil))))))
      (pss_cons (ps_set (i := 0) sc_bare.nd rfl (by first | exact Or.inl rfl | exact Or.inr rfl) (pe_op op_add3 (pv 0) (pe_lst (pa_cons (EX.pe_ex0 (xf c2 "InvalidPlace" (by decide)) pl (He.free_ok XK G0 (c.fact 58 (f := .free "super") rfl)) (G.room.mono (by decide) : Room (0 + 1) _) rfl (He.glo_ok XK G0 (c.fact 5 (f := .glo "InvalidPlace") rfl)) (kp c2 "InvalidPlace" (by decide))) (pa_cons (EX.pe_ex0 (xf c2 "InvalidPlaces" (by decide)) pl (He.free_ok XK G0 (c.fact 58 (f := .free "super") rfl)) (G.room.mono (by decide) : Room (0 + 1) _) rfl (He.glo_ok XK G0 (c.fact 6 (f := .glo "InvalidPlaces") rfl)) (kp c2 "InvalidPlaces" (by decide))) (pa_cons (EX.pe_ex0 (xf c2 "InvalidKind" (by decide)) pl (He.free_ok XK G0 (c.fact 58 (f := .free "super") rfl)) (G.room.mono (by decide) : Room (0 + 1) _) rfl (He.glo_ok XK G0 (c.fact 7 (f := .glo "InvalidKind") rfl)) (kp c2 "InvalidKind" (by decide))) (pa_cons (EX.pe_ex0 (xf c2 "InvalidKinds" (by decide)) pl (He.free_ok XK G0 (c.fact 58 (f := .free "super") rfl)) (G.room.mono (by decide) : Room (0 + 1) _) rfl (He.glo_ok XK G0 (c.fact 8 (f := .glo "InvalidKinds") rfl)) (kp c2 "InvalidKinds" (by decide))) pa_nil)))))))
      (pss_cons (ps_set (i := 0) sc_bare.nd rfl (by first | exact Or.inl rfl | exact Or.inr rfl) (pe_op op_add3 (pv 0) (pe_lst (pa_cons (EX.pe_ex0 (xf c2 "InvalidRoad" (by decide)) pl (He.free_ok XK G0 (c.fact 58 (f := .free "super") rfl)) (G.room.mono (by decide) : Room (0 + 1) _) rfl (He.glo_ok XK G0 (c.fact 9 (f := .glo "InvalidRoad") rfl)) (kp c2 "InvalidRoad" (by decide))) (pa_cons (EX.pe_ex0 (xf c2 "TakenRoad" (by decide)) pl (He.free_ok XK G0 (c.fact 58 (f := .free "super") rfl)) (G.room.mono (by decide) : Room (0 + 1) _) rfl (He.glo_ok XK G0 (c.fact 10 (f := .glo "TakenRoad") rfl)) (kp c2 "TakenRoad" (by decide))) (pa_cons (EX.pe_ex0 (xf c2 "UnknownRoad" (by decide)) pl (He.free_ok XK G0 (c.fact 58 (f := .free "super") rfl)) (G.room.mono (by decide) : Room (0 + 1) _) rfl (He.glo_ok XK G0 (c.fact 11 (f := .glo "UnknownRoad") rfl)) (kp c2 "UnknownRoad" (by decide))) (pa_cons (EX.pe_ex0 (xf c2 "InvalidLeading" (by decide)) pl (He.free_ok XK G0 (c.fact 58 (f := .free "super") rfl)) (G.room.mono (by decide) : Room (0 + 1) _) rfl (He.glo_ok XK G0 (c.fact 12 (f := .glo "InvalidLeading") rfl)) (kp c2 "InvalidLeading" (by decide))) pa_nil)))))))
      (pss_cons (ps_set (i := 0) sc_bare.nd rfl (by first | exact Or.inl rfl | exact Or.inr rfl) (pe_op op_add3 (pv 0) (pe_lst (pa_cons (EX.pe_ex0 (xf c2 "InvalidCount" (by decide)) pl (He.free_ok XK G0 (c.fact 58 (f := .free "super") rfl)) (G.room.mono (by decide) : Room (0 + 1) _) rfl (He.glo_ok XK G0 (c.fact 13 (f := .glo "InvalidCount") rfl)) (kp c2 "InvalidCount" (by decide))) (pa_cons (EX.pe_ex0 (xf c2 "InvalidTold" (by decide)) pl (He.free_ok XK G0 (c.fact 58 (f := .free "super") rfl)) (G.room.mono (by decide) : Room (0 + 1) _) rfl (He.glo_ok XK G0 (c.fact 14 (f := .glo "InvalidTold") rfl)) (kp c2 "InvalidTold" (by decide))) (pa_cons (EX.pe_ex0 (xf c2 "InvalidTrees" (by decide)) pl (He.free_ok XK G0 (c.fact 58 (f := .free "super") rfl)) (G.room.mono (by decide) : Room (0 + 1) _) rfl (He.glo_ok XK G0 (c.fact 15 (f := .glo "InvalidTrees") rfl)) (kp c2 "InvalidTrees" (by decide))) (pa_cons (EX.pe_ex0 (xf c2 "InvalidRule" (by decide)) pl (He.free_ok XK G0 (c.fact 58 (f := .free "super") rfl)) (G.room.mono (by decide) : Room (0 + 1) _) rfl (He.glo_ok XK G0 (c.fact 16 (f := .glo "InvalidRule") rfl)) (kp c2 "InvalidRule" (by decide))) pa_nil)))))))
      (pss_cons (ps_set (i := 0) sc_bare.nd rfl (by first | exact Or.inl rfl | exact Or.inr rfl) (pe_op op_add3 (pv 0) (pe_lst (pa_cons (EX.pe_ex0 (xf c2 "InvalidShares" (by decide)) pl (He.free_ok XK G0 (c.fact 58 (f := .free "super") rfl)) (G.room.mono (by decide) : Room (0 + 1) _) rfl (He.glo_ok XK G0 (c.fact 17 (f := .glo "InvalidShares") rfl)) (kp c2 "InvalidShares" (by decide))) (pa_cons (EX.pe_ex0 (xf c2 "InvalidTowns" (by decide)) pl (He.free_ok XK G0 (c.fact 58 (f := .free "super") rfl)) (G.room.mono (by decide) : Room (0 + 1) _) rfl (He.glo_ok XK G0 (c.fact 18 (f := .glo "InvalidTowns") rfl)) (kp c2 "InvalidTowns" (by decide))) (pa_cons (EX.pe_ex0 (xf c2 "Clash" (by decide)) pl (He.free_ok XK G0 (c.fact 58 (f := .free "super") rfl)) (G.room.mono (by decide) : Room (0 + 1) _) rfl (He.glo_ok XK G0 (c.fact 19 (f := .glo "Clash") rfl)) (kp c2 "Clash" (by decide))) (pa_cons (EX.pe_ex0 (xf c2 "NotRight" (by decide)) pl (He.free_ok XK G0 (c.fact 58 (f := .free "super") rfl)) (G.room.mono (by decide) : Room (0 + 1) _) rfl (He.glo_ok XK G0 (c.fact 20 (f := .glo "NotRight") rfl)) (kp c2 "NotRight" (by decide))) pa_nil)))))))
      (pss_cons (ps_set (i := 0) sc_bare.nd rfl (by first | exact Or.inl rfl | exact Or.inr rfl) (pe_op op_add3 (pv 0) (pe_lst (pa_cons (EX.pe_ex0 (xf c2 "Broken" (by decide)) pl (He.free_ok XK G0 (c.fact 58 (f := .free "super") rfl)) (G.room.mono (by decide) : Room (0 + 1) _) rfl (He.glo_ok XK G0 (c.fact 21 (f := .glo "Broken") rfl)) (kp c2 "Broken" (by decide))) (pa_cons (EX.pe_ex0 (xf c2 "InvalidTown" (by decide)) pl (He.free_ok XK G0 (c.fact 58 (f := .free "super") rfl)) (G.room.mono (by decide) : Room (0 + 1) _) rfl (He.glo_ok XK G0 (c.fact 22 (f := .glo "InvalidTown") rfl)) (kp c2 "InvalidTown" (by decide))) (pa_cons (EX.pe_ex0 (xf c2 "InvalidScript" (by decide)) pl (He.free_ok XK G0 (c.fact 58 (f := .free "super") rfl)) (G.room.mono (by decide) : Room (0 + 1) _) rfl (He.glo_ok XK G0 (c.fact 23 (f := .glo "InvalidScript") rfl)) (kp c2 "InvalidScript" (by decide))) (pa_cons (EX.pe_ex0 (xf c2 "InvalidLog" (by decide)) pl (He.free_ok XK G0 (c.fact 58 (f := .free "super") rfl)) (G.room.mono (by decide) : Room (0 + 1) _) rfl (He.glo_ok XK G0 (c.fact 24 (f := .glo "InvalidLog") rfl)) (kp c2 "InvalidLog" (by decide))) pa_nil)))))))
      (pss_cons (ps_set (i := 0) sc_bare.nd rfl (by first | exact Or.inl rfl | exact Or.inr rfl) (pe_op op_add3 (pv 0) (pe_lst (pa_cons (EX.pe_ex0 (xf c2 "InvalidText" (by decide)) pl (He.free_ok XK G0 (c.fact 58 (f := .free "super") rfl)) (G.room.mono (by decide) : Room (0 + 1) _) rfl (He.glo_ok XK G0 (c.fact 25 (f := .glo "InvalidText") rfl)) (kp c2 "InvalidText" (by decide))) pa_nil))))
      (pss_one (ps_ret (pv 0)))))))))), ?_⟩), F.bindsN fun _ _ _ _ _ _ us hl => match us, hl with | [], _ => rfl, F.kp, fun_lk F⟩
  · rw [h.1]
    rfl
  · obtain ⟨e, q⟩ := h
    subst e
    exact exBody0 (te := tC .non) (v := .non) (i := 0) (c := [He.ga K "InvalidSize", He.ga K "InvalidRoads", He.ga K "InvalidWeb", He.ga K "NotTree"]) (r := [[He.ga K "InvalidPlace", He.ga K "InvalidPlaces", He.ga K "InvalidKind", He.ga K "InvalidKinds"], [He.ga K "InvalidRoad", He.ga K "TakenRoad", He.ga K "UnknownRoad", He.ga K "InvalidLeading"], [He.ga K "InvalidCount", He.ga K "InvalidTold", He.ga K "InvalidTrees", He.ga K "InvalidRule"], [He.ga K "InvalidShares", He.ga K "InvalidTowns", He.ga K "Clash", He.ga K "NotRight"], [He.ga K "Broken", He.ga K "InvalidTown", He.ga K "InvalidScript", He.ga K "InvalidLog"], [He.ga K "InvalidText"]]) (show 0 < 1 from by decide) (fun σ2 hs H2 Q2 z => z) (show 25 ≤ 1000 from by decide) (fun es2 H1 l1 m hl => q l1 es2 H1 m hl)

end
end Hd1

set_option Elab.async false
set_option linter.all false
set_option maxRecDepth 100000
set_option maxHeartbeats 1000000
namespace Hd1
open PySem PySem.Spec PyProof.Rows L2 DL
/-- at C: [[0], [1], .., [n - 1]] -/
def RowsAt (H : Hp) (C : Addr) (n : Nat) : Prop := ∃ cs : List Addr, cs.length = n ∧ H C = some (.lst (cs.map V.ref)) ∧ ∀ (j : Nat) (c : Addr), cs[j]? = some c → H c = some (.lst [.int j])
theorem RowsAt.same {H H1 : Hp} {C : Addr} {n : Nat} (s : Same H H1) (h : RowsAt H C n) : RowsAt H1 C n := by
  obtain ⟨cs, a, b, d⟩ := h
  exact ⟨cs, a, s _ _ b, fun j c z => s _ _ (d j c z)⟩
theorem RowsAt.push {H H1 : Hp} {C c : Addr} {n : Nat} (h : RowsAt H C n) (s : Same H H1) (hn : H c = none) (hc : H1 c = some (.lst [.int n])) (hz : n ≤ 900) :
    ∃ acc, H1 C = some (.lst acc) ∧ acc.length < sizeLine ∧ RowsAt (upd H1 C (.lst (acc ++ [.ref c]))) C (n + 1) := by
  obtain ⟨cs, a, b, d⟩ := h
  have nc : c ≠ C := fun z => by rw [z, b] at hn; cases hn
  refine ⟨_, s _ _ b, by rw [List.length_map]; exact small1000 (by omega), cs ++ [c], by rw [List.length_append, a]; rfl, by rw [upd_same, List.map_append]; rfl, ?_⟩
  intro j e he
  by_cases lt : j < cs.length
  · rw [List.getElem?_append_left lt] at he
    have q := d j e he
    have ne : e ≠ C := fun z => by
      rw [z, b] at q
      have q2 := HO.lst.inj (Option.some.inj q)
      cases cs with
      | nil => simp at lt
      | cons x r => simp at q2
    rw [upd_ne ne]
    exact s _ _ q
  · rw [List.getElem?_append_right (by omega)] at he
    have ej : j = n := by
      have := List.getElem?_eq_some_iff.mp he
      obtain ⟨q, -⟩ := this
      simp at q
      omega
    subst ej
    have ee : c = e := by simpa [a] using he
    subst ee
    rw [upd_ne nc]
    exact hc
theorem RowsAt.nil {H : Hp} {C : Addr} : RowsAt (upd H C (.lst [])) C 0 := ⟨[], rfl, upd_same, fun j c z => by simp at z⟩
theorem rows_dp {K : PySem.W.Frag} {H : Hp} : ∀ (cs : List Addr) (k : Nat), (∀ (j : Nat) (c : Addr), cs[j]? = some c → H c = some (.lst [.int ((k + j : Nat) : Int)])) → DpAll K H (cs.map V.ref) ((List.range' k cs.length).map fun j : Nat => PyData.list [.int (j : Int)])
  | [], k, h => .nil
  | c :: cs, k, h => by
    refine .cons (.lst (.inl (.inl (h 0 c rfl))) (.cons (.int _) .nil)) ?_
    refine rows_dp cs (k + 1) (fun j e he => ?_)
    have q := h (j + 1) e (by simpa using he)
    have e1 : k + 1 + j = k + (j + 1) := by omega
    rw [e1]
    exact q
theorem RowsAt.dp {K : PySem.W.Frag} {H : Hp} {C : Addr} {n : Nat} (h : RowsAt H C n) : Dp K H (.ref C) (.list ((List.range' 0 n).map fun j : Nat => PyData.list [.int (j : Int)])) := by
  obtain ⟨cs, a, b, d⟩ := h
  subst a
  exact .lst (.inl (.inl b)) (rows_dp cs 0 (fun j c z => by rw [Nat.zero_add]; exact d j c z))
section
variable {P : Program} {w : World} {K : PySem.W.Frag} {mg : Str → Option Value} {base : Heap}

def D_code : He.DefD := ⟨("_law_code", none), "_law_code", "_law_code", defArgs s39, defBody s39, defScope s39, [], []⟩
theorem sc_code : FnScope ["_law_error", "_law_found", "_law_at"] ["_law_error"] (defScope s39) := ⟨rfl, rfl, rfl, by decide +kernel, rfl, by decide +kernel, by decide +kernel⟩
def names27 : List Str := exF ++ (["NothingToUndo", "NothingToRedo"] : List Str)
def codeL (x : Str) (n : Nat) : List Nat := (List.range n).filter fun i => decide (names27[i]? = some x)
def sp_code (K : PySem.W.Frag) : Sp := fun vs H Q _ => ∃ (e : Addr) (x : Str), vs = [.ref e] ∧ x ∈ exF ++ exC ∧ EX.ErrAt H e (He.ga K x) ∧ ∀ (l : Addr) (H1 : Hp), Same H H1 → H l = none → H1 l = some (.lst ((codeL x 27).map fun n : Nat => V.int n)) → Q (.ref l) H1
theorem ok_code (c : He.SaysD fa fn K) (c2 : ex K = true) (XK : K.In base) (G0 : base.Ns mainGlobals mg) (pl : EX.Plain P file) : Ok P w K mg base D_code 1 ["_law_error"] (sp_code K) := by
  obtain ⟨fd, F⟩ := c.def_ 9 (d := D_code) rfl
  refine ⟨fd, fnG_ofC (k := 0) F sc_code (fun vs H Q h => ?_) (fun cdv A out s H vs Q G h => ⟨_, (pss_cons (ps_set (i := 1) sc_code.nd rfl (by first | exact Or.inl rfl | exact Or.inr rfl) (pe_lst (pa_cons (pe_callB (call_isiK' (K := K) rfl (exs c2)) rfl (He.free_ok XK G0 (c.fact 46 (f := .free "isinstance") rfl)) (by decide +kernel) (pa_cons (pv 0) (pa_cons (pe_glob (v := .ref (He.ga K "InvalidSize")) rfl (He.glo_ok XK G0 (c.fact 1 (f := .glo "InvalidSize") rfl)) rfl) pa_nil))) (pa_cons (pe_callB (call_isiK' (K := K) rfl (exs c2)) rfl (He.free_ok XK G0 (c.fact 46 (f := .free "isinstance") rfl)) (by decide +kernel) (pa_cons (pv 0) (pa_cons (pe_glob (v := .ref (He.ga K "InvalidRoads")) rfl (He.glo_ok XK G0 (c.fact 2 (f := .glo "InvalidRoads") rfl)) rfl) pa_nil))) (pa_cons (pe_callB (call_isiK' (K := K) rfl (exs c2)) rfl (He.free_ok XK G0 (c.fact 46 (f := .free "isinstance") rfl)) (by decide +kernel) (pa_cons (pv 0) (pa_cons (pe_glob (v := .ref (He.ga K "InvalidWeb")) rfl (He.glo_ok XK G0 (c.fact 3 (f := .glo "InvalidWeb") rfl)) rfl) pa_nil))) pa_nil)))))
      (pss_cons (ps_set (i := 1) sc_code.nd rfl (by first | exact Or.inl rfl | exact Or.inr rfl) (pe_op op_add3 (pv 1) (pe_lst (pa_cons (pe_callB (call_isiK' (K := K) rfl (exs c2)) rfl (He.free_ok XK G0 (c.fact 46 (f := .free "isinstance") rfl)) (by decide +kernel) (pa_cons (pv 0) (pa_cons (pe_glob (v := .ref (He.ga K "NotTree")) rfl (He.glo_ok XK G0 (c.fact 4 (f := .glo "NotTree") rfl)) rfl) pa_nil))) (pa_cons (pe_callB (call_isiK' (K := K) rfl (exs c2)) rfl (He.free_ok XK G0 (c.fact 46 (f := .free "isinstance") rfl)) (by decide +kernel) (pa_cons (pv 0) (pa_cons (pe_glob (v := .ref (He.ga K "InvalidPlace")) rfl (He.glo_ok XK G0 (c.fact 5 (f := .glo "InvalidPlace") rfl)) rfl) pa_nil))) (pa_cons (pe_callB (call_isiK' (K := K) rfl (exs c2)) rfl (He.free_ok XK G0 (c.fact 46 (f := .free "isinstance") rfl)) (by decide +kernel) (pa_cons (pv 0) (pa_cons (pe_glob (v := .ref (He.ga K "InvalidPlaces")) rfl (He.glo_ok XK G0 (c.fact 6 (f := .glo "InvalidPlaces") rfl)) rfl) pa_nil))) pa_nil))))))
      (pss_cons (ps_set (i := 1) sc_code.nd rfl (by first | exact Or.inl rfl | exact Or.inr rfl) (pe_op op_add3 (pv 1) (pe_lst (pa_cons (pe_callB (call_isiK' (K := K) rfl (exs c2)) rfl (He.free_ok XK G0 (c.fact 46 (f := .free "isinstance") rfl)) (by decide +kernel) (pa_cons (pv 0) (pa_cons (pe_glob (v := .ref (He.ga K "InvalidKind")) rfl (He.glo_ok XK G0 (c.fact 7 (f := .glo "InvalidKind") rfl)) rfl) pa_nil))) (pa_cons (pe_callB (call_isiK' (K := K) rfl (exs c2)) rfl (He.free_ok XK G0 (c.fact 46 (f := .free "isinstance") rfl)) (by decide +kernel) (pa_cons (pv 0) (pa_cons (pe_glob (v := .ref (He.ga K "InvalidKinds")) rfl (He.glo_ok XK G0 (c.fact 8 (f := .glo "InvalidKinds") rfl)) rfl) pa_nil))) (pa_cons (pe_callB (call_isiK' (K := K) rfl (exs c2)) rfl (He.free_ok XK G0 (c.fact 46 (f := .free "isinstance") rfl)) (by decide +kernel) (pa_cons (pv 0) (pa_cons (pe_glob (v := .ref (He.ga K "InvalidRoad")) rfl (He.glo_ok XK G0 (c.fact 9 (f := .glo "InvalidRoad") rfl)) rfl) pa_nil))) pa_nil))))))
      (pss_cons (ps_set (i := 1) sc_code.nd rfl (by first | exact Or.inl rfl | exact Or.inr rfl) (pe_op op_add3 (pv 1) (pe_lst (pa_cons (pe_callB (call_isiK' (K := K) rfl (exs c2)) rfl (He.free_ok XK G0 (c.fact 46 (f := .free "isinstance") rfl)) (by decide +kernel) (pa_cons (pv 0) (pa_cons (pe_glob (v := .ref (He.ga K "TakenRoad")) rfl (He.glo_ok XK G0 (c.fact 10 (f := .glo "TakenRoad") rfl)) rfl) pa_nil))) (pa_cons (pe_callB (call_isiK' (K := K) rfl (exs c2)) rfl (He.free_ok XK G0 (c.fact 46 (f := .free "isinstance") rfl)) (by decide +kernel) (pa_cons (pv 0) (pa_cons (pe_glob (v := .ref (He.ga K "UnknownRoad")) rfl (He.glo_ok XK G0 (c.fact 11 (f := .glo "UnknownRoad") rfl)) rfl) pa_nil))) (pa_cons (pe_callB (call_isiK' (K := K) rfl (exs c2)) rfl (He.free_ok XK G0 (c.fact 46 (f := .free "isinstance") rfl)) (by decide +kernel) (pa_cons (pv 0) (pa_cons (pe_glob (v := .ref (He.ga K "InvalidLeading")) rfl (He.glo_ok XK G0 (c.fact 12 (f := .glo "InvalidLeading") rfl)) rfl) pa_nil))) pa_nil))))))
      (pss_cons (ps_set (i := 1) sc_code.nd rfl (by first | exact Or.inl rfl | exact Or.inr rfl) (pe_op op_add3 (pv 1) (pe_lst (pa_cons (pe_callB (call_isiK' (K := K) rfl (exs c2)) rfl (He.free_ok XK G0 (c.fact 46 (f := .free "isinstance") rfl)) (by decide +kernel) (pa_cons (pv 0) (pa_cons (pe_glob (v := .ref (He.ga K "InvalidCount")) rfl (He.glo_ok XK G0 (c.fact 13 (f := .glo "InvalidCount") rfl)) rfl) pa_nil))) (pa_cons (pe_callB (call_isiK' (K := K) rfl (exs c2)) rfl (He.free_ok XK G0 (c.fact 46 (f := .free "isinstance") rfl)) (by decide +kernel) (pa_cons (pv 0) (pa_cons (pe_glob (v := .ref (He.ga K "InvalidTold")) rfl (He.glo_ok XK G0 (c.fact 14 (f := .glo "InvalidTold") rfl)) rfl) pa_nil))) (pa_cons (pe_callB (call_isiK' (K := K) rfl (exs c2)) rfl (He.free_ok XK G0 (c.fact 46 (f := .free "isinstance") rfl)) (by decide +kernel) (pa_cons (pv 0) (pa_cons (pe_glob (v := .ref (He.ga K "InvalidTrees")) rfl (He.glo_ok XK G0 (c.fact 15 (f := .glo "InvalidTrees") rfl)) rfl) pa_nil))) pa_nil))))))
      (pss_cons (ps_set (i := 1) sc_code.nd rfl (by first | exact Or.inl rfl | exact Or.inr rfl) (pe_op op_add3 (pv 1) (pe_lst (pa_cons (pe_callB (call_isiK' (K := K) rfl (exs c2)) rfl (He.free_ok XK G0 (c.fact 46 (f := .free "isinstance") rfl)) (by decide +kernel) (pa_cons (pv 0) (pa_cons (pe_glob (v := .ref (He.ga K "InvalidRule")) rfl (He.glo_ok XK G0 (c.fact 16 (f := .glo "InvalidRule") rfl)) rfl) pa_nil))) (pa_cons (pe_callB (call_isiK' (K := K) rfl (exs c2)) rfl (He.free_ok XK G0 (c.fact 46 (f := .free "isinstance") rfl)) (by decide +kernel) (pa_cons (pv 0) (pa_cons (pe_glob (v := .ref (He.ga K "InvalidShares")) rfl (He.glo_ok XK G0 (c.fact 17 (f := .glo "InvalidShares") rfl)) rfl) pa_nil))) (pa_cons (pe_callB (call_isiK' (K := K) rfl (exs c2)) rfl (He.free_ok XK G0 (c.fact 46 (f := .free "isinstance") rfl)) (by decide +kernel) (pa_cons (pv 0) (pa_cons (pe_glob (v := .ref (He.ga K "InvalidTowns")) rfl (He.glo_ok XK G0 (c.fact 18 (f := .glo "InvalidTowns") rfl)) rfl) pa_nil))) pa_nil))))))
      (pss_cons (ps_set (i := 1) sc_code.nd rfl (by first | exact Or.inl rfl | exact Or.inr rfl) (pe_op op_add3 (pv 1) (pe_lst (pa_cons (pe_callB (call_isiK' (K := K) rfl (exs c2)) rfl (He.free_ok XK G0 (c.fact 46 (f := .free "isinstance") rfl)) (by decide +kernel) (pa_cons (pv 0) (pa_cons (pe_glob (v := .ref (He.ga K "Clash")) rfl (He.glo_ok XK G0 (c.fact 19 (f := .glo "Clash") rfl)) rfl) pa_nil))) (pa_cons (pe_callB (call_isiK' (K := K) rfl (exs c2)) rfl (He.free_ok XK G0 (c.fact 46 (f := .free "isinstance") rfl)) (by decide +kernel) (pa_cons (pv 0) (pa_cons (pe_glob (v := .ref (He.ga K "NotRight")) rfl (He.glo_ok XK G0 (c.fact 20 (f := .glo "NotRight") rfl)) rfl) pa_nil))) (pa_cons (pe_callB (call_isiK' (K := K) rfl (exs c2)) rfl (He.free_ok XK G0 (c.fact 46 (f := .free "isinstance") rfl)) (by decide +kernel) (pa_cons (pv 0) (pa_cons (pe_glob (v := .ref (He.ga K "Broken")) rfl (He.glo_ok XK G0 (c.fact 21 (f := .glo "Broken") rfl)) rfl) pa_nil))) pa_nil))))))
      (pss_cons (ps_set (i := 1) sc_code.nd rfl (by first | exact Or.inl rfl | exact Or.inr rfl) (pe_op op_add3 (pv 1) (pe_lst (pa_cons (pe_callB (call_isiK' (K := K) rfl (exs c2)) rfl (He.free_ok XK G0 (c.fact 46 (f := .free "isinstance") rfl)) (by decide +kernel) (pa_cons (pv 0) (pa_cons (pe_glob (v := .ref (He.ga K "InvalidTown")) rfl (He.glo_ok XK G0 (c.fact 22 (f := .glo "InvalidTown") rfl)) rfl) pa_nil))) (pa_cons (pe_callB (call_isiK' (K := K) rfl (exs c2)) rfl (He.free_ok XK G0 (c.fact 46 (f := .free "isinstance") rfl)) (by decide +kernel) (pa_cons (pv 0) (pa_cons (pe_glob (v := .ref (He.ga K "InvalidScript")) rfl (He.glo_ok XK G0 (c.fact 23 (f := .glo "InvalidScript") rfl)) rfl) pa_nil))) (pa_cons (pe_callB (call_isiK' (K := K) rfl (exs c2)) rfl (He.free_ok XK G0 (c.fact 46 (f := .free "isinstance") rfl)) (by decide +kernel) (pa_cons (pv 0) (pa_cons (pe_glob (v := .ref (He.ga K "InvalidLog")) rfl (He.glo_ok XK G0 (c.fact 24 (f := .glo "InvalidLog") rfl)) rfl) pa_nil))) pa_nil))))))
      (pss_cons (ps_set (i := 1) sc_code.nd rfl (by first | exact Or.inl rfl | exact Or.inr rfl) (pe_op op_add3 (pv 1) (pe_lst (pa_cons (pe_callB (call_isiK' (K := K) rfl (exs c2)) rfl (He.free_ok XK G0 (c.fact 46 (f := .free "isinstance") rfl)) (by decide +kernel) (pa_cons (pv 0) (pa_cons (pe_glob (v := .ref (He.ga K "InvalidText")) rfl (He.glo_ok XK G0 (c.fact 25 (f := .glo "InvalidText") rfl)) rfl) pa_nil))) pa_nil))))
      (pss_cons (ps_set (i := 1) sc_code.nd rfl (by first | exact Or.inl rfl | exact Or.inr rfl) (pe_op op_add3 (pv 1) (pe_lst (pa_cons (pe_callB (call_isiK' (K := K) rfl (exs c2)) rfl (He.free_ok XK G0 (c.fact 46 (f := .free "isinstance") rfl)) (by decide +kernel) (pa_cons (pv 0) (pa_cons (pe_glob (v := .ref (He.ga K "NothingToUndo")) rfl (He.glo_ok XK G0 (c.fact 26 (f := .glo "NothingToUndo") rfl)) rfl) pa_nil))) (pa_cons (pe_callB (call_isiK' (K := K) rfl (exs c2)) rfl (He.free_ok XK G0 (c.fact 46 (f := .free "isinstance") rfl)) (by decide +kernel) (pa_cons (pv 0) (pa_cons (pe_glob (v := .ref (He.ga K "NothingToRedo")) rfl (He.glo_ok XK G0 (c.fact 27 (f := .glo "NothingToRedo") rfl)) rfl) pa_nil))) pa_nil)))))
      (pss_one (ps_ret (pe_lc (own := [("_law_at", 2)]) rfl sc_code.nd (pi_range1 rfl (He.free_ok XK G0 (c.fact 42 (f := .free "range") rfl)) (pa_cons (pe_callB call_lenO rfl (He.free_ok XK G0 (c.fact 41 (f := .free "len") rfl)) (by decide +kernel) (pa_cons (pv 1) pa_nil)) pa_nil)) (show BlkOk ["_law_error", "_law_found", "_law_at"] (defScope s39) _ [("_law_at", 2)] from ⟨rfl, by decide +kernel, by decide +kernel, by decide +kernel, by decide +kernel⟩) (fun _ _ _ _ _ => pg_name (i := 2) sc_code.nd rfl (Or.inl rfl)) (fun _ _ _ _ _ => by exact (pts_one (pt_val (pe_ix ix_own (pv 1) (pv 2) (fun _ _ => rfl))))) (fun _ _ _ _ _ => by exact (pv 2))))))))))))))), ?_⟩), F.bindsN fun _ _ _ _ _ _ us hl => match us, hl with | [_], _ => rfl, F.kp, fun_lk F⟩
  · obtain ⟨e, x, ev, -⟩ := h
    subst ev
    rfl
  · obtain ⟨e, x, ev, hx, he, q⟩ := h
    subst ev
    refine isBody0 (f := fun y => decide (x = y) || decide (y = "LandError")) (c := ["InvalidSize", "InvalidRoads", "InvalidWeb"]) (r := [["NotTree", "InvalidPlace", "InvalidPlaces"], ["InvalidKind", "InvalidKinds", "InvalidRoad"], ["TakenRoad", "UnknownRoad", "InvalidLeading"], ["InvalidCount", "InvalidTold", "InvalidTrees"], ["InvalidRule", "InvalidShares", "InvalidTowns"], ["Clash", "NotRight", "Broken"], ["InvalidTown", "InvalidScript", "InvalidLog"], ["InvalidText"], ["NothingToUndo", "NothingToRedo"]]) (tl := _) (by decide) (xk c2 x hx) (show 1 < 3 from by decide) he rfl (fun y hy => isk c2 x y hx ?_) (show 27 ≤ 1000 from by decide) ?_
    · revert y
      decide +kernel
    intro σ' H1 l1 e1 e2 e3 s1 h1
    obtain ⟨t, es⟩ : ∃ t, σ' = [some (.ref e), some (.ref l1), t] := by
      have e0 := e1 0 (by decide)
      match σ', e2, e0, e3 with
      | [a, b, t], _, e0, e3 =>
        have ea : a = some (.ref e) := by simpa [L2.start] using e0
        have eb : b = some (.ref l1) := by simpa using e3
        exact ⟨t, by rw [ea, eb]⟩
    subst es
    have h2 : H1 l1 = some (.lst (names27.map fun y => V.bl (decide (x = y) || decide (y = "LandError")))) := h1
    have n27 : (names27.map fun y => V.bl (decide (x = y) || decide (y = "LandError"))).length = 27 := by rw [List.length_map]; rfl
    clear h1
    simp only [e_seq, e_asg, e_ret, e_drop, e_ifs, e_next, e_for, e_lc, e_name, e_gsub, e_setL, e_var, e_c, e_op, e_rI, e_rI0, e_add3, e_B, e_not, e_and, e_or, e_andV, e_orV, e_notV, e_nil, e_cons, e_cb, e_call, e_lst, e_tup, e_bits, e_ixO, e_ixS, e_lenO, e_sl, e_rng, e_list, e_ituple, e_yes, e_start, e_part, e_nop, e_slL, e_sum, e_lenL, List.getElem?_cons_zero, List.getElem?_cons_succ, List.getElem?_nil, List.set_cons_zero, List.set_cons_succ, List.map_cons, List.map_nil, List.nil_append, List.cons_append, List.append_nil, List.length_cons, List.length_nil, Option.some.injEq, V.int.injEq, V.str.injEq, V.bl.injEq, V.ref.injEq, HO.lst.injEq, HO.tup.injEq, reduceCtorEq, false_and, and_false, exists_false, or_false, false_or, exists_eq_left, exists_eq_left', exists_eq_right, exists_and_left, exists_and_right, true_and, and_true, List.cons.injEq, and_assoc, List.replicate, List.append_eq, Nat.sub_self, Nat.add_sub_cancel, upd_same, ix40, ix41, ix42, ix43, at40, at41, at42, at43, DL.ite_tt, DL.ite_ff, Bool.not_true, Bool.not_false, h2, n27]
    refine ⟨by decide, by decide, ?_⟩
    show LcT (Itr 0 27) _ _ _ [2] _ _ _
    refine lc_R (fun C hC => ?_)
    obtain ⟨R, hR⟩ : ∃ R : Nat → Hp → Prop, ∀ i H', R i H' ↔ (i ≤ 27 ∧ Same H1 H' ∧ H' C = some (.lst ((codeL x i).map fun n : Nat => V.int n))) := ⟨_, fun _ _ => Iff.rfl⟩
    refine ⟨R, (hR _ _).mpr ⟨by decide, sameA hC, upd_same⟩, ?_, ?_⟩
    · intro i H' r lt
      obtain ⟨i27, s2, hc⟩ := (hR _ _).mp r
      have it : i < names27.length := lt
      have hv : (names27.map fun y => V.bl (decide (x = y) || decide (y = "LandError")))[i]? = some (V.bl (decide (x = names27[i]))) := by
        rw [List.getElem?_map, List.getElem?_eq_getElem it]
        have nl : decide (names27[i] = "LandError") = false := by
          have : ∀ y ∈ names27, decide (y = "LandError") = false := by decide +kernel
          exact this _ (List.getElem_mem it)
        simp [nl]
      have h3 : H' l1 = _ := s2 _ _ h2
      show tB _ _ _ _
      simp only [e_seq, e_asg, e_ret, e_drop, e_ifs, e_next, e_for, e_lc, e_name, e_gsub, e_setL, e_var, e_c, e_op, e_rI, e_rI0, e_add3, e_B, e_not, e_and, e_or, e_andV, e_orV, e_notV, e_nil, e_cons, e_cb, e_call, e_lst, e_tup, e_bits, e_ixO, e_ixS, e_lenO, e_sl, e_rng, e_list, e_ituple, e_yes, e_start, e_part, e_nop, e_slL, e_sum, e_lenL, List.getElem?_cons_zero, List.getElem?_cons_succ, List.getElem?_nil, List.set_cons_zero, List.set_cons_succ, List.map_cons, List.map_nil, List.nil_append, List.cons_append, List.append_nil, List.length_cons, List.length_nil, Option.some.injEq, V.int.injEq, V.str.injEq, V.bl.injEq, V.ref.injEq, HO.lst.injEq, HO.tup.injEq, reduceCtorEq, false_and, and_false, exists_false, or_false, false_or, exists_eq_left, exists_eq_left', exists_eq_right, exists_and_left, exists_and_right, true_and, and_true, List.cons.injEq, and_assoc, List.replicate, List.append_eq, Nat.sub_self, Nat.add_sub_cancel, upd_same, ix40, ix41, ix42, ix43, at40, at41, at42, at43, DL.ite_tt, DL.ite_ff, Bool.not_true, Bool.not_false, h3]
      refine ⟨_, atI_nat hv, _, rfl, ?_⟩
      have step : codeL x (i + 1) = codeL x i ++ if decide (x = names27[i]) = true then [i] else [] := by
        unfold codeL
        rw [List.range_succ, List.filter_append]
        congr 1
        by_cases z : x = names27[i]
        · subst z
          simp [List.getElem?_eq_getElem it]
        · simp [List.getElem?_eq_getElem it, z, Ne.symm z]
      by_cases z : decide (x = names27[i]) = true
      · rw [if_pos z]
        refine ⟨_, hc, ?_, (hR _ _).mpr ⟨by omega, ?_, ?_⟩⟩
        · rw [List.length_map]
          refine small1000 (Nat.le_trans (List.length_filter_le _ _) ?_)
          rw [List.length_range]
          omega
        · intro b o hb
          have ne : b ≠ C := fun y => by rw [y, hC] at hb; cases hb
          rw [upd_ne ne]
          exact s2 b o hb
        · rw [upd_same, step, if_pos z, List.map_append]
          rfl
      · rw [if_neg z]
        refine (hR _ _).mpr ⟨by omega, s2, ?_⟩
        rw [step, if_neg z, List.append_nil]
        exact hc
    · intro i H' r le
      obtain ⟨i27, s2, hc⟩ := (hR _ _).mp r
      have e27 : i = 27 := by omega
      subst e27
      exact q C H' (s1.trans s2) (Same.none s1 hC) hc

def D_is_error : He.DefD := ⟨("_law_is_error", none), "_law_is_error", "_law_is_error", defArgs s40, defBody s40, defScope s40, [], []⟩
theorem sc_is_error : FnScope ["_law_error"] ["_law_error"] (defScope s40) := ⟨rfl, rfl, rfl, by decide +kernel, rfl, by decide +kernel, by decide +kernel⟩
def sp_is_error (K : PySem.W.Frag) : Sp := fun vs H Q _ => ∃ (e : Addr) (x : Str), vs = [.ref e] ∧ x ∈ exF ++ exC ∧ EX.ErrAt H e (He.ga K x) ∧ Q (.bl true) H
theorem ok_is_error (c : He.SaysD fa fn K) (c2 : ex K = true) (XK : K.In base) (G0 : base.Ns mainGlobals mg) (pl : EX.Plain P file) : Ok P w K mg base D_is_error 1 ["_law_error"] (sp_is_error K) := by
  obtain ⟨fd, F⟩ := c.def_ 10 (d := D_is_error) rfl
  refine ⟨fd, fnG_ofC (k := 0) F sc_is_error (fun vs H Q h => ?_) (fun cdv A out s H vs Q G h => ⟨_, (pss_one (ps_ret (pe_and (pe_callB (call_isiK' (K := K) rfl (exs c2)) rfl (He.free_ok XK G0 (c.fact 46 (f := .free "isinstance") rfl)) (by decide +kernel) (pa_cons (pv 0) (pa_cons (pe_glob (v := .ref (He.ga K "LandError")) rfl (He.glo_ok XK G0 (c.fact 0 (f := .glo "LandError") rfl)) rfl) pa_nil))) (pe_one (pe_callB (call_isiK' (K := K) rfl (exs c2)) rfl (He.free_ok XK G0 (c.fact 46 (f := .free "isinstance") rfl)) (by decide +kernel) (pa_cons (pv 0) (pa_cons (pe_bltn rfl (He.free_ok XK G0 (c.fact 59 (f := .free "ValueError") rfl)) (by decide +kernel) (v := .ty "ValueError") rfl) pa_nil))))))), ?_⟩), F.bindsN fun _ _ _ _ _ _ us hl => match us, hl with | [_], _ => rfl, F.kp, fun_lk F⟩
  · obtain ⟨e, x, ev, -⟩ := h
    subst ev
    rfl
  · obtain ⟨e, x, ev, hx, he, q⟩ := h
    subst ev
    simp only [e_seq, e_asg, e_ret, e_drop, e_ifs, e_next, e_for, e_lc, e_name, e_gsub, e_setL, e_var, e_c, e_op, e_rI, e_rI0, e_add3, e_B, e_not, e_and, e_or, e_andV, e_orV, e_notV, e_nil, e_cons, e_cb, e_call, e_lst, e_tup, e_bits, e_ixO, e_ixS, e_lenO, e_sl, e_rng, e_list, e_ituple, e_yes, e_start, e_part, e_nop, e_slL, e_sum, e_lenL, List.getElem?_cons_zero, List.getElem?_cons_succ, List.getElem?_nil, List.set_cons_zero, List.set_cons_succ, List.map_cons, List.map_nil, List.nil_append, List.cons_append, List.append_nil, List.length_cons, List.length_nil, Option.some.injEq, V.int.injEq, V.str.injEq, V.bl.injEq, V.ref.injEq, HO.lst.injEq, HO.tup.injEq, reduceCtorEq, false_and, and_false, exists_false, or_false, false_or, exists_eq_left, exists_eq_left', exists_eq_right, exists_and_left, exists_and_right, true_and, and_true, List.cons.injEq, and_assoc, List.replicate, List.append_eq, Nat.sub_self, Nat.add_sub_cancel, upd_same, ix40, ix41, ix42, ix43, at40, at41, at42, at43, DL.ite_tt, DL.ite_ff, Bool.not_true, Bool.not_false]
    have h1 := isk c2 x "LandError" hx (by decide)
    have h2 := isv c2 x hx
    refine .inr ⟨e, _, _, _, _, rfl, .own _, he, xk c2 x hx, h1, true, by simp, ?_⟩
    rw [if_pos rfl]
    exact .inr ⟨e, _, _, _, _, rfl, .ty _, he, xk c2 x hx, h2, q⟩

def D_right : He.DefD := ⟨("_law_right", none), "_law_right", "_law_right", defArgs s41, defBody s41, defScope s41, [], []⟩
theorem sc_right : FnScope ["_law_some", "_law_noted", "_law_error", "_law_at"] ["_law_some", "_law_noted"] (defScope s41) := ⟨rfl, rfl, rfl, by decide +kernel, rfl, by decide +kernel, by decide +kernel⟩
/-- what repr tells of v -/
def Shown (K : PySem.W.Frag) (H : Hp) (v : V) (z : Str) : Prop := (∃ d, Dp K H v d ∧ d.showable = true ∧ d.hasDict = false ∧ d.depth ≤ 60 ∧ d.shown.length ≤ sizeLine ∧ (∀ i, d = .int i → i.natAbs.log2 < 1920) ∧ d.shown = z) ∨ ∃ a, v = .ref a ∧ H a = some (.dK []) ∧ z = "{}"
/-- the errors of all classes, of the value v -/
def Errs (K : PySem.W.Frag) (H : Hp) (es : List Addr) (v : V) : Prop := es.length = 25 ∧ ∀ (i : Nat) (e : Addr) (x : Str), es[i]? = some e → exF[i]? = some x → ∃ dx, H e = some (exo e (He.ga K x) (some dx)) ∧ H dx = some (exd dx [("value", v)])
def sp_right (K : PySem.W.Frag) : Sp := fun vs H Q _ => ∃ (l : Addr) (z : Str) (es : List Addr) (v : V), vs = [.ref l, .str z] ∧ H l = some (.lst (es.map V.ref)) ∧ Errs K H es v ∧ Shown K H v z ∧ ∀ H1, Same H H1 → Q (.bl true) H1
theorem ok_right (c : He.SaysD fa fn K) (c2 : ex K = true) (XK : K.In base) (G0 : base.Ns mainGlobals mg) (pl : EX.Plain P file) (h_code : Ok P w K mg base D_code 1 ["_law_error"] (sp_code K)) (h_is_error : Ok P w K mg base D_is_error 1 ["_law_error"] (sp_is_error K)) : Ok P w K mg base D_right 2 ["_law_some", "_law_noted"] (sp_right K) := by
  obtain ⟨fd, F⟩ := c.def_ 11 (d := D_right) rfl
  refine ⟨fd, fnG_ofC (k := 1) F sc_right (fun vs H Q h => ?_) (fun cdv A out s H vs Q G h => ⟨_, (pss_cons (ps_if (pt_cmp (pcOp (op_neU (K := K) rfl (by exact G.u64)) (pe_lc (own := [("_law_error", 2)]) rfl sc_right.nd (pi_listK (K := K) rfl (pv 0)) (show BlkOk ["_law_some", "_law_noted", "_law_error", "_law_at"] (defScope s41) _ [("_law_error", 2)] from ⟨rfl, by decide +kernel, by decide +kernel, by decide +kernel, by decide +kernel⟩) (fun _ _ _ _ _ => pg_name (i := 2) sc_right.nd rfl (Or.inl rfl)) (fun _ _ _ _ _ => by exact pts_nil) (fun _ _ _ _ _ => by exact (pe_callO h_code ((G.blk _ _ _ _ _).le (by decide)) rfl (He.glo_ok XK G0 (c.fact 37 (f := .glo "_law_code") rfl)) (pa_cons (pv 2) pa_nil)))) (pe_lc (own := [("_law_at", 3)]) rfl sc_right.nd (pi_range1 rfl (He.free_ok XK G0 (c.fact 42 (f := .free "range") rfl)) (pa_cons pe_int pa_nil)) (show BlkOk ["_law_some", "_law_noted", "_law_error", "_law_at"] (defScope s41) _ [("_law_at", 3)] from ⟨rfl, by decide +kernel, by decide +kernel, by decide +kernel, by decide +kernel⟩) (fun _ _ _ _ _ => pg_name (i := 3) sc_right.nd rfl (Or.inl rfl)) (fun _ _ _ _ _ => by exact pts_nil) (fun _ _ _ _ _ => by exact (pe_lst (pa_cons (pv 3) pa_nil)))))) (pss_one (ps_ret pe_bl)) pss_nil)
      (pss_one (ps_ret (pe_cmpR (op_eqU (K := K) rfl (by exact G.u64)) (pe_lc (own := [("_law_error", 2)]) rfl sc_right.nd (pi_listK (K := K) rfl (pv 0)) (show BlkOk ["_law_some", "_law_noted", "_law_error", "_law_at"] (defScope s41) _ [("_law_error", 2)] from ⟨rfl, by decide +kernel, by decide +kernel, by decide +kernel, by decide +kernel⟩) (fun _ _ _ _ _ => pg_name (i := 2) sc_right.nd rfl (Or.inl rfl)) (fun _ _ _ _ _ => by exact (pts_one (PW.pt (pw_or (pt_not (pt_val (pe_callO h_is_error ((G.blk _ _ _ _ _).le (by decide)) rfl (He.glo_ok XK G0 (c.fact 38 (f := .glo "_law_is_error") rfl)) (pa_cons (pv 2) pa_nil)))) (pw_or1 (pt_cmp (pcOp (op_neU (K := K) rfl (by exact G.u64)) (pe_callB (call_reprK (K := K) rfl (by exact G.g) (by exact G.u64)) rfl (He.free_ok XK G0 (c.fact 51 (f := .free "repr") rfl)) (by decide +kernel) (pa_cons (pe_exvK (K := K) rfl (pv 2)) pa_nil)) (pv 1)))))))) (fun _ _ _ _ _ => by exact (pv 2))) (pe_lst pa_nil) (nomark _))))), ?_⟩), F.bindsN fun _ _ _ _ _ _ us hl => match us, hl with | [_, _], _ => rfl, F.kp, fun_lk F⟩
  · obtain ⟨l, z, es, v, ev, -⟩ := h
    subst ev
    rfl
  · obtain ⟨l, z, es, v, ev, hl, he, hz, q⟩ := h
    subst ev
    simp only [e_seq, e_asg, e_ret, e_drop, e_ifs, e_next, e_for, e_lc, e_name, e_gsub, e_setL, e_var, e_c, e_op, e_rI, e_rI0, e_add3, e_B, e_not, e_and, e_or, e_andV, e_orV, e_notV, e_nil, e_cons, e_cb, e_call, e_lst, e_tup, e_bits, e_ixO, e_ixS, e_lenO, e_sl, e_rng, e_list, e_ituple, e_yes, e_start, e_part, e_nop, e_slL, e_sum, e_lenL, List.getElem?_cons_zero, List.getElem?_cons_succ, List.getElem?_nil, List.set_cons_zero, List.set_cons_succ, List.map_cons, List.map_nil, List.nil_append, List.cons_append, List.append_nil, List.length_cons, List.length_nil, Option.some.injEq, V.int.injEq, V.str.injEq, V.bl.injEq, V.ref.injEq, HO.lst.injEq, HO.tup.injEq, reduceCtorEq, false_and, and_false, exists_false, or_false, false_or, exists_eq_left, exists_eq_left', exists_eq_right, exists_and_left, exists_and_right, true_and, and_true, List.cons.injEq, and_assoc, List.replicate, List.append_eq, Nat.sub_self, Nat.add_sub_cancel, upd_same, ix40, ix41, ix42, ix43, at40, at41, at42, at43, DL.ite_tt, DL.ite_ff, Bool.not_true, Bool.not_false, hl]
    refine ⟨⟨_, .inl (.inl hl)⟩, ?_⟩
    refine lc_L (.inl (.inl hl)) (fun C hC => ?_)
    obtain ⟨R, hR⟩ : ∃ R : Nat → Hp → Prop, ∀ i H', R i H' ↔ (i ≤ 25 ∧ Same H H' ∧ RowsAt H' C i) := ⟨_, fun _ _ => Iff.rfl⟩
    refine ⟨R, (hR _ _).mpr ⟨by decide, sameA hC, RowsAt.nil⟩, ?_, ?_, ?_⟩
    · intro i H' r
      obtain ⟨-, s1, -⟩ := (hR _ _).mp r
      exact .inl (.inl (s1 _ _ hl))
    · intro i H' x r hx
      obtain ⟨i25, s1, rows⟩ := (hR _ _).mp r
      rw [List.getElem?_map] at hx
      obtain ⟨e, hee, ex⟩ := Option.map_eq_some_iff.mp hx
      subst ex
      have lt : i < 25 := by
        have := (List.getElem?_eq_some_iff.mp hee).1
        rw [he.1] at this
        exact this
      have hxi : exF[i]? = some exF[i] := List.getElem?_eq_getElem lt
      obtain ⟨dx, h1, h2⟩ := he.2 i e _ hee hxi
      show tYes _ _ _
      simp only [e_seq, e_asg, e_ret, e_drop, e_ifs, e_next, e_for, e_lc, e_name, e_gsub, e_setL, e_var, e_c, e_op, e_rI, e_rI0, e_add3, e_B, e_not, e_and, e_or, e_andV, e_orV, e_notV, e_nil, e_cons, e_cb, e_call, e_lst, e_tup, e_bits, e_ixO, e_ixS, e_lenO, e_sl, e_rng, e_list, e_ituple, e_yes, e_start, e_part, e_nop, e_slL, e_sum, e_lenL, List.getElem?_cons_zero, List.getElem?_cons_succ, List.getElem?_nil, List.set_cons_zero, List.set_cons_succ, List.map_cons, List.map_nil, List.nil_append, List.cons_append, List.append_nil, List.length_cons, List.length_nil, Option.some.injEq, V.int.injEq, V.str.injEq, V.bl.injEq, V.ref.injEq, HO.lst.injEq, HO.tup.injEq, reduceCtorEq, false_and, and_false, exists_false, or_false, false_or, exists_eq_left, exists_eq_left', exists_eq_right, exists_and_left, exists_and_right, true_and, and_true, List.cons.injEq, and_assoc, List.replicate, List.append_eq, Nat.sub_self, Nat.add_sub_cancel, upd_same, ix40, ix41, ix42, ix43, at40, at41, at42, at43, DL.ite_tt, DL.ite_ff, Bool.not_true, Bool.not_false]
      refine ⟨e, exF[i], rfl, List.mem_append_left _ (List.getElem_mem _), .inr ⟨dx, _, s1 _ _ h1, s1 _ _ h2⟩, ?_⟩
      intro c H1 s2 n1 hc
      have ci : codeL exF[i] 27 = [i] := by
        have : ∀ j (h : j < 25), codeL (exF[j]'h) 27 = [j] := by decide +kernel
        exact this i lt
      rw [ci] at hc
      obtain ⟨acc, a1, a2, a3⟩ := rows.push s2 n1 hc (by omega)
      refine ⟨acc, a1, a2, (hR _ _).mpr ⟨by omega, fun b o hb => ?_, a3⟩⟩
      have ne : b ≠ C := fun y => by rw [y, hC] at hb; cases hb
      rw [upd_ne ne]
      exact s2 _ _ (s1 _ _ hb)
    intro i H1 r le
    obtain ⟨i25, s1, rows⟩ := (hR _ _).mp r
    have e25 : i = 25 := by
      rw [List.length_map, he.1] at le
      omega
    subst e25
    refine ⟨by decide, by decide, ?_⟩
    show LcT (Itr 0 25) _ _ _ [3] _ _ _
    refine lc_R (fun C2 hC2 => ?_)
    obtain ⟨R2, hR2⟩ : ∃ R : Nat → Hp → Prop, ∀ i H', R i H' ↔ (i ≤ 25 ∧ Same H1 H' ∧ RowsAt H' C2 i) := ⟨_, fun _ _ => Iff.rfl⟩
    refine ⟨R2, (hR2 _ _).mpr ⟨by decide, sameA hC2, RowsAt.nil⟩, ?_, ?_⟩
    · intro i H' r2 lt
      obtain ⟨-, s2, rows2⟩ := (hR2 _ _).mp r2
      show tYes _ _ _
      simp only [e_seq, e_asg, e_ret, e_drop, e_ifs, e_next, e_for, e_lc, e_name, e_gsub, e_setL, e_var, e_c, e_op, e_rI, e_rI0, e_add3, e_B, e_not, e_and, e_or, e_andV, e_orV, e_notV, e_nil, e_cons, e_cb, e_call, e_lst, e_tup, e_bits, e_ixO, e_ixS, e_lenO, e_sl, e_rng, e_list, e_ituple, e_yes, e_start, e_part, e_nop, e_slL, e_sum, e_lenL, List.getElem?_cons_zero, List.getElem?_cons_succ, List.getElem?_nil, List.set_cons_zero, List.set_cons_succ, List.map_cons, List.map_nil, List.nil_append, List.cons_append, List.append_nil, List.length_cons, List.length_nil, Option.some.injEq, V.int.injEq, V.str.injEq, V.bl.injEq, V.ref.injEq, HO.lst.injEq, HO.tup.injEq, reduceCtorEq, false_and, and_false, exists_false, or_false, false_or, exists_eq_left, exists_eq_left', exists_eq_right, exists_and_left, exists_and_right, true_and, and_true, List.cons.injEq, and_assoc, List.replicate, List.append_eq, Nat.sub_self, Nat.add_sub_cancel, upd_same, ix40, ix41, ix42, ix43, at40, at41, at42, at43, DL.ite_tt, DL.ite_ff, Bool.not_true, Bool.not_false]
      refine ⟨by decide +kernel, fun p hp => ?_⟩
      obtain ⟨acc, a1, a2, a3⟩ := rows2.push (sameA hp) hp upd_same (by omega)
      refine ⟨acc, a1, a2, (hR2 _ _).mpr ⟨by omega, fun b o hb => ?_, a3⟩⟩
      have ne : b ≠ C2 := fun y => by rw [y, hC2] at hb; cases hb
      rw [upd_ne ne]
      exact sameA hp _ _ (s2 _ _ hb)
    intro i H2 r2 le2
    obtain ⟨i25, s2, rows2⟩ := (hR2 _ _).mp r2
    have e25 : i = 25 := by omega
    subst e25
    refine .inr ⟨_, _, (rows.same s2).dp, rows2.dp, by decide +kernel, by decide +kernel, false, ?_, ?_⟩
    · have : PyData.eqv (.list ((List.range' 0 25).map fun j : Nat => PyData.list [.int (j : Int)])) (.list ((List.range' 0 25).map fun j : Nat => PyData.list [.int (j : Int)])) = true := by decide +kernel
      rw [this]
      rfl
    rw [if_neg Bool.false_ne_true]
    have s12 : Same H H2 := s1.trans s2
    refine ⟨⟨_, .inl (.inl (s12 _ _ hl))⟩, ?_⟩
    refine lc_L (.inl (.inl (s12 _ _ hl))) (fun C3 hC3 => ?_)
    obtain ⟨R3, hR3⟩ : ∃ R : Nat → Hp → Prop, ∀ i H', R i H' ↔ (Same H2 H' ∧ H' C3 = some (.lst [])) := ⟨_, fun _ _ => Iff.rfl⟩
    refine ⟨R3, (hR3 _ _).mpr ⟨sameA hC3, upd_same⟩, ?_, ?_, ?_⟩
    · intro i H' r3
      obtain ⟨s3, -⟩ := (hR3 _ _).mp r3
      exact .inl (.inl (s3 _ _ (s12 _ _ hl)))
    · intro i H' x r3 hx
      obtain ⟨s3, h3⟩ := (hR3 _ _).mp r3
      have s13 : Same H H' := s12.trans s3
      rw [List.getElem?_map] at hx
      obtain ⟨e, hee, ex⟩ := Option.map_eq_some_iff.mp hx
      subst ex
      have lt : i < 25 := by
        have := (List.getElem?_eq_some_iff.mp hee).1
        rw [he.1] at this
        exact this
      have hxi : exF[i]? = some exF[i] := List.getElem?_eq_getElem lt
      obtain ⟨dx, h1, h2⟩ := he.2 i e _ hee hxi
      have mem : exF[i] ∈ exF ++ exC := List.mem_append_left _ (List.getElem_mem _)
      show tOr _ _ _ _ _
      simp only [e_seq, e_asg, e_ret, e_drop, e_ifs, e_next, e_for, e_lc, e_name, e_gsub, e_setL, e_var, e_c, e_op, e_rI, e_rI0, e_add3, e_B, e_not, e_and, e_or, e_andV, e_orV, e_notV, e_nil, e_cons, e_cb, e_call, e_lst, e_tup, e_bits, e_ixO, e_ixS, e_lenO, e_sl, e_rng, e_list, e_ituple, e_yes, e_start, e_part, e_nop, e_slL, e_sum, e_lenL, List.getElem?_cons_zero, List.getElem?_cons_succ, List.getElem?_nil, List.set_cons_zero, List.set_cons_succ, List.map_cons, List.map_nil, List.nil_append, List.cons_append, List.append_nil, List.length_cons, List.length_nil, Option.some.injEq, V.int.injEq, V.str.injEq, V.bl.injEq, V.ref.injEq, HO.lst.injEq, HO.tup.injEq, reduceCtorEq, false_and, and_false, exists_false, or_false, false_or, exists_eq_left, exists_eq_left', exists_eq_right, exists_and_left, exists_and_right, true_and, and_true, List.cons.injEq, and_assoc, List.replicate, List.append_eq, Nat.sub_self, Nat.add_sub_cancel, upd_same, ix40, ix41, ix42, ix43, at40, at41, at42, at43, DL.ite_tt, DL.ite_ff, Bool.not_true, Bool.not_false]
      refine ⟨e, exF[i], rfl, mem, .inr ⟨dx, _, s13 _ _ h1, s13 _ _ h2⟩, ?_⟩
      refine ⟨true, rfl, ?_⟩
      rw [if_neg (by decide)]
      refine ⟨.ref e, rfl, e, _, dx, _, v, rfl, xk c2 _ mem, (xf c2 exF[i] (List.getElem_mem _)).no, s13 _ _ h1, s13 _ _ h2, by simp [List.lookup], ?_⟩
      rcases hz with ⟨d, hd, a1, a2, a3, a4, a5, ez⟩ | ⟨a, ev, ha, ez⟩
      · subst ez
        refine .inl ⟨v, d, rfl, Dp.same s13 d v hd, a1, a2, a3, a4, a5, .inl ⟨rfl, false, by simp, ?_⟩⟩
        rw [if_neg Bool.false_ne_true]
        exact (hR3 _ _).mpr ⟨s3, h3⟩
      · subst ev ez
        refine .inr ⟨a, rfl, s13 _ _ ha, .inl ⟨rfl, false, by simp, ?_⟩⟩
        rw [if_neg Bool.false_ne_true]
        exact (hR3 _ _).mpr ⟨s3, h3⟩
    · intro i H' r3 le
      obtain ⟨s3, h3⟩ := (hR3 _ _).mp r3
      refine ⟨by decide +kernel, fun p hp => ?_⟩
      refine .inr ⟨_, _, .lst (.inl (.inl (sameA hp _ _ h3))) .nil, .lst (.inl (.inl upd_same)) .nil, by decide +kernel, by decide +kernel, ?_⟩
      have : PyData.eqv (.list []) (.list []) = true := by decide +kernel
      rw [this]
      exact q _ (s12.trans (s3.trans (sameA hp)))

end
end Hd1

set_option Elab.async false
set_option linter.all false
set_option maxRecDepth 100000
set_option maxHeartbeats 1000000
namespace Hd1
open PySem PySem.Spec PyProof.Rows L2 DL
def tInner (K : PySem.W.Frag) : TS :=
  tSeq
    (tIfS (tNot (tB (tCall (sp_right K) [] E0 (tCons (tVar 6) (tCons (tCB (rRepr K) (tCons (tVar 2) tNil)) tNil))))) (tRet (tC (V.bl false))) tNext)
    (tIfS (tB (tCB (rIsX K) (tCons (tVar 2) (tCons (tC (V.ty "list")) tNil))))
      (tSeq (tDrop (tBM K "list" rAppend (tVar 2) (tCons (tC (V.str (Str.ofString "later"))) tNil)))
        (tSeq (tIfS (tB (tOp (rNeU K) (tLc (iList K (tVar 6)) (gName 7) (tB (tOp (rNeU K) (tCB (rRepr K) (tCons (EX.tExv K (Str.ofString "value") (tVar 7)) tNil)) (tCB (rRepr K) (tCons (tVar 2) tNil)))) (tVar 7) [7]) (tLst tNil))) (tRet (tC (V.bl false))) tNext)
          (tDrop (tBM0 K "list" rPop (tVar 2)))))
      tNext)
/-- data that repr tells -/
def Pl (d : PyData) : Prop := d.showable = true ∧ d.hasDict = false ∧ d.depth ≤ 60 ∧ d.shown.length ≤ sizeLine ∧ ∀ i, d = .int i → i.natAbs.log2 < 1920
def ThingOk (K : PySem.W.Frag) (H : Hp) (v : V) : Prop :=
  (∃ (a : Addr) (xs : List V) (ds : List PyData), v = .ref a ∧ H a = some (.lst xs) ∧ xs.length ≤ 10 ∧ (∀ (H1 : Hp) (o : List V), Same H H1 → DpAll K (upd H1 a (.lst o)) xs ds) ∧ Pl (.list ds) ∧ Pl (.list (ds ++ [.str "later"]))) ∨
  ∃ (z : Str) (t : Value), Shown K H v z ∧ (∀ H1, Same H H1 → TyX K H1 v t) ∧ PySem.W.kitOne K t (.type "list") = some false
theorem upd_id {H : Hp} {a : Addr} {o : HO} (h : H a = some o) : upd H a o = H := by
  funext b
  by_cases e : b = a
  · rw [e, upd_same, h]
  · rw [upd_ne e]
theorem Shown.same {K : PySem.W.Frag} {H H1 : Hp} {v : V} {z : Str} (s : Same H H1) (h : Shown K H v z) : Shown K H1 v z := by
  rcases h with ⟨d, hd, r⟩ | ⟨a, e, ha, r⟩
  · exact .inl ⟨d, Dp.same s d v hd, r⟩
  · exact .inr ⟨a, e, s _ _ ha, r⟩
theorem shown_repr {K : PySem.W.Frag} {H : Hp} {v : V} {z : Str} {Q : VK} (h : Shown K H v z) (q : Q (.str z) H) : rRepr K [v] H Q := by
  rcases h with ⟨d, hd, a1, a2, a3, a4, a5, e⟩ | ⟨a, ev, ha, e⟩
  · subst e
    exact .inl ⟨v, d, rfl, hd, a1, a2, a3, a4, a5, q⟩
  · subst ev e
    exact .inr ⟨a, rfl, ha, q⟩
theorem ThingOk.shown {K : PySem.W.Frag} {H : Hp} {v : V} (h : ThingOk K H v) : ∃ z, Shown K H v z := by
  rcases h with ⟨a, xs, ds, e, ha, hl, hd, p1, p2⟩ | ⟨z, t, hz, -⟩
  · subst e
    have d := hd H xs (Same.refl H)
    rw [upd_id ha] at d
    exact ⟨_, .inl ⟨_, .lst (.inl (.inl ha)) d, p1.1, p1.2.1, p1.2.2.1, p1.2.2.2.1, p1.2.2.2.2, rfl⟩⟩
  · exact ⟨z, hz⟩
theorem Errs.same {K : PySem.W.Frag} {H H1 : Hp} {es : List Addr} {v : V} (s : Same H H1) (h : Errs K H es v) : Errs K H1 es v := ⟨h.1, fun i e x a b => by
  obtain ⟨dx, q1, q2⟩ := h.2 i e x a b
  exact ⟨dx, s _ _ q1, s _ _ q2⟩⟩
theorem exo_lst {e C : Addr} {d : Option Addr} {xs : List V} : exo e C d ≠ .lst xs := fun z => by
  have z' : HO.ext _ = HO.lst xs := z
  cases z'
theorem exd_lst {e : Addr} {fs : List (Str × V)} {xs : List V} : exd e fs ≠ .lst xs := fun z => by
  have z' : HO.ext _ = HO.lst xs := z
  cases z'
theorem inner_ok {K : PySem.W.Frag} (c2 : ex K = true) {D : Ends} {σ : L2.St} {H : Hp} {l : Addr} {es : List Addr} {v : V} (h6 : σ[6]? = some (some (.ref l))) (h2 : σ[2]? = some (some v)) (hlen : 7 < σ.length)
    (hl : H l = some (.lst (es.map V.ref))) (he : Errs K H es v) (ht : ThingOk K H v) (nx : ∀ H1, Same H H1 → D.nx σ H1) : tInner K D σ H := by
  obtain ⟨z, hz⟩ := ht.shown
  unfold tInner
  simp only [e_seq, e_asg, e_ret, e_drop, e_ifs, e_next, e_for, e_lc, e_name, e_gsub, e_setL, e_var, e_c, e_op, e_rI, e_rI0, e_add3, e_B, e_not, e_and, e_or, e_andV, e_orV, e_notV, e_nil, e_cons, e_cb, e_call, e_lst, e_tup, e_bits, e_ixO, e_ixS, e_lenO, e_sl, e_rng, e_list, e_ituple, e_yes, e_start, e_part, e_nop, e_slL, e_sum, e_lenL, List.getElem?_cons_zero, List.getElem?_cons_succ, List.getElem?_nil, List.set_cons_zero, List.set_cons_succ, List.map_cons, List.map_nil, List.nil_append, List.cons_append, List.append_nil, List.length_cons, List.length_nil, Option.some.injEq, V.int.injEq, V.str.injEq, V.bl.injEq, V.ref.injEq, HO.lst.injEq, HO.tup.injEq, reduceCtorEq, false_and, and_false, exists_false, or_false, false_or, exists_eq_left, exists_eq_left', exists_eq_right, exists_and_left, exists_and_right, true_and, and_true, List.cons.injEq, and_assoc, List.replicate, List.append_eq, Nat.sub_self, Nat.add_sub_cancel, upd_same, ix40, ix41, ix42, ix43, at40, at41, at42, at43, DL.ite_tt, DL.ite_ff, Bool.not_true, Bool.not_false, h6, h2]
  refine shown_repr hz ⟨l, z, es, v, rfl, hl, he, hz, fun H1 s1 => ⟨true, rfl, ?_⟩⟩
  rw [if_neg (by decide)]
  rcases ht with ⟨a, xs, ds, e, ha, xl, hd, p1, p2⟩ | ⟨z2, t, hz2, ty, kt⟩
  · subst e
    refine .inl ⟨_, _, _, _, true, rfl, .ty _, .base (.lst (s1 _ _ ha)), kit_ty (by decide +kernel), true, rfl, ?_⟩
    rw [if_pos rfl]
    have d0 := s1 _ _ ha
    have d1 : H1 l = some (.lst (es.map V.ref)) := s1 _ _ hl
    have al : a ≠ l := fun y => by
      rw [y, hl] at ha
      have q := congrArg List.length (HO.lst.inj (Option.some.inj ha))
      rw [List.length_map, he.1] at q
      omega
    refine ⟨.ref a, h2, .inl ⟨rfl, _, SqL.of d0⟩, ⟨a, xs, _, rfl, rfl, d0, small1000 (by omega), ?_⟩⟩
    generalize hH2 : upd H1 a (.lst (xs ++ [.str (Str.ofString "later")])) = H2
    have a2 : H2 a = some (.lst (xs ++ [.str (Str.ofString "later")])) := by rw [← hH2, upd_same]
    have o2 : ∀ b u, b ≠ a → H1 b = some u → H2 b = some u := fun b u ne h => by rw [← hH2, upd_ne ne]; exact h
    have l2 := o2 l _ (Ne.symm al) d1
    have se : ∀ H', Same H2 H' → Shown K H' (.ref a) (PyData.list (ds ++ [.str "later"])).shown := by
      intro H' s
      have a3 := s _ _ a2
      have d := hd (upd H' a (.lst xs)) (xs ++ [.str (Str.ofString "later")]) (by
        intro b u h
        by_cases e : b = a
        · subst e
          rw [upd_same, ← ha, h]
        · rw [upd_ne e]
          exact s _ _ (o2 b u e (s1 _ _ h)))
      rw [upd_upd, upd_id a3] at d
      have app : ∀ (ys : List V) (qs : List PyData), DpAll K H' ys qs → DpAll K H' (ys ++ [.str (Str.ofString "later")]) (qs ++ [.str "later"]) := by
        intro ys
        induction ys with
        | nil =>
          intro qs h
          cases h
          exact .cons (.str _) .nil
        | cons y r ih =>
          intro qs h
          cases h with
          | cons h1 h2 => exact .cons h1 (ih _ h2)
      exact .inl ⟨_, .lst (SqL.of a3) (app _ _ d), p2.1, p2.2.1, p2.2.2.1, p2.2.2.2.1, p2.2.2.2.2, rfl⟩
    refine ⟨⟨_, SqL.of l2⟩, ?_⟩
    refine lc_L (SqL.of l2) (fun C hC => ?_)
    obtain ⟨R, hR⟩ : ∃ R : Nat → Hp → Prop, ∀ i H', R i H' ↔ (Same H2 H' ∧ H' C = some (.lst [])) := ⟨_, fun _ _ => Iff.rfl⟩
    refine ⟨R, (hR _ _).mpr ⟨sameA hC, upd_same⟩, ?_, ?_, ?_⟩
    · intro i H' r
      obtain ⟨s3, -⟩ := (hR _ _).mp r
      exact SqL.of (s3 _ _ l2)
    · intro i H' x r hx
      obtain ⟨s3, h3⟩ := (hR _ _).mp r
      rw [List.getElem?_map] at hx
      obtain ⟨e, hee, exx⟩ := Option.map_eq_some_iff.mp hx
      subst exx
      have lt : i < 25 := by
        have := (List.getElem?_eq_some_iff.mp hee).1
        rw [he.1] at this
        exact this
      have hxi : exF[i]? = some exF[i] := List.getElem?_eq_getElem lt
      obtain ⟨dx, q1, q2⟩ := he.2 i e _ hee hxi
      have mem : exF[i] ∈ exF ++ exC := List.mem_append_left _ (List.getElem_mem _)
      have ea : e ≠ a := fun y => by
        rw [y, ha] at q1
        exact exo_lst (Option.some.inj q1).symm
      have da : dx ≠ a := fun y => by
        rw [y, ha] at q2
        exact exd_lst (Option.some.inj q2).symm
      have k7 : ((σ.set 7 none).set 7 (some (V.ref e)))[7]? = some (some (V.ref e)) := by
        rw [List.getElem?_set_self (by rw [List.length_set]; exact hlen)]
      have k2 : ((σ.set 7 none).set 7 (some (V.ref e)))[2]? = some (some (V.ref a)) := by
        rw [List.getElem?_set_ne (by decide), List.getElem?_set_ne (by decide)]
        exact h2
      show tB _ _ _ _
      simp only [e_seq, e_asg, e_ret, e_drop, e_ifs, e_next, e_for, e_lc, e_name, e_gsub, e_setL, e_var, e_c, e_op, e_rI, e_rI0, e_add3, e_B, e_not, e_and, e_or, e_andV, e_orV, e_notV, e_nil, e_cons, e_cb, e_call, e_lst, e_tup, e_bits, e_ixO, e_ixS, e_lenO, e_sl, e_rng, e_list, e_ituple, e_yes, e_start, e_part, e_nop, e_slL, e_sum, e_lenL, List.getElem?_cons_zero, List.getElem?_cons_succ, List.getElem?_nil, List.set_cons_zero, List.set_cons_succ, List.map_cons, List.map_nil, List.nil_append, List.cons_append, List.append_nil, List.length_cons, List.length_nil, Option.some.injEq, V.int.injEq, V.str.injEq, V.bl.injEq, V.ref.injEq, HO.lst.injEq, HO.tup.injEq, reduceCtorEq, false_and, and_false, exists_false, or_false, false_or, exists_eq_left, exists_eq_left', exists_eq_right, exists_and_left, exists_and_right, true_and, and_true, List.cons.injEq, and_assoc, List.replicate, List.append_eq, Nat.sub_self, Nat.add_sub_cancel, upd_same, ix40, ix41, ix42, ix43, at40, at41, at42, at43, DL.ite_tt, DL.ite_ff, Bool.not_true, Bool.not_false, k7, k2]
      refine ⟨.ref e, k7, e, _, dx, _, .ref a, rfl, xk c2 _ mem, (xf c2 exF[i] (List.getElem_mem _)).no, s3 _ _ (o2 _ _ ea (s1 _ _ q1)), s3 _ _ (o2 _ _ da (s1 _ _ q2)), by simp [List.lookup], ?_⟩
      refine shown_repr (se H' s3) (shown_repr (se H' s3) (.inl ⟨rfl, false, by simp, ?_⟩))
      rw [if_neg Bool.false_ne_true]
      exact (hR _ _).mpr ⟨s3, h3⟩
    · intro i H' r le
      obtain ⟨s3, h3⟩ := (hR _ _).mp r
      refine ⟨by decide +kernel, fun p hp => ?_⟩
      have s4 : Same H2 (upd H' p (.lst [])) := s3.trans (sameA hp)
      refine .inr ⟨_, _, .lst (SqL.of (sameA hp _ _ h3)) .nil, .lst (SqL.of upd_same) .nil, by decide +kernel, by decide +kernel, false, ?_, ?_⟩
      · have : PyData.eqv (.list []) (.list []) = true := by decide +kernel
        rw [this]
        rfl
      rw [if_neg Bool.false_ne_true]
      refine ⟨.ref a, h2, .inl ⟨rfl, _, SqL.of (s4 _ _ a2)⟩, ⟨a, _, .str (Str.ofString "later"), rfl, rfl, s4 _ _ a2, by simp, ?_⟩⟩
      refine nx _ ?_
      intro b u h
      by_cases e : b = a
      · subst e
        rw [upd_same, List.dropLast_concat, ← ha, h]
      · rw [upd_ne e]
        exact s4 _ _ (o2 b u e (s1 _ _ h))
  · refine .inl ⟨_, _, _, _, false, rfl, .ty _, ty H1 s1, kt, false, rfl, ?_⟩
    rw [if_neg Bool.false_ne_true]
    exact nx H1 s1
theorem ThingOk.same {K : PySem.W.Frag} {H H1 : Hp} {v : V} (s : Same H H1) (h : ThingOk K H v) : ThingOk K H1 v := by
  rcases h with ⟨a, xs, ds, e, ha, xl, hd, p⟩ | ⟨z, t, hz, ty, k⟩
  · exact .inl ⟨a, xs, ds, e, s _ _ ha, xl, fun H2 o s2 => hd H2 o (s.trans s2), p⟩
  · exact .inr ⟨z, t, hz.same s, fun H2 s2 => ty H2 (s.trans s2), k⟩
theorem errs_of {K : PySem.W.Frag} {H H1 : Hp} {es : List Addr} {v : V} (m : Made H H1 es v (exF.map (He.ga K))) : Errs K H1 es v := by
  refine ⟨by rw [m.len, List.length_map]; rfl, fun i e x h1 h2 => ?_⟩
  exact m.err i e _ h1 (by rw [List.getElem?_map, h2]; rfl)
def tSomes (K : PySem.W.Frag) : TS := tFor (iTup K (tTup (tCons (tCall (sp_first K) [] E0 (tCons (tVar 2) tNil)) (tCons (tCall (sp_named K) [] E0 (tCons (tVar 2) tNil)) tNil)))) (gName 6) (tInner K)
theorem somes_ok {K : PySem.W.Frag} (c2 : ex K = true) {D : Ends} {σ : L2.St} {H : Hp} {v : V} (h2 : σ[2]? = some (some v)) (hlen : σ.length = 8) (ht : ThingOk K H v)
    (nx : ∀ (σ' : L2.St) (H1 : Hp), (∀ j, j ≠ 6 → σ'[j]? = σ[j]?) → σ'.length = σ.length → Same H H1 → D.nx σ' H1) : tSomes K D σ H := by
  unfold tSomes
  simp only [e_seq, e_asg, e_ret, e_drop, e_ifs, e_next, e_for, e_lc, e_name, e_gsub, e_setL, e_var, e_c, e_op, e_rI, e_rI0, e_add3, e_B, e_not, e_and, e_or, e_andV, e_orV, e_notV, e_nil, e_cons, e_cb, e_call, e_lst, e_tup, e_bits, e_ixO, e_ixS, e_lenO, e_sl, e_rng, e_list, e_ituple, e_yes, e_start, e_part, e_nop, e_slL, e_sum, e_lenL, List.getElem?_cons_zero, List.getElem?_cons_succ, List.getElem?_nil, List.set_cons_zero, List.set_cons_succ, List.map_cons, List.map_nil, List.nil_append, List.cons_append, List.append_nil, List.length_cons, List.length_nil, Option.some.injEq, V.int.injEq, V.str.injEq, V.bl.injEq, V.ref.injEq, HO.lst.injEq, HO.tup.injEq, reduceCtorEq, false_and, and_false, exists_false, or_false, false_or, exists_eq_left, exists_eq_left', exists_eq_right, exists_and_left, exists_and_right, true_and, and_true, List.cons.injEq, and_assoc, List.replicate, List.append_eq, Nat.sub_self, Nat.add_sub_cancel, upd_same, ix40, ix41, ix42, ix43, at40, at41, at42, at43, DL.ite_tt, DL.ite_ff, Bool.not_true, Bool.not_false, h2]
  refine ⟨v, rfl, fun l1 es1 H1 m1 hl1 => ⟨v, rfl, fun l2 es2 H2 m2 hl2 => ⟨by decide +kernel, fun p hp => ⟨⟨_, SqT.of upd_same⟩, ?_⟩⟩⟩⟩
  have s3 : Same H2 (upd H2 p (.tup [.ref l1, .ref l2])) := sameA hp
  generalize hG : upd H2 p (.tup [.ref l1, .ref l2]) = G at s3
  have gp : G p = some (.tup [.ref l1, .ref l2]) := by rw [← hG, upd_same]
  obtain ⟨R, hR⟩ : ∃ R : Nat → L2.St → Hp → Prop, ∀ i σ' H', R i σ' H' ↔ ((∀ j, j ≠ 6 → σ'[j]? = σ[j]?) ∧ σ'.length = σ.length ∧ Same G H') := ⟨_, fun _ _ _ => Iff.rfl⟩
  refine for_T (SqT.of gp) R ((hR _ _ _).mpr ⟨fun _ _ => rfl, rfl, Same.refl G⟩) ?_ ?_ ?_
  · intro i σ' H' r
    exact SqT.of (((hR _ _ _).mp r).2.2 _ _ gp)
  · intro i σ' H' x r hx
    obtain ⟨q1, q2, q3⟩ := (hR _ _ _).mp r
    have key : ∀ (l : Addr) (es : List Addr), H' l = some (.lst (es.map V.ref)) → Errs K H' es v → ForStep D 6 (tInner K) R i (.ref l) σ' H' := by
      intro l es hl he
      refine inner_ok c2 (l := l) (es := es) (v := v) (by rw [List.getElem?_set_self (by omega)]) (by rw [List.getElem?_set_ne (by decide), q1 2 (by decide), h2]) (by rw [List.length_set]; omega) hl he (ht.same (m1.same.trans (m2.same.trans (s3.trans q3)))) ?_
      intro H3 s4
      refine (hR _ _ _).mpr ⟨fun j ne => ?_, by rw [List.length_set]; exact q2, q3.trans s4⟩
      rw [List.getElem?_set_ne (Ne.symm ne)]
      exact q1 j ne
    have two : (i = 0 ∧ x = .ref l1) ∨ (i = 1 ∧ x = .ref l2) := by
      rcases i with _ | _ | n
      · exact .inl ⟨rfl, by simpa using hx.symm⟩
      · exact .inr ⟨rfl, by simpa using hx.symm⟩
      · simp at hx
    rcases two with ⟨-, ex⟩ | ⟨-, ex⟩
    · rw [ex]
      exact key l1 es1 (q3 _ _ (s3 _ _ (m2.same _ _ hl1))) ((errs_of m1).same (m2.same.trans (s3.trans q3)))
    · rw [ex]
      exact key l2 es2 (q3 _ _ (s3 _ _ hl2)) ((errs_of m2).same (s3.trans q3))
  · intro i σ' H' r le
    obtain ⟨q1, q2, q3⟩ := (hR _ _ _).mp r
    exact nx σ' H' q1 q2 (m1.same.trans (m2.same.trans (s3.trans q3)))
end Hd1

set_option Elab.async false
set_option linter.all false
set_option maxRecDepth 100000
set_option maxHeartbeats 1000000
namespace Hd1
open PySem PySem.Spec PyProof.Rows L2 DL
theorem listText_ub (ts : List Str) : (listText ts).length ≤ 2 + piled ts := by
  unfold listText
  rw [strLen_append]
  cases ts with
  | nil => decide +kernel
  | cons t r =>
    show (textFrom 1 _ r).length + _ ≤ _
    rw [textFrom_length_pos r 1 _ (by decide), strLen_append, strLen_append, piled_cons]
    have e1 : ((("[" : String) : Str)).length = 1 := rfl
    have e2 : ((("]" : String) : Str)).length = 1 := rfl
    have e3 : (((if 0 > 0 then ", " else "" : String) : Str)).length = 0 := rfl
    rw [e1, e2, e3]
    omega
theorem tupleText_ub (ts : List Str) : (tupleText ts).length ≤ 3 + piled ts := by
  cases ts with
  | nil => decide +kernel
  | cons t r =>
    have j := join_length_add (t :: r) (by simp)
    unfold tupleText
    rw [strLen_append, strLen_append]
    have e1 : ((("(" : String) : Str)).length = 1 := rfl
    have e3 : (((if (t :: r).length == 1 then ",)" else ")" : String) : Str)).length ≤ 2 := by split <;> decide
    omega
theorem list_ub (ds : List PyData) : (PyData.list ds).shown.length ≤ 2 + piled (PyData.shownAll ds) := by
  rw [show (PyData.list ds).shown = listText (PyData.shownAll ds) from by simp only [PyData.shown]]
  exact listText_ub _
theorem tuple_ub (ds : List PyData) : (PyData.tuple ds).shown.length ≤ 3 + piled (PyData.shownAll ds) := by
  rw [show (PyData.tuple ds).shown = tupleText (PyData.shownAll ds) from by simp only [PyData.shown]]
  exact tupleText_ub _
theorem str_ub {x : Str} (h : Letters x) (l : x.length ≤ 8) : (PyData.str x).shown.length ≤ 100 := by
  rw [show (PyData.str x).shown = reprText x from by simp only [PyData.shown]]
  have := PySem.StrLaws.reprText_len x (fun c hc => by have := h c hc; omega)
  omega
theorem later_ub : (PyData.str "later").shown.length ≤ 100 := by decide +kernel
theorem line_ge : 5000 ≤ sizeLine := by decide +kernel
section
variable {x : Str}
theorem pl_mk {d : PyData} (h1 : d.showable = true) (h2 : d.hasDict = false) (h3 : d.depth ≤ 60) (h4 : d.shown.length ≤ 5000) (h5 : ∀ i, d ≠ .int i) : Pl d :=
  ⟨h1, h2, h3, Nat.le_trans h4 line_ge, fun i e => absurd e (h5 i)⟩
theorem pl_str (h : Letters x) (l : x.length ≤ 8) : Pl (.str x) := pl_mk (by simp [PyData.showable]) (by simp [PyData.hasDict]) (by simp [PyData.depth]) (Nat.le_trans (str_ub h l) (by decide)) (fun i e => by cases e)
theorem pl_non : Pl .none := pl_mk (by simp [PyData.showable]) (by simp [PyData.hasDict]) (by simp [PyData.depth]) (by decide +kernel) (fun i e => by cases e)
theorem pl_bl (b : Bool) : Pl (.bool b) := pl_mk (by simp [PyData.showable]) (by simp [PyData.hasDict]) (by simp [PyData.depth]) (by cases b <;> decide +kernel) (fun i e => by cases e)
theorem pl_0 : Pl (.int 0) := ⟨by decide +kernel, by decide +kernel, by decide +kernel, by decide +kernel, fun i e => by cases e; decide⟩
/-- the lists and tuples that are drawn -/
theorem pl_list {ds : List PyData} (h1 : PyData.showableAll ds = true) (h2 : PyData.hasDictAll ds = false) (h3 : (PyData.list ds).depth ≤ 60) (h4 : piled (PyData.shownAll ds) ≤ 4000) : Pl (.list ds) :=
  pl_mk (by simpa only [PyData.showable] using h1) (by simpa only [PyData.hasDict] using h2) h3 (Nat.le_trans (list_ub ds) (by omega)) (fun i e => by cases e)
theorem pl_tuple {ds : List PyData} (h1 : PyData.showableAll ds = true) (h2 : PyData.hasDictAll ds = false) (h3 : (PyData.tuple ds).depth ≤ 60) (h4 : piled (PyData.shownAll ds) ≤ 4000) : Pl (.tuple ds) :=
  pl_mk (by simpa only [PyData.showable] using h1) (by simpa only [PyData.hasDict] using h2) h3 (Nat.le_trans (tuple_ub ds) (by omega)) (fun i e => by cases e)
theorem nest_ub (h : Letters x) (l : x.length ≤ 8) : (PyData.tuple [.str x, .list []]).shown.length ≤ 1000 ∧ (PyData.list [.str x, .tuple []]).shown.length ≤ 1000 := by
  have a := str_ub h l
  have b : (PyData.list []).shown.length ≤ 10 := by decide +kernel
  have c : (PyData.tuple []).shown.length ≤ 10 := by decide +kernel
  have t := tuple_ub [.str x, .list []]
  have u := list_ub [.str x, .tuple []]
  simp only [PyData.shownAll, piled_cons, piled_nil] at t u
  constructor <;> omega
theorem pl_l1 (h : Letters x) (l : x.length ≤ 8) : Pl (.list [.str x]) := by
  have a := str_ub h l
  refine pl_list (by simp [PyData.showableAll, PyData.showable]) (by simp [PyData.hasDictAll, PyData.hasDict]) (by simp [PyData.depth, PyData.depthAll]) ?_
  simp only [PyData.shownAll, piled_cons, piled_nil]
  omega
theorem pl_l1b (h : Letters x) (l : x.length ≤ 8) : Pl (.list ([.str x] ++ [.str "later"])) := by
  have a := str_ub h l
  have b := later_ub
  refine pl_list (by simp [PyData.showableAll, PyData.showable]) (by simp [PyData.hasDictAll, PyData.hasDict]) (by simp [PyData.depth, PyData.depthAll]) ?_
  simp only [List.cons_append, List.nil_append, PyData.shownAll, piled_cons, piled_nil]
  omega
theorem pl_t1 (h : Letters x) (l : x.length ≤ 8) : Pl (.tuple [.str x, .int 1]) := by
  have a := str_ub h l
  have b : (PyData.int 1).shown.length ≤ 10 := by decide +kernel
  have c : PyData.showable (.int 1) = true := by decide +kernel
  refine pl_tuple (by simp only [PyData.showableAll, c]; simp [PyData.showable]) (by simp [PyData.hasDictAll, PyData.hasDict]) (by simp [PyData.depth, PyData.depthAll]) ?_
  simp only [PyData.shownAll, piled_cons, piled_nil]
  omega
theorem pl_l2 (h : Letters x) (l : x.length ≤ 8) : Pl (.list [.tuple [.str x, .list []]]) := by
  have a := (nest_ub h l).1
  refine pl_list (by simp [PyData.showableAll, PyData.showable]) (by simp [PyData.hasDictAll, PyData.hasDict]) (by simp [PyData.depth, PyData.depthAll]) ?_
  simp only [PyData.shownAll, piled_cons, piled_nil]
  omega
theorem pl_l2b (h : Letters x) (l : x.length ≤ 8) : Pl (.list ([.tuple [.str x, .list []]] ++ [.str "later"])) := by
  have a := (nest_ub h l).1
  have b := later_ub
  refine pl_list (by simp [PyData.showableAll, PyData.showable]) (by simp [PyData.hasDictAll, PyData.hasDict]) (by simp [PyData.depth, PyData.depthAll]) ?_
  simp only [List.cons_append, List.nil_append, PyData.shownAll, piled_cons, piled_nil]
  omega
theorem pl_l3 (h : Letters x) (l : x.length ≤ 8) : Pl (.list [.list [.str x, .tuple []]]) := by
  have a := (nest_ub h l).2
  refine pl_list (by simp [PyData.showableAll, PyData.showable]) (by simp [PyData.hasDictAll, PyData.hasDict]) (by simp [PyData.depth, PyData.depthAll]) ?_
  simp only [PyData.shownAll, piled_cons, piled_nil]
  omega
theorem pl_l3b (h : Letters x) (l : x.length ≤ 8) : Pl (.list ([.list [.str x, .tuple []]] ++ [.str "later"])) := by
  have a := (nest_ub h l).2
  have b := later_ub
  refine pl_list (by simp [PyData.showableAll, PyData.showable]) (by simp [PyData.hasDictAll, PyData.hasDict]) (by simp [PyData.depth, PyData.depthAll]) ?_
  simp only [List.cons_append, List.nil_append, PyData.shownAll, piled_cons, piled_nil]
  omega
theorem pl_l0 : Pl (.list []) := pl_list (by simp [PyData.showableAll]) (by simp [PyData.hasDictAll]) (by simp [PyData.depth, PyData.depthAll]) (by decide +kernel)
theorem pl_l0b : Pl (.list ([] ++ [.str "later"])) := pl_list (by simp [PyData.showableAll, PyData.showable]) (by simp [PyData.hasDictAll, PyData.hasDict]) (by simp [PyData.depth, PyData.depthAll]) (by decide +kernel)
theorem pl_t0 : Pl (.tuple []) := pl_tuple (by simp [PyData.showableAll]) (by simp [PyData.hasDictAll]) (by simp [PyData.depth, PyData.depthAll]) (by decide +kernel)
end
/-- a thing that is no list -/
theorem thing_pl {K : PySem.W.Frag} {H : Hp} {v : V} {d : PyData} {t : Value} (p : Pl d) (hd : Dp K H v d) (ty : ∀ H1, Same H H1 → TyX K H1 v t) (k : PySem.W.kitOne K t (.type "list") = some false) : ThingOk K H v :=
  .inr ⟨_, t, .inl ⟨d, hd, p.1, p.2.1, p.2.2.1, p.2.2.2.1, p.2.2.2.2, rfl⟩, ty, k⟩
theorem t_str {K : PySem.W.Frag} {H : Hp} {x : Str} (h : Letters x) (l : x.length ≤ 8) : ThingOk K H (.str x) := thing_pl (pl_str h l) (.str x) (fun _ _ => .base (.str x)) (kit_ty (by decide +kernel))
theorem t_non {K : PySem.W.Frag} {H : Hp} : ThingOk K H .non := thing_pl pl_non .non (fun _ _ => .base .non) (kit_ty (by decide +kernel))
theorem t_bl {K : PySem.W.Frag} {H : Hp} {b : Bool} : ThingOk K H (.bl b) := thing_pl (pl_bl b) (.bl b) (fun _ _ => .base (.bl b)) (kit_ty (by decide +kernel))
theorem t_0 {K : PySem.W.Frag} {H : Hp} : ThingOk K H (.int 0) := thing_pl pl_0 (.int 0) (fun _ _ => .base (.int 0)) (kit_ty (by decide +kernel))
theorem t_tup {K : PySem.W.Frag} {H : Hp} {a : Addr} {xs : List V} {ds : List PyData} (h : H a = some (.tup xs)) (p : Pl (.tuple ds)) (hd : DpAll K H xs ds) : ThingOk K H (.ref a) :=
  thing_pl p (.tup (SqT.of h) hd) (fun _ s => .base (.tup (s _ _ h))) (kit_ty (by decide +kernel))
theorem t_dict {K : PySem.W.Frag} {H : Hp} {a : Addr} (h : H a = some (.dK [])) : ThingOk K H (.ref a) :=
  .inr ⟨_, _, .inr ⟨a, rfl, h, rfl⟩, fun _ s => .base (.dK (s _ _ h)), kit_ty (by decide +kernel)⟩
theorem t_lst {K : PySem.W.Frag} {H : Hp} {a : Addr} {xs : List V} {ds : List PyData} (h : H a = some (.lst xs)) (l : xs.length ≤ 10) (hd : ∀ (H1 : Hp) (o : List V), Same H H1 → DpAll K (upd H1 a (.lst o)) xs ds) (p1 : Pl (.list ds)) (p2 : Pl (.list (ds ++ [.str "later"]))) : ThingOk K H (.ref a) :=
  .inl ⟨a, xs, ds, rfl, h, l, hd, p1, p2⟩
end Hd1

set_option Elab.async false
set_option linter.all false
set_option maxRecDepth 100000
set_option maxHeartbeats 1000000
namespace Hd1
open PySem PySem.Spec PyProof.Rows L2 DL
def tThing (K : PySem.W.Frag) : TS :=
  tSeq (tAsg (tCall sp_word [] E0 (tCons (tVar 1) tNil)) (gName 4))
    (tSeq (tAsg (tLst (tCons (tC (V.int 0)) (tCons (tC (V.str (Str.ofString ""))) (tCons (tLst tNil) (tCons (tC (V.bl false)) (tCons (tTup tNil) (tCons (tCB rDictE (tCons (tLst tNil) tNil)) tNil))))))) (gName 5))
      (tSeq (tAsg (tCall sp_one_of [] E0 (tCons (tVar 1) (tCons (tOp rAdd3 (tLst (tCons (tLst (tCons (tVar 4) tNil)) (tCons (tTup (tCons (tVar 4) (tCons (tC (V.int 1)) tNil))) (tCons (tVar 4) (tCons (tC V.non) (tCons (tC (V.bl true))
          (tCons (tLst (tCons (tTup (tCons (tVar 4) (tCons (tLst tNil) tNil))) tNil)) (tCons (tLst (tCons (tLst (tCons (tVar 4) (tCons (tTup tNil) tNil))) tNil)) tNil)))))))) (tVar 5)) tNil))) (gName 2)) (tSomes K)))
theorem thing_ok {K : PySem.W.Frag} (c2 : ex K = true) {D : Ends} {H : Hp} {p : Addr} {s0 s2 s3 s4 s5 s6 s7 : Option V} (pu : Purse H p 0)
    (nx : ∀ (σ' : L2.St) (H1 : Hp), σ'[0]? = some s0 → σ'.length = 8 → Keep p H H1 → D.nx σ' H1) : tThing K D [s0, some (.ref p), s2, s3, s4, s5, s6, s7] H := by
  unfold tThing
  simp only [e_seq, e_asg, e_ret, e_drop, e_ifs, e_next, e_for, e_lc, e_name, e_gsub, e_setL, e_var, e_c, e_op, e_rI, e_rI0, e_add3, e_B, e_not, e_and, e_or, e_andV, e_orV, e_notV, e_nil, e_cons, e_cb, e_call, e_lst, e_tup, e_bits, e_ixO, e_ixS, e_lenO, e_sl, e_rng, e_list, e_ituple, e_yes, e_start, e_part, e_nop, e_slL, e_sum, e_lenL, List.getElem?_cons_zero, List.getElem?_cons_succ, List.getElem?_nil, List.set_cons_zero, List.set_cons_succ, List.map_cons, List.map_nil, List.nil_append, List.cons_append, List.append_nil, List.length_cons, List.length_nil, Option.some.injEq, V.int.injEq, V.str.injEq, V.bl.injEq, V.ref.injEq, HO.lst.injEq, HO.tup.injEq, reduceCtorEq, false_and, and_false, exists_false, or_false, false_or, exists_eq_left, exists_eq_left', exists_eq_right, exists_and_left, exists_and_right, true_and, and_true, List.cons.injEq, and_assoc, List.replicate, List.append_eq, Nat.sub_self, Nat.add_sub_cancel, upd_same, ix40, ix41, ix42, ix43, at40, at41, at42, at43, DL.ite_tt, DL.ite_ff, Bool.not_true, Bool.not_false]
  refine ⟨p, 0, rfl, pu, by decide, fun x H1 lx xl kp pu1 => ?_⟩
  refine ⟨by decide +kernel, fun p1 h1 => ?_⟩
  generalize e1 : upd _ p1 _ = G1
  have s1 := Eq.subst (motive := fun Z => Same _ Z) e1 (sameA h1)
  have f1 := Eq.subst (motive := fun Z => Z p1 = some _) e1 upd_same
  refine ⟨by decide +kernel, fun p2 h2 => ?_⟩
  generalize e2 : upd _ p2 _ = G2
  have s2 := Eq.subst (motive := fun Z => Same _ Z) e2 (sameA h2)
  have f2 := Eq.subst (motive := fun Z => Z p2 = some _) e2 upd_same
  refine ⟨by decide +kernel, fun p3 h3 => ?_⟩
  generalize e3 : upd _ p3 _ = G3
  have s3 := Eq.subst (motive := fun Z => Same _ Z) e3 (sameA h3)
  have f3 := Eq.subst (motive := fun Z => Z p3 = some _) e3 upd_same
  refine ⟨p3, rfl, f3, fun p4 h4 => ?_⟩
  generalize e4 : upd G3 p4 (.dK []) = G4
  have s4 : Same G3 G4 := e4 ▸ sameA h4
  have f4 : G4 p4 = some (.dK []) := by rw [← e4, upd_same]
  refine ⟨by decide +kernel, fun p5 h5 => ?_⟩
  generalize e5 : upd _ p5 _ = G5
  have s5 := Eq.subst (motive := fun Z => Same _ Z) e5 (sameA h5)
  have f5 := Eq.subst (motive := fun Z => Z p5 = some _) e5 upd_same
  refine ⟨by decide +kernel, fun p6 h6 => ?_⟩
  generalize e6 : upd _ p6 _ = G6
  have s6 := Eq.subst (motive := fun Z => Same _ Z) e6 (sameA h6)
  have f6 := Eq.subst (motive := fun Z => Z p6 = some _) e6 upd_same
  refine ⟨by decide +kernel, fun p7 h7 => ?_⟩
  generalize e7 : upd _ p7 _ = G7
  have s7 := Eq.subst (motive := fun Z => Same _ Z) e7 (sameA h7)
  have f7 := Eq.subst (motive := fun Z => Z p7 = some _) e7 upd_same
  refine ⟨by decide +kernel, fun p8 h8 => ?_⟩
  generalize e8 : upd _ p8 _ = G8
  have s8 := Eq.subst (motive := fun Z => Same _ Z) e8 (sameA h8)
  have f8 := Eq.subst (motive := fun Z => Z p8 = some _) e8 upd_same
  refine ⟨by decide +kernel, fun p9 h9 => ?_⟩
  generalize e9 : upd _ p9 _ = G9
  have s9 := Eq.subst (motive := fun Z => Same _ Z) e9 (sameA h9)
  have f9 := Eq.subst (motive := fun Z => Z p9 = some _) e9 upd_same
  refine ⟨by decide +kernel, fun p10 h10 => ?_⟩
  generalize e10 : upd _ p10 _ = G10
  have s10 := Eq.subst (motive := fun Z => Same _ Z) e10 (sameA h10)
  have f10 := Eq.subst (motive := fun Z => Z p10 = some _) e10 upd_same
  refine ⟨by decide +kernel, fun p11 h11 => ?_⟩
  generalize e11 : upd _ p11 _ = G11
  have s11 := Eq.subst (motive := fun Z => Same _ Z) e11 (sameA h11)
  have f11 := Eq.subst (motive := fun Z => Z p11 = some _) e11 upd_same
  refine ⟨by decide +kernel, fun p12 h12 => ?_⟩
  generalize e12 : upd _ p12 _ = G12
  have s12 := Eq.subst (motive := fun Z => Same _ Z) e12 (sameA h12)
  have f12 := Eq.subst (motive := fun Z => Z p12 = some _) e12 upd_same
  refine ⟨by decide +kernel, fun p13 h13 => ?_⟩
  generalize e13 : upd _ p13 _ = G13
  have s13 := Eq.subst (motive := fun Z => Same _ Z) e13 (sameA h13)
  have f13 := Eq.subst (motive := fun Z => Z p13 = some _) e13 upd_same
  refine ⟨by decide +kernel, fun p14 h14 => ?_⟩
  generalize e14 : upd _ p14 _ = G14
  have s14 := Eq.subst (motive := fun Z => Same _ Z) e14 (sameA h14)
  have f14 := Eq.subst (motive := fun Z => Z p14 = some _) e14 upd_same
  have S14 : Same H1 G14 := s1.trans (s2.trans (s3.trans (s4.trans (s5.trans (s6.trans (s7.trans (s8.trans (s9.trans (s10.trans (s11.trans (s12.trans (s13.trans s14))))))))))))
  have T13 : Same G13 G14 := s14
  have T12 := s13.trans T13
  have T11 := s12.trans T12
  have T10 := s11.trans T11
  have T9 := s10.trans T10
  have T8 := s9.trans T9
  have T7 := s8.trans T8
  have T6 := s7.trans T7
  have T5 := s6.trans T6
  have T4 := s5.trans T5
  have T3 := s4.trans T4
  have T2 := s3.trans T3
  have T1 := s2.trans T2
  refine ⟨_, T5 _ _ f5, (show 13 ≤ sizeLine from by decide +kernel), fun q hq => ?_⟩
  have f15 : (upd G14 q (.lst [V.ref p6, V.ref p7, V.str x, V.non, V.bl true, V.ref p10, V.ref p13, V.int 0, V.str (Str.ofString ""), V.ref p1, V.bl false, V.ref p2, V.ref p4])) q = _ := upd_same
  have s15 : Same G14 (upd G14 q (.lst [V.ref p6, V.ref p7, V.str x, V.non, V.bl true, V.ref p10, V.ref p13, V.int 0, V.str (Str.ofString ""), V.ref p1, V.bl false, V.ref p2, V.ref p4])) := sameA hq
  show sp_one_of [V.ref p, V.ref q] (upd G14 q (.lst [V.ref p6, V.ref p7, V.str x, V.non, V.bl true, V.ref p10, V.ref p13, V.int 0, V.str (Str.ofString ""), V.ref p1, V.bl false, V.ref p2, V.ref p4])) _ _
  generalize (upd G14 q (.lst [V.ref p6, V.ref p7, V.str x, V.non, V.bl true, V.ref p10, V.ref p13, V.int 0, V.str (Str.ofString ""), V.ref p1, V.bl false, V.ref p2, V.ref p4])) = G15 at f15 s15 ⊢
  have S15 := S14.trans s15
  have np : ∀ {G : Hp} {b : Addr}, Same H1 G → G b = none → b ≠ p := fun {G b} s h z => (pu1.same s).some (by rw [← z]; exact h)
  refine ⟨p, q, 0 + 9, _, rfl, pu1.same S15, by decide, np S14 hq, f15, (show 1 ≤ 13 from by decide), (show 13 ≤ 1000 from by decide), fun y H2 hy kp2 pu2 => ?_⟩
  have n1 := np (Same.refl H1) h1
  have n2 := np s1 h2
  have n4 := np (s1.trans (s2.trans s3)) h4
  have R5 := s1.trans (s2.trans (s3.trans (s4.trans s5)))
  have n6 := np R5 h6
  have n7 := np (R5.trans s6) h7
  have R7 := R5.trans (s6.trans s7)
  have n8 := np R7 h8
  have n9 := np (R7.trans s8) h9
  have n10 := np (R7.trans (s8.trans s9)) h10
  have R10 := R7.trans (s8.trans (s9.trans s10))
  have n11 := np R10 h11
  have n12 := np (R10.trans s11) h12
  have n13 := np (R10.trans (s11.trans s12)) h13
  have g1 := kp2 _ _ n1 (s15 _ _ (T1 _ _ f1))
  have g2 := kp2 _ _ n2 (s15 _ _ (T2 _ _ f2))
  have g4 := kp2 _ _ n4 (s15 _ _ (T4 _ _ f4))
  have g6 := kp2 _ _ n6 (s15 _ _ (T6 _ _ f6))
  have g7 := kp2 _ _ n7 (s15 _ _ (T7 _ _ f7))
  have g8 := kp2 _ _ n8 (s15 _ _ (T8 _ _ f8))
  have g9 := kp2 _ _ n9 (s15 _ _ (T9 _ _ f9))
  have g10 := kp2 _ _ n10 (s15 _ _ (T10 _ _ f10))
  have g11 := kp2 _ _ n11 (s15 _ _ (T11 _ _ f11))
  have g12 := kp2 _ _ n12 (s15 _ _ (T12 _ _ f12))
  have g13 := kp2 _ _ n13 (s15 _ _ (T13 _ _ f13))
  have m89 : p8 ≠ p10 := fun z => by rw [← z, s9 _ _ f8] at h10; cases h10
  have m99 : p9 ≠ p10 := fun z => by rw [← z, f9] at h10; cases h10
  have m11 : p11 ≠ p13 := fun z => by rw [← z, s12 _ _ f11] at h13; cases h13
  have m12 : p12 ≠ p13 := fun z => by rw [← z, f12] at h13; cases h13
  have tk : ThingOk K H2 y := by
    simp only [List.mem_cons, List.not_mem_nil, or_false] at hy
    rcases hy with e | e | e | e | e | e | e | e | e | e | e | e | e <;> subst e
    · exact t_lst g6 (show 1 ≤ 10 from by decide) (fun _ _ _ => .cons (.str x) .nil) (pl_l1 lx xl) (pl_l1b lx xl)
    · exact t_tup g7 (pl_t1 lx xl) (.cons (.str x) (.cons (.int 1) .nil))
    · exact t_str lx xl
    · exact t_non
    · exact t_bl
    · refine t_lst g10 (show 1 ≤ 10 from by decide) (fun H3 o s => ?_) (pl_l2 lx xl) (pl_l2b lx xl)
      exact .cons (.tup (SqT.of (by rw [upd_ne m99]; exact s _ _ g9)) (.cons (.str x) (.cons (.lst (SqL.of (by rw [upd_ne m89]; exact s _ _ g8)) .nil) .nil))) .nil
    · refine t_lst g13 (show 1 ≤ 10 from by decide) (fun H3 o s => ?_) (pl_l3 lx xl) (pl_l3b lx xl)
      exact .cons (.lst (SqL.of (by rw [upd_ne m12]; exact s _ _ g12)) (.cons (.str x) (.cons (.tup (SqT.of (by rw [upd_ne m11]; exact s _ _ g11)) .nil) .nil))) .nil
    · exact t_0
    · exact t_str no_letters (by decide)
    · exact t_lst g1 (by decide) (fun _ _ _ => .nil) pl_l0 pl_l0b
    · exact t_bl
    · exact t_tup g2 pl_t0 .nil
    · exact t_dict g4
  refine somes_ok c2 (v := y) rfl rfl tk ?_
  intro σ' H3 a1 a2 a3
  refine nx σ' H3 (a1 0 (by decide)) a2 ?_
  intro b o ne hb
  exact a3 _ _ (kp2 b o ne (S15 _ _ (kp b o ne hb)))
end Hd1

set_option Elab.async false
set_option linter.all false
set_option maxRecDepth 100000
set_option maxHeartbeats 1000000
namespace Hd1
open PySem PySem.Spec PyProof.Rows L2 DL
theorem nodup_at {α : Type} : ∀ (l : List α), l.Nodup → ∀ (i j : Nat) (a : α), l[i]? = some a → l[j]? = some a → i = j
  | [], _, i, j, a, h, _ => by simp at h
  | b :: l, nd, i, j, a, h1, h2 => by
    obtain ⟨n1, n2⟩ := List.nodup_cons.mp nd
    cases i with
    | zero =>
      cases j with
      | zero => rfl
      | succ j =>
        have e : b = a := by simpa using h1
        subst e
        exact absurd (List.mem_of_getElem? (by simpa using h2)) n1
    | succ i =>
      cases j with
      | zero =>
        have e : b = a := by simpa using h2
        subst e
        exact absurd (List.mem_of_getElem? (by simpa using h1)) n1
      | succ j => exact congrArg Nat.succ (nodup_at l n2 i j a (by simpa using h1) (by simpa using h2))
theorem list8 {α : Type} (l : List α) (h : l.length = 8) : ∃ a b c d e f g i, l = [a, b, c, d, e, f, g, i] := by
  match l, h with
  | [a, b, c, d, e, f, g, i], _ => exact ⟨a, b, c, d, e, f, g, i, rfl⟩
theorem e_exb {C : Addr} {σ : L2.St} {H : Hp} {Q : VK} : EX.tExB C σ H Q = ∀ a, H a = none → Q (.ref a) (upd H a (exo a C none)) := rfl
section
variable {P : Program} {w : World} {K : PySem.W.Frag} {mg : Str → Option Value} {base : Heap}

def D_law : He.DefD := ⟨("law", none), "law", "law", defArgs s42, defBody s42, defScope s42, [], []⟩
theorem sc_law : FnScope ["_law_script", "_law_purse_here", "_law_thing", "_law_rest", "_law_word_here", "_law_falses", "_law_some", "_law_error"] ["_law_script"] (defScope s42) := ⟨rfl, rfl, rfl, by decide +kernel, rfl, by decide +kernel, by decide +kernel⟩
def sp_law (K : PySem.W.Frag) : Sp := fun vs H Q _ => ∃ (a : Addr) (ns : List Int), vs = [.ref a] ∧ ns.length ≤ 63 ∧ SqL K H a (ns.map V.int) ∧ ∀ H1 : Hp, Q (.bl true) H1
theorem ok_law (c : He.SaysD fa fn K) (c2 : ex K = true) (XK : K.In base) (G0 : base.Ns mainGlobals mg) (pl : EX.Plain P file) (h_purses : Ok P w K mg base D_purses 2 ["_law_script", "_law_few"] (sp_purses K)) (h_word : Ok P w K mg base D_word 3 ["_law_purse_here"] sp_word) (h_one_of : Ok P w K mg base D_one_of 3 ["_law_purse_here", "_law_some"] sp_one_of) (h_first : Ok P w K mg base D_first 3 ["_law_thing"] (sp_first K)) (h_named : Ok P w K mg base D_named 3 ["_law_thing"] (sp_named K)) (h_bare : Ok P w K mg base D_bare 3 [] (sp_bare K)) (h_right : Ok P w K mg base D_right 2 ["_law_some", "_law_noted"] (sp_right K)) (h_code : Ok P w K mg base D_code 1 ["_law_error"] (sp_code K)) (h_is_error : Ok P w K mg base D_is_error 1 ["_law_error"] (sp_is_error K)) : Ok P w K mg base D_law 4 ["_law_script"] (sp_law K) := by
  obtain ⟨fd, F⟩ := c.def_ 12 (d := D_law) rfl
  refine ⟨fd, fnG_ofC (k := 3) F sc_law (fun vs H Q h => ?_) (fun cdv A out s H vs Q G h => ⟨_, (pss_cons (ps_for PassesOwn.never rfl (pi_listK (K := K) rfl (pe_callO h_purses (G.le (by decide)) rfl (He.glo_ok XK G0 (c.fact 31 (f := .glo "_law_purses") rfl)) (pa_cons (pv 0) (pa_cons pe_int pa_nil)))) (pg_name (i := 1) sc_law.nd rfl (by first | exact Or.inl rfl | exact Or.inr rfl)) (pss_cons (ps_set (i := 4) sc_law.nd rfl (by first | exact Or.inl rfl | exact Or.inr rfl) (pe_callO h_word (G.le (by decide)) rfl (He.glo_ok XK G0 (c.fact 33 (f := .glo "_law_word") rfl)) (pa_cons (pv 1) pa_nil)))
      (pss_cons (ps_set (i := 5) sc_law.nd rfl (by first | exact Or.inl rfl | exact Or.inr rfl) (pe_lst (pa_cons pe_int (pa_cons pe_str (pa_cons (pe_lst pa_nil) (pa_cons pe_bl (pa_cons (pe_tup pa_nil) (pa_cons (pe_callTy (call_dictE rfl) rfl (He.free_ok XK G0 (c.fact 52 (f := .free "dict") rfl)) (by decide +kernel) (pa_cons (pe_lst pa_nil) pa_nil)) pa_nil))))))))
      (pss_cons (ps_set (i := 2) sc_law.nd rfl (by first | exact Or.inl rfl | exact Or.inr rfl) (pe_callO h_one_of (G.le (by decide)) rfl (He.glo_ok XK G0 (c.fact 32 (f := .glo "_law_one_of") rfl)) (pa_cons (pv 1) (pa_cons (pe_op op_add3 (pe_lst (pa_cons (pe_lst (pa_cons (pv 4) pa_nil)) (pa_cons (pe_tup (pa_cons (pv 4) (pa_cons pe_int pa_nil))) (pa_cons (pv 4) (pa_cons pe_non (pa_cons pe_bl (pa_cons (pe_lst (pa_cons (pe_tup (pa_cons (pv 4) (pa_cons (pe_lst pa_nil) pa_nil))) pa_nil)) (pa_cons (pe_lst (pa_cons (pe_lst (pa_cons (pv 4) (pa_cons (pe_tup pa_nil) pa_nil))) pa_nil)) pa_nil)))))))) (pv 5)) pa_nil))))
      (pss_one (ps_for PassesOwn.never rfl (pi_tupK (K := K) rfl (pe_tup (pa_cons (pe_callO h_first (G.le (by decide)) rfl (He.glo_ok XK G0 (c.fact 34 (f := .glo "_law_first") rfl)) (pa_cons (pv 2) pa_nil)) (pa_cons (pe_callO h_named (G.le (by decide)) rfl (He.glo_ok XK G0 (c.fact 35 (f := .glo "_law_named") rfl)) (pa_cons (pv 2) pa_nil)) pa_nil)))) (pg_name (i := 6) sc_law.nd rfl (by first | exact Or.inl rfl | exact Or.inr rfl)) (pss_cons (ps_if (pt_not (pt_val (pe_callO h_right (G.le (by decide)) rfl (He.glo_ok XK G0 (c.fact 39 (f := .glo "_law_right") rfl)) (pa_cons (pv 6) (pa_cons (pe_callB (call_reprK (K := K) rfl (by exact G.g) (by exact G.u64)) rfl (He.free_ok XK G0 (c.fact 51 (f := .free "repr") rfl)) (by decide +kernel) (pa_cons (pv 2) pa_nil)) pa_nil))))) (pss_one (ps_ret pe_bl)) pss_nil)
      (pss_one (ps_if (pt_val (pe_callB (call_isiK' (K := K) rfl (exs c2)) rfl (He.free_ok XK G0 (c.fact 46 (f := .free "isinstance") rfl)) (by decide +kernel) (pa_cons (pv 2) (pa_cons (pe_bltn rfl (He.free_ok XK G0 (c.fact 45 (f := .free "list") rfl)) (by decide +kernel) (v := .ty "list") rfl) pa_nil)))) (pss_cons (ps_expr (pe_append1 (pv 2) pe_str))
      (pss_cons (ps_if (pt_cmp (pcOp (op_neU (K := K) rfl (by exact G.u64)) (pe_lc (own := [("_law_error", 7)]) rfl sc_law.nd (pi_listK (K := K) rfl (pv 6)) (show BlkOk ["_law_script", "_law_purse_here", "_law_thing", "_law_rest", "_law_word_here", "_law_falses", "_law_some", "_law_error"] (defScope s42) _ [("_law_error", 7)] from ⟨rfl, by decide +kernel, by decide +kernel, by decide +kernel, by decide +kernel⟩) (fun _ _ _ _ _ => pg_name (i := 7) sc_law.nd rfl (Or.inl rfl)) (fun _ _ _ _ _ => by exact (pts_one (pt_cmp (pcOp (op_neU (K := K) rfl (by exact G.u64)) (pe_callB (call_reprK (K := K) rfl (by exact G.g) (by exact G.u64)) rfl (He.free_ok XK G0 (c.fact 51 (f := .free "repr") rfl)) (by decide +kernel) (pa_cons (pe_exvK (K := K) rfl (pv 7)) pa_nil)) (pe_callB (call_reprK (K := K) rfl (by exact G.g) (by exact G.u64)) rfl (He.free_ok XK G0 (c.fact 51 (f := .free "repr") rfl)) (by decide +kernel) (pa_cons (pv 2) pa_nil)))))) (fun _ _ _ _ _ => by exact (pv 7))) (pe_lst pa_nil))) (pss_one (ps_ret pe_bl)) pss_nil)
      (pss_one (ps_expr (pe_pop0 (pv 2)))))) pss_nil)))))))))
      (pss_cons (ps_for PassesOwn.never rfl (pi_tupK (K := K) rfl (pe_tup (pa_cons pe_int (pa_cons pe_str (pa_cons pe_bl (pa_cons (pe_tup pa_nil) pa_nil)))))) (pg_name (i := 2) sc_law.nd rfl (by first | exact Or.inl rfl | exact Or.inr rfl)) (pss_one (ps_if (PW.pt (pw_or (pt_not (pt_val (pe_callO h_right (G.le (by decide)) rfl (He.glo_ok XK G0 (c.fact 39 (f := .glo "_law_right") rfl)) (pa_cons (pe_callO h_first (G.le (by decide)) rfl (He.glo_ok XK G0 (c.fact 34 (f := .glo "_law_first") rfl)) (pa_cons (pv 2) pa_nil)) (pa_cons (pe_callB (call_reprK (K := K) rfl (by exact G.g) (by exact G.u64)) rfl (He.free_ok XK G0 (c.fact 51 (f := .free "repr") rfl)) (by decide +kernel) (pa_cons (pv 2) pa_nil)) pa_nil))))) (pw_or1 (pt_not (pt_val (pe_callO h_right (G.le (by decide)) rfl (He.glo_ok XK G0 (c.fact 39 (f := .glo "_law_right") rfl)) (pa_cons (pe_callO h_named (G.le (by decide)) rfl (He.glo_ok XK G0 (c.fact 35 (f := .glo "_law_named") rfl)) (pa_cons (pv 2) pa_nil)) (pa_cons (pe_callB (call_reprK (K := K) rfl (by exact G.g) (by exact G.u64)) rfl (He.free_ok XK G0 (c.fact 51 (f := .free "repr") rfl)) (by decide +kernel) (pa_cons (pv 2) pa_nil)) pa_nil)))))))) (pss_one (ps_ret pe_bl)) pss_nil)))
      (pss_cons (ps_if (pt_not (pt_val (pe_callO h_right (G.le (by decide)) rfl (He.glo_ok XK G0 (c.fact 39 (f := .glo "_law_right") rfl)) (pa_cons (pe_callO0 h_bare (G.le (by decide)) rfl (He.glo_ok XK G0 (c.fact 36 (f := .glo "_law_bare") rfl))) (pa_cons pe_str pa_nil))))) (pss_one (ps_ret pe_bl)) pss_nil)
      (pss_cons (ps_set (i := 3) sc_law.nd rfl (by first | exact Or.inl rfl | exact Or.inr rfl) (pe_lst (pa_cons (EX.pe_exb (xb c2 "NothingToUndo" (by decide)) rfl (He.glo_ok XK G0 (c.fact 26 (f := .glo "NothingToUndo") rfl)) (kb c2 "NothingToUndo" (by decide))) (pa_cons (EX.pe_exb (xb c2 "NothingToRedo" (by decide)) rfl (He.glo_ok XK G0 (c.fact 27 (f := .glo "NothingToRedo") rfl)) (kb c2 "NothingToRedo" (by decide))) pa_nil))))
      (pss_cons (ps_if (PW.pt (pw_or (pt_cmp (pcOp (op_neU (K := K) rfl (by exact G.u64)) (pe_lc (own := [("_law_error", 7)]) rfl sc_law.nd (pi_listK (K := K) rfl (pv 3)) (show BlkOk ["_law_script", "_law_purse_here", "_law_thing", "_law_rest", "_law_word_here", "_law_falses", "_law_some", "_law_error"] (defScope s42) _ [("_law_error", 7)] from ⟨rfl, by decide +kernel, by decide +kernel, by decide +kernel, by decide +kernel⟩) (fun _ _ _ _ _ => pg_name (i := 7) sc_law.nd rfl (Or.inl rfl)) (fun _ _ _ _ _ => by exact pts_nil) (fun _ _ _ _ _ => by exact (pe_callO h_code ((G.blk _ _ _ _ _).le (by decide)) rfl (He.glo_ok XK G0 (c.fact 37 (f := .glo "_law_code") rfl)) (pa_cons (pv 7) pa_nil)))) (pe_lst (pa_cons (pe_lst (pa_cons pe_int pa_nil)) (pa_cons (pe_lst (pa_cons pe_int pa_nil)) pa_nil))))) (pw_or (pt_not (pt_val (pe_callO h_is_error (G.le (by decide)) rfl (He.glo_ok XK G0 (c.fact 38 (f := .glo "_law_is_error") rfl)) (pa_cons (pe_ix ix_own (pv 3) pe_int (fun _ _ => rfl)) pa_nil)))) (pw_or1 (pt_not (pt_val (pe_callO h_is_error (G.le (by decide)) rfl (He.glo_ok XK G0 (c.fact 38 (f := .glo "_law_is_error") rfl)) (pa_cons (pe_ix ix_own (pv 3) pe_int (fun _ _ => rfl)) pa_nil)))))))) (pss_one (ps_ret pe_bl)) pss_nil)
      (pss_one (ps_ret (pe_and (pe_callO h_is_error (G.le (by decide)) rfl (He.glo_ok XK G0 (c.fact 38 (f := .glo "_law_is_error") rfl)) (pa_cons (EX.pe_exb (xb c2 "LandError" (by decide)) rfl (He.glo_ok XK G0 (c.fact 0 (f := .glo "LandError") rfl)) (kb c2 "LandError" (by decide))) pa_nil)) (pe_one (pe_cmpR (op_eqU (K := K) rfl (by exact G.u64)) (pe_callO h_code (G.le (by decide)) rfl (He.glo_ok XK G0 (c.fact 37 (f := .glo "_law_code") rfl)) (pa_cons (EX.pe_exb (xb c2 "LandError" (by decide)) rfl (He.glo_ok XK G0 (c.fact 0 (f := .glo "LandError") rfl)) (kb c2 "LandError" (by decide))) pa_nil)) (pe_lst pa_nil) (nomark _))))))))))), ?_⟩), F.bindsN fun _ _ _ _ _ _ us hl => match us, hl with | [_], _ => rfl, F.kp, fun_lk F⟩
  · obtain ⟨a, ns, ev, -⟩ := h
    subst ev
    rfl
  · obtain ⟨a, ns, ev, hn, sq, q⟩ := h
    subst ev
    simp only [e_seq, e_asg, e_ret, e_drop, e_ifs, e_next, e_for, e_lc, e_name, e_gsub, e_setL, e_var, e_c, e_op, e_rI, e_rI0, e_add3, e_B, e_not, e_and, e_or, e_andV, e_orV, e_notV, e_nil, e_cons, e_cb, e_call, e_lst, e_tup, e_bits, e_ixO, e_ixS, e_lenO, e_sl, e_rng, e_list, e_ituple, e_yes, e_start, e_part, e_nop, e_slL, e_sum, e_lenL, List.getElem?_cons_zero, List.getElem?_cons_succ, List.getElem?_nil, List.set_cons_zero, List.set_cons_succ, List.map_cons, List.map_nil, List.nil_append, List.cons_append, List.append_nil, List.length_cons, List.length_nil, Option.some.injEq, V.int.injEq, V.str.injEq, V.bl.injEq, V.ref.injEq, HO.lst.injEq, HO.tup.injEq, reduceCtorEq, false_and, and_false, exists_false, or_false, false_or, exists_eq_left, exists_eq_left', exists_eq_right, exists_and_left, exists_and_right, true_and, and_true, List.cons.injEq, and_assoc, List.replicate, List.append_eq, Nat.sub_self, Nat.add_sub_cancel, upd_same, ix40, ix41, ix42, ix43, at40, at41, at42, at43, DL.ite_tt, DL.ite_ff, Bool.not_true, Bool.not_false]
    refine ⟨a, 0, ns, rfl, hn, sq, fun l ps H1 s1 pl3 hl lps pus => ⟨l, rfl, ⟨_, SqL.of hl⟩, ?_⟩⟩
    obtain ⟨R, hR⟩ : ∃ R : Nat → L2.St → Hp → Prop, ∀ i σ2 H2, R i σ2 H2 ↔ (σ2.length = 8 ∧ H2 l = some (.lst (ps.map V.ref)) ∧ ∀ (j : Nat) (p : Addr), i ≤ j → ps[j]? = some p → Purse H2 p 0) := ⟨_, fun _ _ _ => Iff.rfl⟩
    refine for_L (SqL.of hl) R ((hR _ _ _).mpr ⟨rfl, hl, fun j p _ hp => (pus.1 p (List.mem_of_getElem? hp)).1⟩) ?_ ?_ ?_
    · intro i σ2 H2 r
      exact SqL.of ((hR _ _ _).mp r).2.1
    · intro i σ2 H2 x r hx
      obtain ⟨q1, q2, q3⟩ := (hR _ _ _).mp r
      rw [List.getElem?_map] at hx
      obtain ⟨p, hp, ex⟩ := Option.map_eq_some_iff.mp hx
      subst ex
      obtain ⟨t0, t1, t2, t3, t4, t5, t6, t7, et⟩ := list8 σ2 q1
      subst et
      have lp : l ≠ p := fun z => lps (z ▸ List.mem_of_getElem? hp)
      refine (thing_ok (K := K) c2 (D := { nx := R (i + 1), rt := _, ct := R (i + 1), bk := _ }) (q3 i p (Nat.le_refl _) hp) ?_ : tThing K _ [t0, some (V.ref p), t2, t3, t4, t5, t6, t7] H2)
      intro σ3 H3 a0 a1 kp
      refine (hR _ _ _).mpr ⟨a1, kp _ _ lp q2, fun j p2 le hp2 => ?_⟩
      have ne : p2 ≠ p := fun z => by
        subst z
        have := nodup_at ps pus.2 i j _ hp hp2
        omega
      exact (q3 j p2 (by omega) hp2).keep kp ne
    intro i σ2 H2 r le
    obtain ⟨q1, q2, q3⟩ := (hR _ _ _).mp r
    obtain ⟨t0, t1, t2, t3, t4, t5, t6, t7, et⟩ := list8 σ2 q1
    subst et
    clear r q3 q2 hR R le
    simp only [e_seq, e_asg, e_ret, e_drop, e_ifs, e_next, e_for, e_lc, e_name, e_gsub, e_setL, e_var, e_c, e_op, e_rI, e_rI0, e_add3, e_B, e_not, e_and, e_or, e_andV, e_orV, e_notV, e_nil, e_cons, e_cb, e_call, e_lst, e_tup, e_bits, e_ixO, e_ixS, e_lenO, e_sl, e_rng, e_list, e_ituple, e_yes, e_start, e_part, e_nop, e_slL, e_sum, e_lenL, List.getElem?_cons_zero, List.getElem?_cons_succ, List.getElem?_nil, List.set_cons_zero, List.set_cons_succ, List.map_cons, List.map_nil, List.nil_append, List.cons_append, List.append_nil, List.length_cons, List.length_nil, Option.some.injEq, V.int.injEq, V.str.injEq, V.bl.injEq, V.ref.injEq, HO.lst.injEq, HO.tup.injEq, reduceCtorEq, false_and, and_false, exists_false, or_false, false_or, exists_eq_left, exists_eq_left', exists_eq_right, exists_and_left, exists_and_right, true_and, and_true, List.cons.injEq, and_assoc, List.replicate, List.append_eq, Nat.sub_self, Nat.add_sub_cancel, upd_same, ix40, ix41, ix42, ix43, at40, at41, at42, at43, DL.ite_tt, DL.ite_ff, Bool.not_true, Bool.not_false, e_exb]
    refine ⟨by decide +kernel, fun g0 hg0 => ?_⟩
    generalize eg0 : upd _ g0 _ = A0
    have sg0 := Eq.subst (motive := fun Z => Same _ Z) eg0 (sameA hg0)
    have fg0 := Eq.subst (motive := fun Z => Z g0 = some _) eg0 upd_same
    refine ⟨by decide +kernel, fun g1 hg1 => ?_⟩
    generalize eg1 : upd _ g1 _ = A1
    have sg1 := Eq.subst (motive := fun Z => Same _ Z) eg1 (sameA hg1)
    have fg1 := Eq.subst (motive := fun Z => Z g1 = some _) eg1 upd_same
    refine ⟨⟨_, SqT.of fg1⟩, ?_⟩
    obtain ⟨R, hR⟩ : ∃ R : Nat → L2.St → Hp → Prop, ∀ i σ2 H3, R i σ2 H3 ↔ (σ2.length = 8 ∧ Same A1 H3) := ⟨_, fun _ _ _ => Iff.rfl⟩
    refine for_T (SqT.of fg1) R ((hR _ _ _).mpr ⟨rfl, Same.refl A1⟩) ?_ ?_ ?_
    · intro i σ2 H3 r
      exact SqT.of (((hR _ _ _).mp r).2 _ _ fg1)
    · intro i σ2 H3 x r hx
      obtain ⟨q1, q2⟩ := (hR _ _ _).mp r
      obtain ⟨t0, t1, t2, t3, t4, t5, t6, t7, et⟩ := list8 σ2 q1
      subst et
      have tk : ThingOk K H3 x := by
        have hm := List.mem_of_getElem? hx
        simp only [List.mem_cons, List.not_mem_nil, or_false] at hm
        rcases hm with e | e | e | e <;> subst e
        · exact t_0
        · exact t_str no_letters (by decide)
        · exact t_bl
        · exact t_tup (q2 _ _ (sg1 _ _ fg0)) pl_t0 .nil
      obtain ⟨z, hz⟩ := tk.shown
      show tIfS _ _ _ _ _ _
      simp only [e_seq, e_asg, e_ret, e_drop, e_ifs, e_next, e_for, e_lc, e_name, e_gsub, e_setL, e_var, e_c, e_op, e_rI, e_rI0, e_add3, e_B, e_not, e_and, e_or, e_andV, e_orV, e_notV, e_nil, e_cons, e_cb, e_call, e_lst, e_tup, e_bits, e_ixO, e_ixS, e_lenO, e_sl, e_rng, e_list, e_ituple, e_yes, e_start, e_part, e_nop, e_slL, e_sum, e_lenL, List.getElem?_cons_zero, List.getElem?_cons_succ, List.getElem?_nil, List.set_cons_zero, List.set_cons_succ, List.map_cons, List.map_nil, List.nil_append, List.cons_append, List.append_nil, List.length_cons, List.length_nil, Option.some.injEq, V.int.injEq, V.str.injEq, V.bl.injEq, V.ref.injEq, HO.lst.injEq, HO.tup.injEq, reduceCtorEq, false_and, and_false, exists_false, or_false, false_or, exists_eq_left, exists_eq_left', exists_eq_right, exists_and_left, exists_and_right, true_and, and_true, List.cons.injEq, and_assoc, List.replicate, List.append_eq, Nat.sub_self, Nat.add_sub_cancel, upd_same, ix40, ix41, ix42, ix43, at40, at41, at42, at43, DL.ite_tt, DL.ite_ff, Bool.not_true, Bool.not_false]
      refine ⟨x, rfl, fun l1 es1 H4 m1 hl1 => shown_repr (hz.same m1.same) ⟨l1, z, es1, x, rfl, hl1, errs_of m1, hz.same m1.same, fun H5 s5 => ⟨true, rfl, ?_⟩⟩⟩
      rw [if_neg (by decide)]
      have z5 := hz.same (m1.same.trans s5)
      refine ⟨x, rfl, fun l2 es2 H6 m2 hl2 => shown_repr (z5.same m2.same) ⟨l2, z, es2, x, rfl, hl2, errs_of m2, z5.same m2.same, fun H7 s7 => ⟨true, rfl, ?_⟩⟩⟩
      rw [if_neg (by decide)]
      exact (hR _ _ _).mpr ⟨rfl, q2.trans (m1.same.trans (s5.trans (m2.same.trans s7)))⟩
    intro i σ2 H3 r le
    obtain ⟨q1, q2⟩ := (hR _ _ _).mp r
    obtain ⟨t0, t1, t2, t3, t4, t5, t6, t7, et⟩ := list8 σ2 q1
    subst et
    simp only [e_seq, e_asg, e_ret, e_drop, e_ifs, e_next, e_for, e_lc, e_name, e_gsub, e_setL, e_var, e_c, e_op, e_rI, e_rI0, e_add3, e_B, e_not, e_and, e_or, e_andV, e_orV, e_notV, e_nil, e_cons, e_cb, e_call, e_lst, e_tup, e_bits, e_ixO, e_ixS, e_lenO, e_sl, e_rng, e_list, e_ituple, e_yes, e_start, e_part, e_nop, e_slL, e_sum, e_lenL, List.getElem?_cons_zero, List.getElem?_cons_succ, List.getElem?_nil, List.set_cons_zero, List.set_cons_succ, List.map_cons, List.map_nil, List.nil_append, List.cons_append, List.append_nil, List.length_cons, List.length_nil, Option.some.injEq, V.int.injEq, V.str.injEq, V.bl.injEq, V.ref.injEq, HO.lst.injEq, HO.tup.injEq, reduceCtorEq, false_and, and_false, exists_false, or_false, false_or, exists_eq_left, exists_eq_left', exists_eq_right, exists_and_left, exists_and_right, true_and, and_true, List.cons.injEq, and_assoc, List.replicate, List.append_eq, Nat.sub_self, Nat.add_sub_cancel, upd_same, ix40, ix41, ix42, ix43, at40, at41, at42, at43, DL.ite_tt, DL.ite_ff, Bool.not_true, Bool.not_false, e_exb]
    refine ⟨rfl, fun l1 es1 H4 m1 hl1 => ⟨l1, "None", es1, .non, rfl, hl1, errs_of m1, .inl ⟨.none, .non, pl_non.1, pl_non.2.1, pl_non.2.2.1, pl_non.2.2.2.1, pl_non.2.2.2.2, by simp only [PyData.shown]⟩, fun H5 s5 => ⟨true, rfl, ?_⟩⟩⟩
    rw [if_neg (by decide)]
    intro a1 ha1
    generalize eb1 : upd H5 a1 (exo a1 (He.ga K (Str.ofString "NothingToUndo")) none) = B1
    have sb1 : Same H5 B1 := eb1 ▸ sameA ha1
    have fb1 : B1 a1 = some (exo a1 (He.ga K (Str.ofString "NothingToUndo")) none) := by rw [← eb1, upd_same]
    intro a2 ha2
    generalize eb2 : upd B1 a2 (exo a2 (He.ga K (Str.ofString "NothingToRedo")) none) = B2
    have sb2 : Same B1 B2 := eb2 ▸ sameA ha2
    have fb2 : B2 a2 = some (exo a2 (He.ga K (Str.ofString "NothingToRedo")) none) := by rw [← eb2, upd_same]
    refine ⟨by decide +kernel, fun g3 hg3 => ?_⟩
    generalize eb3 : upd _ g3 _ = B3
    have sb3 := Eq.subst (motive := fun Z => Same _ Z) eb3 (sameA hg3)
    have fb3 := Eq.subst (motive := fun Z => Z g3 = some _) eb3 upd_same
    clear eb1 eb2 eb3
    refine ⟨⟨_, SqL.of fb3⟩, ?_⟩
    refine lc_L (SqL.of fb3) (fun C hC => ?_)
    obtain ⟨R4, hR4⟩ : ∃ R : Nat → Hp → Prop, ∀ i H6, R i H6 ↔ (Same B3 H6 ∧ ((i = 0 ∧ H6 C = some (.lst [])) ∨ (i = 1 ∧ ∃ c, H6 C = some (.lst [.ref c]) ∧ H6 c = some (.lst [.int 25])) ∨ (i = 2 ∧ ∃ c d, H6 C = some (.lst [.ref c, .ref d]) ∧ H6 c = some (.lst [.int 25]) ∧ H6 d = some (.lst [.int 26])))) := ⟨_, fun _ _ => Iff.rfl⟩
    have up : ∀ {H6 : Hp} {o : HO}, Same B3 H6 → Same B3 (upd H6 C o) := fun {H6 o} s b u hb => by
      have ne : b ≠ C := fun y => by rw [y, hC] at hb; cases hb
      rw [upd_ne ne]
      exact s b u hb
    have c25 : codeL "NothingToUndo" 27 = [25] := by decide +kernel
    have c26 : codeL "NothingToRedo" 27 = [26] := by decide +kernel
    refine ⟨R4, (hR4 _ _).mpr ⟨sameA hC, .inl ⟨rfl, upd_same⟩⟩, ?_, ?_, ?_⟩
    · intro i H6 r
      exact SqL.of (((hR4 _ _).mp r).1 _ _ fb3)
    · intro i H6 x r hx
      obtain ⟨sr, h0 | ⟨e1, c1, h1, h1b⟩ | ⟨e2, -⟩⟩ := (hR4 _ _).mp r
      · obtain ⟨ei, hc⟩ := h0
        subst ei
        have ex : x = .ref a1 := by simpa using hx.symm
        subst ex
        show tYes _ _ _
        simp only [e_seq, e_asg, e_ret, e_drop, e_ifs, e_next, e_for, e_lc, e_name, e_gsub, e_setL, e_var, e_c, e_op, e_rI, e_rI0, e_add3, e_B, e_not, e_and, e_or, e_andV, e_orV, e_notV, e_nil, e_cons, e_cb, e_call, e_lst, e_tup, e_bits, e_ixO, e_ixS, e_lenO, e_sl, e_rng, e_list, e_ituple, e_yes, e_start, e_part, e_nop, e_slL, e_sum, e_lenL, List.getElem?_cons_zero, List.getElem?_cons_succ, List.getElem?_nil, List.set_cons_zero, List.set_cons_succ, List.map_cons, List.map_nil, List.nil_append, List.cons_append, List.append_nil, List.length_cons, List.length_nil, Option.some.injEq, V.int.injEq, V.str.injEq, V.bl.injEq, V.ref.injEq, HO.lst.injEq, HO.tup.injEq, reduceCtorEq, false_and, and_false, exists_false, or_false, false_or, exists_eq_left, exists_eq_left', exists_eq_right, exists_and_left, exists_and_right, true_and, and_true, List.cons.injEq, and_assoc, List.replicate, List.append_eq, Nat.sub_self, Nat.add_sub_cancel, upd_same, ix40, ix41, ix42, ix43, at40, at41, at42, at43, DL.ite_tt, DL.ite_ff, Bool.not_true, Bool.not_false]
        refine ⟨a1, "NothingToUndo", rfl, by decide +kernel, .inl (sr _ _ (sb3 _ _ (sb2 _ _ fb1))), fun c6 H7 s7 n7 h7 => ?_⟩
        rw [c25] at h7
        have nc : c6 ≠ C := fun z => by rw [z, hc] at n7; cases n7
        refine ⟨_, s7 _ _ hc, by decide +kernel, (hR4 _ _).mpr ⟨up (sr.trans s7), .inr (.inl ⟨rfl, c6, upd_same, ?_⟩)⟩⟩
        rw [upd_ne nc]
        exact h7
      · subst e1
        have ex : x = .ref a2 := by simpa using hx.symm
        subst ex
        show tYes _ _ _
        simp only [e_seq, e_asg, e_ret, e_drop, e_ifs, e_next, e_for, e_lc, e_name, e_gsub, e_setL, e_var, e_c, e_op, e_rI, e_rI0, e_add3, e_B, e_not, e_and, e_or, e_andV, e_orV, e_notV, e_nil, e_cons, e_cb, e_call, e_lst, e_tup, e_bits, e_ixO, e_ixS, e_lenO, e_sl, e_rng, e_list, e_ituple, e_yes, e_start, e_part, e_nop, e_slL, e_sum, e_lenL, List.getElem?_cons_zero, List.getElem?_cons_succ, List.getElem?_nil, List.set_cons_zero, List.set_cons_succ, List.map_cons, List.map_nil, List.nil_append, List.cons_append, List.append_nil, List.length_cons, List.length_nil, Option.some.injEq, V.int.injEq, V.str.injEq, V.bl.injEq, V.ref.injEq, HO.lst.injEq, HO.tup.injEq, reduceCtorEq, false_and, and_false, exists_false, or_false, false_or, exists_eq_left, exists_eq_left', exists_eq_right, exists_and_left, exists_and_right, true_and, and_true, List.cons.injEq, and_assoc, List.replicate, List.append_eq, Nat.sub_self, Nat.add_sub_cancel, upd_same, ix40, ix41, ix42, ix43, at40, at41, at42, at43, DL.ite_tt, DL.ite_ff, Bool.not_true, Bool.not_false]
        refine ⟨a2, "NothingToRedo", rfl, by decide +kernel, .inl (sr _ _ (sb3 _ _ fb2)), fun c6 H7 s7 n7 h7 => ?_⟩
        rw [c26] at h7
        have nc : c6 ≠ C := fun z => by rw [z, h1] at n7; cases n7
        have nd : c1 ≠ C := fun z => by
          rw [z, h1] at h1b
          have q := HO.lst.inj (Option.some.inj h1b)
          simp at q
        refine ⟨_, s7 _ _ h1, (show 1 < sizeLine from by decide +kernel), (hR4 _ _).mpr ⟨up (sr.trans s7), .inr (.inr ⟨rfl, c1, c6, upd_same, ?_, ?_⟩)⟩⟩
        · rw [upd_ne nd]
          exact s7 _ _ h1b
        · rw [upd_ne nc]
          exact h7
      · subst e2
        simp at hx
    intro i H6 r le
    have le2 : 2 ≤ i := le
    obtain ⟨sr, ⟨e0, -⟩ | ⟨e1, -⟩ | ⟨e2, c1, c3, h1, h2, h3⟩⟩ := (hR4 _ _).mp r
    · omega
    · omega
    refine ⟨by decide +kernel, fun k1 hk1 => ?_⟩
    generalize ek1 : upd _ k1 _ = K1
    have sk1 := Eq.subst (motive := fun Z => Same _ Z) ek1 (sameA hk1)
    have fk1 := Eq.subst (motive := fun Z => Z k1 = some _) ek1 upd_same
    refine ⟨by decide +kernel, fun k2 hk2 => ?_⟩
    generalize ek2 : upd _ k2 _ = K2
    have sk2 := Eq.subst (motive := fun Z => Same _ Z) ek2 (sameA hk2)
    have fk2 := Eq.subst (motive := fun Z => Z k2 = some _) ek2 upd_same
    refine ⟨by decide +kernel, fun k3 hk3 => ?_⟩
    generalize ek3 : upd _ k3 _ = K3
    have sk3 := Eq.subst (motive := fun Z => Same _ Z) ek3 (sameA hk3)
    have fk3 := Eq.subst (motive := fun Z => Z k3 = some _) ek3 upd_same
    clear ek1 ek2 ek3
    have s63 : Same H6 K3 := sk1.trans (sk2.trans sk3)
    have d1 : Dp K K3 (.ref C) (.list [.list [.int 25], .list [.int 26]]) := .lst (SqL.of (s63 _ _ h1)) (.cons (.lst (SqL.of (s63 _ _ h2)) (.cons (.int 25) .nil)) (.cons (.lst (SqL.of (s63 _ _ h3)) (.cons (.int 26) .nil)) .nil))
    have d2 : Dp K K3 (.ref k3) (.list [.list [.int 25], .list [.int 26]]) := .lst (SqL.of fk3) (.cons (.lst (SqL.of (sk3 _ _ (sk2 _ _ fk1))) (.cons (.int 25) .nil)) (.cons (.lst (SqL.of (sk3 _ _ fk2)) (.cons (.int 26) .nil)) .nil))
    refine .inr ⟨_, _, d1, d2, by decide +kernel, by decide +kernel, false, ?_, ?_⟩
    · have : PyData.eqv (.list [.list [.int 25], .list [.int 26]]) (.list [.list [.int 25], .list [.int 26]]) = true := by decide +kernel
      rw [this]
      rfl
    rw [if_neg Bool.false_ne_true]
    have sB : Same B3 K3 := sr.trans s63
    refine ⟨_, sB _ _ fb3, .ref a1, rfl, a1, "NothingToUndo", rfl, by decide +kernel, .inl (sB _ _ (sb3 _ _ (sb2 _ _ fb1))), true, rfl, ?_⟩
    rw [if_neg (by decide)]
    refine ⟨_, sB _ _ fb3, .ref a2, rfl, a2, "NothingToRedo", rfl, by decide +kernel, .inl (sB _ _ (sb3 _ _ fb2)), true, rfl, ?_⟩
    rw [if_neg (by decide)]
    intro a3 ha3
    refine ⟨a3, "LandError", rfl, by decide +kernel, .inl upd_same, true, rfl, ?_⟩
    rw [if_pos rfl]
    intro a4 ha4
    refine ⟨a4, "LandError", rfl, by decide +kernel, .inl upd_same, fun c7 H8 s8 n8 h8 => ?_⟩
    have c0 : codeL "LandError" 27 = [] := by decide +kernel
    rw [c0] at h8
    refine ⟨by decide +kernel, fun p hp => .inr ⟨_, _, .lst (SqL.of (sameA hp _ _ h8)) .nil, .lst (SqL.of upd_same) .nil, by decide +kernel, by decide +kernel, ?_⟩⟩
    have : PyData.eqv (.list []) (.list []) = true := by decide +kernel
    rw [this]
    exact q _

end
section
variable {P : Program} {w : World} {K : PySem.W.Frag} {mg : Str → Option Value} {h : Heap}
/-- all defs together -/
theorem all_ok {base : Heap} (c : He.SaysD fa fn K) (c2 : ex K = true) (XK : K.In base) (G0 : base.Ns mainGlobals mg) (pl : EX.Plain P file) : Ok P w K mg base D_law 4 ["_law_script"] (sp_law K) := by
  have h1 := ok_mixed (P := P) (w := w) c c2 XK G0 pl
  have h2 := ok_draw c c2 XK G0 pl h1
  have h3 := ok_purse (P := P) (w := w) c c2 XK G0 pl
  have h4 := ok_purses c c2 XK G0 pl h3
  have h5 := ok_one_of c c2 XK G0 pl h2
  have h6 := ok_word c c2 XK G0 pl h2
  have h7 := ok_first (P := P) (w := w) c c2 XK G0 pl
  have h8 := ok_named (P := P) (w := w) c c2 XK G0 pl
  have h9 := ok_bare (P := P) (w := w) c c2 XK G0 pl
  have h10 := ok_code (P := P) (w := w) c c2 XK G0 pl
  have h11 := ok_is_error (P := P) (w := w) c c2 XK G0 pl
  have h12 := ok_right c c2 XK G0 pl h10 h11
  exact ok_law c c2 XK G0 pl h4 h6 h5 h7 h8 h9 h12 h10 h11
theorem facts {f : Addr} (XK : K.In h) (G : h.Ns mainGlobals mg) (hfa : mg ("law" : Str) = some (.ref f)) (c : He.SaysD fa fn K) (c2 : ex K = true) (pl : EX.Plain P file) :
    ∃ fd : FuncData, (∀ (s : Shared) (u : Value), BindsTo s fd ⟨[u], []⟩ [("_law_script", u)]) ∧ ∀ base : Heap, K.In base → base.Ns mainGlobals mg → FnG P w K mg base 4 f fd ["_law_script"] (sp_law K) := by
  obtain ⟨fd, F⟩ := c.def_ 12 (d := D_law) rfl
  have e := hfa.symm.trans (He.glo_ok XK G (c.fact 40 (f := .glo "law") rfl))
  have e2 : f = He.ga K "law" := by
    injection e with e
    injection e
  subst e2
  have b := FunD.bindsA (ps := ["_law_script"]) F fun _ _ _ _ _ _ us hl => match us, hl with | [_], _ => rfl
  refine ⟨fd, fun s u => b s [u] rfl, fun base X G1 => ?_⟩
  obtain ⟨fd2, g, -, -, oc2, od2, osl2, lk2⟩ := all_ok (P := P) (w := w) c c2 X G1 pl
  obtain ⟨oc, od, osl, lk⟩ := fun_lk F
  have q : fd2 = fd := by
    have z := lk2.symm.trans lk
    injection z with z
    injection z with z1 z2 z3 z4
    injection z3
  subst q
  exact g
end
end Hd1
open PySem PySem.W PySem.Calls PyProof.Rows
theorem PySem.Challenge.cw_barsanddyes_k01_errors_made_holds : PySem.Challenge.rw_barsanddyes_k01_errors_made.Holds := by
  w_on; o_law
  refine HandSHeadRun.head_any (r := OpenLaw.row PySem.Challenge.rw_barsanddyes_k01_errors_made) (q := view (OpenLaw.row PySem.Challenge.rw_barsanddyes_k01_errors_made).prog [42]) (H := Hd1.hk) (ob := Hd1.ob) (M := 60000) (loose := Hd1.loose) (d := HandSHeadRun.topDef (OpenLaw.row PySem.Challenge.rw_barsanddyes_k01_errors_made).prog 42) (kwd := []) Hd1.ob_eq
    (by kernel_rfl) (fun s => by kernel_rfl) Hd1.run (by kernel_rfl) (by kernel_rfl) (by kernel_rfl) (by rfl) (by first | assumption | decide +kernel) (by decide +kernel) ⟨rfl, rfl, rfl, rfl, rfl, by decide +kernel⟩ ?hw ?hc
  case hw => w_witness2
  case hc =>
    refine DL.walk_ofG (l := PySem.Challenge.rw_barsanddyes_k01_errors_made) (n := 63) (k := 4) (x := "_law_script") rfl (by decide) (by kernel_rfl) ⟨rfl, by decide, by decide⟩ ?F
    intro w mg fa h Y G hmg0
    obtain ⟨K, KX, c, c2⟩ := Y
    have hmg : mg ("law" : PySem.Str) = some (.ref fa) := by
      have e : (HandSHeadRun.topDef (OpenLaw.row PySem.Challenge.rw_barsanddyes_k01_errors_made).prog 42).name = ("law" : PySem.Str) := by kernel_rfl
      rw [← e]
      exact hmg0
    have pl : EX.Plain (PySem.Challenge.rw_barsanddyes_k01_errors_made).prog Hd1.file := ⟨by kernel_rfl, by kernel_rfl⟩
    obtain ⟨fd, hb, hF⟩ := Hd1.facts (P := (PySem.Challenge.rw_barsanddyes_k01_errors_made).prog) (w := w) KX G hmg c c2 pl
    exact ⟨K, fd, Hd1.sp_law K, KX, hb, fun H a ns hl hS => ⟨a, ns, rfl, hl, hS, fun _ => rfl⟩, hF⟩
