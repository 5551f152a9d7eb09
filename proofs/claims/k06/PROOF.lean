import PyProof.Rows.All
import Wide.All
import OpenK.AllK
import Wide.FinOn
import HandS.ForMost
import HandS.Exc
import HandS.TryOnly
import HandS.ExcOwn
import HandS.WordsExc
import HandS.IsInst
import HandS.ExcIs
import HandS.AnyAll
import HandS.Wide
import HandS.Deep
import HandS.TupLe
import HandS.Iter
import HandS.GenOver
import PyProof.GenQ
import HandS.GenList
import PyProof.ConsumeS
import HandS.Rev
import HandS.RevTup
import PyProof.ListCopy
import HandS.EndTab
import KE.KNest
import HandS.TupAny
import HandS.Style
import PySem.Challenge.RW_docketloom_k06_months_and_easter
set_option Elab.async false
set_option linter.all false
set_option maxRecDepth 100000
/-! The data layer: readings told over plain data, no heap in sight. -/
namespace PD
open PySem L2 GxR

def Ex (H H' : Hp) : Prop := ∀ a o, H a = some o → H' a = some o
theorem Ex.refl (H : Hp) : Ex H H := fun _ _ h => h
theorem Ex.trans {H H1 H2 : Hp} (a : Ex H H1) (b : Ex H1 H2) : Ex H H2 := fun x o h => b x o (a x o h)
theorem Ex.new {H : Hp} {p : Addr} {o : HO} (h : H p = none) : Ex H (upd H p o) := fun a u e => by
  rw [upd_ne (ne_of_none e h)]
  exact e
theorem Ex.upd2 {M H : Hp} {p : Addr} {o : HO} (e : Ex M H) (h : H p = none) : Ex (upd M p o) (upd H p o) := fun a u q => by
  unfold upd at q ⊢
  split
  · rename_i hh
    rw [if_pos hh] at q
    exact q
  · rename_i hh
    rw [if_neg hh] at q
    exact e a u q
theorem Ex.none {M H : Hp} (e : Ex M H) {p : Addr} (h : H p = none) : M p = none := by
  cases q : M p with
  | none => rfl
  | some o =>
    rw [e p o q] at h
    cases h
theorem ex_t {K : PySem.W.Frag} {H H' : Hp} {a : Addr} {xs : List V} (e : Ex H H') (h : SqT K H a xs) : SqT K H' a xs := by
  rcases h with (h | ⟨o, h⟩) | h
  · exact .inl (.inl (e a _ h))
  · exact .inl (.inr ⟨o, e a _ h⟩)
  · exact .inr h

theorem ex_l {K : PySem.W.Frag} {H H' : Hp} {a : Addr} {xs : List V} (e : Ex H H') (h : SqL K H a xs) : SqL K H' a xs := by
  rcases h with (h | ⟨o, h⟩) | h
  · exact .inl (.inl (e a _ h))
  · exact .inl (.inr ⟨o, e a _ h⟩)
  · exact .inr h

/-! ### what stands for a datum -/
mutual
inductive Rp (K : PySem.W.Frag) (M : Hp) : V → PyData → Prop
  | non : Rp K M .non .none
  | bl (b : Bool) : Rp K M (.bl b) (.bool b)
  | int (i : Int) : Rp K M (.int i) (.int i)
  | str (x : Str) : Rp K M (.str x) (.str x)
  | lst {a : Addr} {xs : List V} {ds : List PyData} : M a = some (.lst xs) → RpAll K M xs ds → Rp K M (.ref a) (.list ds)
  | tup {a : Addr} {xs : List V} {ds : List PyData} : SqT K M a xs → RpAll K M xs ds → Rp K M (.ref a) (.tuple ds)
inductive RpAll (K : PySem.W.Frag) (M : Hp) : List V → List PyData → Prop
  | nil : RpAll K M [] []
  | cons {v : V} {vs : List V} {d : PyData} {ds : List PyData} : Rp K M v d → RpAll K M vs ds → RpAll K M (v :: vs) (d :: ds)
end
section
variable {K : PySem.W.Frag} {M N : Hp}
mutual
theorem Rp.mono (e : Ex M N) : ∀ (d : PyData) (v : V), Rp K M v d → Rp K N v d
  | .none, v, h => by cases h; exact .non
  | .bool b, v, h => by cases h; exact .bl b
  | .int i, v, h => by cases h; exact .int i
  | .str x, v, h => by cases h; exact .str x
  | .list ds, v, h => by
    cases h with
    | lst h1 h2 => exact .lst (e _ _ h1) (Rp.monoAll e ds _ h2)
  | .tuple ds, v, h => by
    cases h with
    | tup h1 h2 => exact .tup (ex_t e h1) (Rp.monoAll e ds _ h2)
  | .dict _, v, h => by cases h
theorem Rp.monoAll (e : Ex M N) : ∀ (ds : List PyData) (vs : List V), RpAll K M vs ds → RpAll K N vs ds
  | [], vs, h => by cases h; exact .nil
  | d :: ds, vs, h => by
    cases h with
    | cons h1 h2 => exact .cons (Rp.mono e d _ h1) (Rp.monoAll e ds _ h2)
end
theorem Rp.up {v : V} {d : PyData} (h : Rp K M v d) (e : Ex M N) : Rp K N v d := Rp.mono e d v h
theorem RpAll.up {vs : List V} {ds : List PyData} (h : RpAll K M vs ds) (e : Ex M N) : RpAll K N vs ds := Rp.monoAll e ds vs h
mutual
theorem Rp.dp (e : Ex M N) : ∀ (d : PyData) (v : V), Rp K M v d → Dp K N v d
  | .none, v, h => by cases h; exact .non
  | .bool b, v, h => by cases h; exact .bl b
  | .int i, v, h => by cases h; exact .int i
  | .str x, v, h => by cases h; exact .str x
  | .list ds, v, h => by
    cases h with
    | lst h1 h2 => exact .lst (.inl (.inl (e _ _ h1))) (Rp.dpAll e ds _ h2)
  | .tuple ds, v, h => by
    cases h with
    | tup h1 h2 => exact .tup (ex_t e h1) (Rp.dpAll e ds _ h2)
  | .dict _, v, h => by cases h
theorem Rp.dpAll (e : Ex M N) : ∀ (ds : List PyData) (vs : List V), RpAll K M vs ds → DpAll K N vs ds
  | [], vs, h => by cases h; exact .nil
  | d :: ds, vs, h => by
    cases h with
    | cons h1 h2 => exact .cons (Rp.dp e d _ h1) (Rp.dpAll e ds _ h2)
end
theorem RpAll.length : ∀ {vs : List V} {ds : List PyData}, RpAll K M vs ds → vs.length = ds.length
  | [], [], _ => rfl
  | _ :: _, _ :: _, .cons _ h => by rw [List.length_cons, List.length_cons, h.length]
theorem RpAll.get : ∀ {vs : List V} {ds : List PyData} {i : Nat} {d : PyData}, RpAll K M vs ds → ds[i]? = some d → ∃ v, vs[i]? = some v ∧ Rp K M v d
  | [], [], _, _, _, e => by simp at e
  | _ :: _, _ :: _, 0, _, .cons h _, e => by
    simp at e
    subst e
    exact ⟨_, rfl, h⟩
  | _ :: _, _ :: _, i + 1, d, .cons _ h, e => by
    obtain ⟨v, h1, h2⟩ := h.get (i := i) (d := d) (by simpa using e)
    exact ⟨v, by simpa using h1, h2⟩
theorem RpAll.append : ∀ {vs ws : List V} {ds es : List PyData}, RpAll K M vs ds → RpAll K M ws es → RpAll K M (vs ++ ws) (ds ++ es)
  | _, _, _, _, .nil, h => h
  | _, _, _, _, .cons h t, h' => .cons h (t.append h')
theorem RpAll.set {v : V} {d : PyData} (r : Rp K M v d) : ∀ {vs : List V} {ds : List PyData} (i : Nat), RpAll K M vs ds → RpAll K M (vs.set i v) (ds.set i d)
  | _, _, _, .nil => .nil
  | _, _, 0, .cons _ t => .cons r t
  | _, _, i + 1, .cons q t => .cons q (RpAll.set r i t)
theorem RpAll.dropLast : ∀ {vs : List V} {ds : List PyData}, RpAll K M vs ds → RpAll K M vs.dropLast ds.dropLast
  | _, _, .nil => .nil
  | _, _, .cons _ .nil => .nil
  | _, _, .cons h (.cons h' t) => .cons h (RpAll.dropLast (.cons h' t))
theorem RpAll.take : ∀ {vs : List V} {ds : List PyData} (n : Nat), RpAll K M vs ds → RpAll K M (vs.take n) (ds.take n)
  | _, _, 0, _ => .nil
  | _, _, _ + 1, .nil => .nil
  | _, _, n + 1, .cons h t => .cons h (RpAll.take n t)
theorem RpAll.drop : ∀ {vs : List V} {ds : List PyData} (n : Nat), RpAll K M vs ds → RpAll K M (vs.drop n) (ds.drop n)
  | _, _, 0, h => h
  | _, _, _ + 1, .nil => .nil
  | _, _, n + 1, .cons _ t => RpAll.drop n t
theorem RpAll.reverse {vs : List V} {ds : List PyData} (h : RpAll K M vs ds) : RpAll K M vs.reverse ds.reverse := by
  induction vs generalizing ds with
  | nil => cases h; exact .nil
  | cons v vs ih =>
    cases h with
    | cons h t =>
      rw [List.reverse_cons, List.reverse_cons]
      exact (ih t).append (.cons h .nil)
theorem RpAll.ints {ns : List Int} : RpAll K M (ns.map V.int) (ns.map PyData.int) := by
  induction ns with
  | nil => exact .nil
  | cons n ns ih => exact .cons (.int n) ih
theorem RpAll.of_ints : ∀ {vs : List V} {ns : List Int}, RpAll K M vs (ns.map PyData.int) → vs = ns.map V.int
  | [], [], _ => rfl
  | _ :: _, n :: ns, .cons h t => by
    cases h
    rw [List.map_cons, t.of_ints]
end

/-! ### the base, what may change, the state -/
/-- what a source of draws must hold -/
structure Src where
  ok : Hp → HO → Prop
  mono : ∀ M N o, Ex M N → ok M o → ok N o
  /-- where the defs' tables of code objects stand -/
  tb : Addr → Prop
  nt : ∀ M ps, ¬ ok M (.tbl ps)
theorem tab_not {H : Hp} {P : Addr} {o : HO} (h : TabG H P) (e : H P = some o) (n : ∀ ps, o ≠ .tbl ps) : False := by
  obtain ⟨ps, h1, _⟩ := h
  rw [e] at h1
  exact n ps (Option.some.inj h1)
theorem tab_nots {S : Src} {M H : Hp} {P : Addr} {o : HO} (h : TabG H P) (e : H P = some o) (n : S.ok M o) : False := by
  obtain ⟨ps, h1, _⟩ := h
  rw [e] at h1
  cases h1
  exact S.nt M ps n
/-- where a stretch of work begins: the sources, the lists that are ours, what is known for good, the heap -/
structure Bs where
  z : Addr → Prop
  y : Addr → Prop
  M : Hp
  H : Hp
  L : Hp
structure Bs.Ok (S : Src) (B : Bs) : Prop where
  sub : Ex B.M B.H
  zM : ∀ b, B.z b → B.M b = none
  yM : ∀ b, B.y b → B.M b = none
  yH : ∀ b, B.y b → ∃ vs, B.H b = some (.lst vs)
  zs : ∀ b, B.z b → ∃ o, B.H b = some o ∧ S.ok B.M o
  zy : ∀ b, B.z b → ¬ B.y b
  tM : ∀ b, S.tb b → B.M b = none
  tH : ∀ b, S.tb b → TabG B.H b
structure Ext (S : Src) (B : Bs) (N H' : Hp) : Prop where
  ex : Ex B.M N
  sub : Ex N H'
  fr : ∀ b, B.M b = none → B.H b ≠ none → N b = none
  keep : ∀ b o, B.H b = some o → ¬ B.z b → ¬ B.y b → ¬ S.tb b → H' b = some o
  dom : ∀ b, B.H b ≠ none → H' b ≠ none
  src : ∀ b, B.z b → ∃ o', H' b = some o' ∧ S.ok N o'
  fl : Ex B.L N
  tab : ∀ b, S.tb b → TabG H' b
theorem Ext.refl {S : Src} {B : Bs} (h : B.Ok S) (hL : Ex B.L B.M) : Ext S B B.M B.H := ⟨Ex.refl _, h.sub, fun _ e _ => e, fun _ _ e _ _ _ => e, fun _ e => e, h.zs, hL, h.tH⟩
theorem Ext.trans {S : Src} {B : Bs} {z' y' : Addr → Prop} {N1 H1 N2 H2 L' : Hp} (hB : B.Ok S) (a : Ext S B N1 H1) (hz : ∀ b, z' b → B.z b ∨ B.H b = none) (hy : ∀ b, y' b → B.y b ∨ B.H b = none)
    (c : Ext S ⟨z', y', N1, H1, L'⟩ N2 H2) : Ext S B N2 H2 where
  fl := a.fl.trans c.ex
  tab := c.tab
  ex := a.ex.trans c.ex
  sub := c.sub
  fr := fun b e n => c.fr b (a.fr b e n) (a.dom b n)
  keep := fun b o e nz ny nt => c.keep b o (a.keep b o e nz ny nt) (fun h => (hz b h).elim nz fun q => by rw [e] at q; cases q) (fun h => (hy b h).elim ny fun q => by rw [e] at q; cases q) nt
  dom := fun b n => c.dom b (a.dom b n)
  src := fun b h => by
    obtain ⟨o, e, s⟩ := a.src b h
    obtain ⟨o0, e0, _⟩ := hB.zs b h
    by_cases h' : z' b
    · exact c.src b h'
    · exact ⟨o, c.keep b o e h' (fun h2 => (hy b h2).elim (hB.zy b h) fun q => by rw [e0] at q; cases q) (fun ht => tab_nots (a.tab b ht) e s), S.mono _ _ _ c.ex s⟩

/-- a slot of a frame, told over data -/
inductive Sl where
  | un
  | v (d : PyData)
  | own (ds : List PyData)
  | brw (ds : List PyData)
  | src
  | exc (a : Addr) (c : Value)
  | fz (ds : List PyData)
def Sl.mut : Sl → Bool
  | .own _ => true
  | .brw _ => true
  | .src => true
  | _ => false
def SlOk (K : PySem.W.Frag) (S : Src) (B : Bs) (N H : Hp) : Sl → Option V → Prop
  | .un, _ => True
  | .v d, x => ∃ v, x = some v ∧ Rp K N v d
  | .own ds, x => ∃ a vs, x = some (.ref a) ∧ H a = some (.lst vs) ∧ RpAll K N vs ds ∧ N a = none ∧ B.H a = none
  | .brw ds, x => ∃ a vs, x = some (.ref a) ∧ H a = some (.lst vs) ∧ RpAll K N vs ds ∧ N a = none ∧ B.y a
  | .src, x => ∃ a o, x = some (.ref a) ∧ H a = some o ∧ S.ok N o ∧ N a = none ∧ (B.z a ∨ B.H a = none)
  | .exc a _, x => x = some (.ref a)
  | .fz ds, x => ∃ a vs, x = some (.ref a) ∧ SqL K N a vs ∧ RpAll K N vs ds
structure Rel (K : PySem.W.Frag) (S : Src) (B : Bs) (N H : Hp) (σ : St) (ρ : List Sl) : Prop where
  b : B.Ok S
  ext : Ext S B N H
  len : σ.length = ρ.length
  ok : ∀ (i : Nat) (s : Sl), ρ[i]? = some s → ∃ x, σ[i]? = some x ∧ SlOk K S B N H s x
  sep : ∀ (i j : Nat) (s t : Sl) (a : Addr), i ≠ j → ρ[i]? = some s → ρ[j]? = some t → s.mut = true → t.mut = true → σ[i]? = some (some (.ref a)) → σ[j]? = some (some (.ref a)) → False
section
variable {K : PySem.W.Frag} {S : Src} {B : Bs} {N H N' H' : Hp} {σ : St} {ρ : List Sl}
theorem Rel.sub (R : Rel K S B N H σ ρ) : Ex N H := R.ext.sub
/-- all that stood stands -/
theorem Rel.grow (R : Rel K S B N H σ ρ) (e1 : Ex N N') (e2 : Ex N' H') (fr : ∀ b, N b = none → H b ≠ none → N' b = none) (k : Ex H H') : Rel K S B N' H' σ ρ where
  b := R.b
  ext := ⟨R.ext.ex.trans e1, e2, fun b h n => fr b (R.ext.fr b h n) (R.ext.dom b n), fun b o h nz ny nt => k b o (R.ext.keep b o h nz ny nt), fun b n => by
    have := R.ext.dom b n
    cases q : H b with
    | none => exact absurd q this
    | some o =>
      rw [k b o q]
      exact nofun, fun b h => by
    obtain ⟨o, q, s⟩ := R.ext.src b h
    exact ⟨o, k b o q, S.mono _ _ _ e1 s⟩, R.ext.fl.trans e1, fun b h => let ⟨ps, q, t⟩ := R.ext.tab b h; ⟨ps, k b _ q, t⟩⟩
  len := R.len
  sep := R.sep
  ok := fun i s h => by
    obtain ⟨x, e, q⟩ := R.ok i s h
    refine ⟨x, e, ?_⟩
    cases s with
    | un => trivial
    | v d => obtain ⟨v, e, r⟩ := q; exact ⟨v, e, r.up e1⟩
    | own ds =>
      obtain ⟨a, vs, e, h1, h2, h3, h4⟩ := q
      exact ⟨a, vs, e, k _ _ h1, h2.up e1, fr a h3 (by rw [h1]; exact nofun), h4⟩
    | brw ds =>
      obtain ⟨a, vs, e, h1, h2, h3, h4⟩ := q
      exact ⟨a, vs, e, k _ _ h1, h2.up e1, fr a h3 (by rw [h1]; exact nofun), h4⟩
    | src =>
      obtain ⟨a, o, e, h1, h2, h3, h4⟩ := q
      exact ⟨a, o, e, k _ _ h1, S.mono _ _ _ e1 h2, fr a h3 (by rw [h1]; exact nofun), h4⟩
    | exc a c => exact q
    | fz ds => obtain ⟨a, vs, e, h1, h2⟩ := q; exact ⟨a, vs, e, ex_l e1 h1, h2.up e1⟩
theorem Rel.newM {p : Addr} {o : HO} (R : Rel K S B N H σ ρ) (h : H p = none) : Rel K S B (upd N p o) (upd H p o) σ ρ :=
  R.grow (Ex.new (R.sub.none h)) (R.sub.upd2 h) (fun b e n => by
    unfold upd
    rw [if_neg (fun z => by rw [z] at n; exact n h)]
    exact e) (Ex.new h)
theorem Rel.newH {p : Addr} {o : HO} (R : Rel K S B N H σ ρ) (h : H p = none) : Rel K S B N (upd H p o) σ ρ :=
  R.grow (Ex.refl _) (R.sub.trans (Ex.new h)) (fun _ e _ => e) (Ex.new h)
theorem Rel.fresh (R : Rel K S B N H σ ρ) {p : Addr} (h : H p = none) : B.H p = none := by
  cases q : B.H p with
  | none => rfl
  | some o => exact absurd h (R.ext.dom p (by rw [q]; exact nofun))
/-- no slot of ours that may change holds a new address -/
def Away (σ : St) (ρ : List Sl) (a : Addr) : Prop := ∀ (j : Nat) (s : Sl), ρ[j]? = some s → s.mut = true → σ[j]? ≠ some (some (.ref a))
theorem Rel.away (R : Rel K S B N H σ ρ) {p : Addr} (h : H p = none) : Away σ ρ p := fun j s e m q => by
  obtain ⟨x, ex, ok⟩ := R.ok j s e
  cases s with
  | own ds =>
    obtain ⟨a, vs, e2, h1, _⟩ := ok
    rw [q] at ex
    cases ex
    cases e2
    rw [h] at h1
    cases h1
  | brw ds =>
    obtain ⟨a, vs, e2, h1, _⟩ := ok
    rw [q] at ex
    cases ex
    cases e2
    rw [h] at h1
    cases h1
  | src =>
    obtain ⟨a, o, e2, h1, _⟩ := ok
    rw [q] at ex
    cases ex
    cases e2
    rw [h] at h1
    cases h1
  | _ => cases m
theorem get_set_cases {α : Type} {l : List α} {i j : Nat} {x y : α} (h : (l.set i x)[j]? = some y) : (j = i ∧ y = x ∧ i < l.length) ∨ (j ≠ i ∧ l[j]? = some y) := by
  by_cases e : j = i
  · subst e
    by_cases hl : j < l.length
    · rw [List.getElem?_set_self hl] at h
      exact .inl ⟨rfl, (Option.some.inj h).symm, hl⟩
    · rw [List.getElem?_eq_none (by simpa using hl)] at h
      cases h
  · rw [List.getElem?_set_ne (Ne.symm e)] at h
    exact .inr ⟨e, h⟩
/-- a slot is stored -/
theorem Rel.set {i : Nat} {x : Option V} {s : Sl} (R : Rel K S B N H σ ρ) (ok : SlOk K S B N H s x) (aw : s.mut = true → ∀ a, x = some (.ref a) → ∀ (j : Nat) (t : Sl), j ≠ i → ρ[j]? = some t → t.mut = true → σ[j]? ≠ some (some (.ref a))) :
    Rel K S B N H (σ.set i x) (ρ.set i s) where
  b := R.b
  ext := R.ext
  len := by rw [List.length_set, List.length_set]; exact R.len
  ok := fun j t h => by
    rcases get_set_cases h with ⟨rfl, rfl, hl⟩ | ⟨ne, h⟩
    · exact ⟨x, List.getElem?_set_self (by rw [R.len]; exact hl), ok⟩
    · obtain ⟨y, e, q⟩ := R.ok j t h
      exact ⟨y, by rw [List.getElem?_set_ne (Ne.symm ne)]; exact e, q⟩
  sep := fun j k t u a ne h1 h2 m1 m2 e1 e2 => by
    rcases get_set_cases h1 with ⟨rfl, rfl, hl⟩ | ⟨n1, h1⟩
    · rcases get_set_cases h2 with ⟨rfl, rfl, _⟩ | ⟨n2, h2⟩
      · exact ne rfl
      · rw [List.getElem?_set_self (by rw [R.len]; exact hl)] at e1
        rw [List.getElem?_set_ne (Ne.symm n2)] at e2
        exact aw m1 a (Option.some.inj e1) k u n2 h2 m2 e2
    · rcases get_set_cases h2 with ⟨rfl, rfl, hl⟩ | ⟨n2, h2⟩
      · rw [List.getElem?_set_self (by rw [R.len]; exact hl)] at e2
        rw [List.getElem?_set_ne ne.symm] at e1
        rw [List.getElem?_set_ne ne.symm] at h1
        exact aw m2 a (Option.some.inj e2) j t ne h1 m1 e1
      · rw [List.getElem?_set_ne (Ne.symm n1)] at e1
        rw [List.getElem?_set_ne (Ne.symm n2)] at e2
        exact R.sep j k t u a ne h1 h2 m1 m2 e1 e2
theorem Rel.setV {i : Nat} {v : V} {d : PyData} (R : Rel K S B N H σ ρ) (r : Rp K N v d) : Rel K S B N H (σ.set i (some v)) (ρ.set i (.v d)) :=
  R.set ⟨v, rfl, r⟩ fun m => by cases m
theorem Rel.setU {i : Nat} {x : Option V} (R : Rel K S B N H σ ρ) : Rel K S B N H (σ.set i x) (ρ.set i .un) := R.set trivial fun m => by cases m
/-- a list of ours is from now on known for good -/
theorem Rel.freeze {i : Nat} {ds : List PyData} (R : Rel K S B N H σ ρ) (h : ρ[i]? = some (.own ds)) : ∃ a vs, σ[i]? = some (some (.ref a)) ∧ H a = some (.lst vs) ∧ N a = none ∧ Ex N (upd N a (.lst vs)) ∧ Rp K (upd N a (.lst vs)) (.ref a) (.list ds) ∧
    Rel K S B (upd N a (.lst vs)) H σ (ρ.set i (.v (.list ds))) := by
  obtain ⟨x, ex, a, vs, rfl, h1, h2, h3, h4⟩ := R.ok i _ h
  have e1 : Ex N (upd N a (.lst vs)) := Ex.new h3
  have e2 : Ex (upd N a (.lst vs)) H := fun b o q => by
    unfold upd at q
    split at q
    · rename_i hb
      subst hb
      cases q
      exact h1
    · exact R.sub b o q
  have rp : Rp K (upd N a (.lst vs)) (.ref a) (.list ds) := .lst upd_same (h2.up e1)
  refine ⟨a, vs, ex, h1, h3, e1, rp, ?_⟩
  have hBa : B.H a = none := h4
  refine ⟨R.b, ⟨R.ext.ex.trans e1, e2, fun b q n => ?_, R.ext.keep, R.ext.dom, fun b q => ?_, R.ext.fl.trans e1, R.ext.tab⟩, by rw [List.length_set]; exact R.len, fun j t ht => ?_, fun j k t u c ne g1 g2 m1 m2 e1 e2 => ?_⟩
  · unfold upd
    rw [if_neg (fun z => by rw [z] at n; exact n hBa)]
    exact R.ext.fr b q n
  · obtain ⟨o, g1, g2⟩ := R.ext.src b q
    exact ⟨o, g1, S.mono _ _ _ e1 g2⟩
  · rcases get_set_cases ht with ⟨rfl, rfl, hl⟩ | ⟨ne, ht⟩
    · exact ⟨_, ex, _, rfl, rp⟩
    · obtain ⟨y, ey, q⟩ := R.ok j t ht
      refine ⟨y, ey, ?_⟩
      have na : t.mut = true → ∀ c, y = some (.ref c) → c ≠ a := fun m c hc z => by
        subst hc
        subst z
        exact R.sep j i t _ _ ne ht h m rfl ey ex
      cases t with
      | un => trivial
      | v d => obtain ⟨v, e, r⟩ := q; exact ⟨v, e, r.up e1⟩
      | own es =>
        obtain ⟨c, ws, hy, g1, g2, g3, g4⟩ := q
        exact ⟨c, ws, hy, g1, g2.up e1, by rw [upd_ne (na rfl c hy)]; exact g3, g4⟩
      | brw es =>
        obtain ⟨c, ws, hy, g1, g2, g3, g4⟩ := q
        exact ⟨c, ws, hy, g1, g2.up e1, by rw [upd_ne (na rfl c hy)]; exact g3, g4⟩
      | src =>
        obtain ⟨c, o, hy, g1, g2, g3, g4⟩ := q
        exact ⟨c, o, hy, g1, S.mono _ _ _ e1 g2, by rw [upd_ne (na rfl c hy)]; exact g3, g4⟩
      | exc c v => exact q
      | fz ds => obtain ⟨a, vs, e, h1, h2⟩ := q; exact ⟨a, vs, e, ex_l e1 h1, h2.up e1⟩
  · rcases get_set_cases g1 with ⟨rfl, rfl, hl⟩ | ⟨n1, g1⟩
    · cases m1
    · rcases get_set_cases g2 with ⟨rfl, rfl, hl⟩ | ⟨n2, g2⟩
      · cases m2
      · exact R.sep j k t u c ne g1 g2 m1 m2 e1 e2
/-- the floor is raised to what is known now -/
def Bs.at (B : Bs) (N : Hp) : Bs := { B with L := N }
theorem SlOk.raise {s : Sl} {x : Option V} {L : Hp} (h : SlOk K S B N H s x) : SlOk K S (B.at L) N H s x := by
  cases s <;> exact h
theorem SlOk.lower {s : Sl} {x : Option V} {L : Hp} (h : SlOk K S (B.at L) N H s x) : SlOk K S B N H s x := by
  cases s <;> exact h
theorem Ext.lower {L : Hp} (e : Ex B.L L) (x : Ext S (B.at L) N H) : Ext S B N H := ⟨x.ex, x.sub, x.fr, x.keep, x.dom, x.src, e.trans x.fl, x.tab⟩
theorem Bs.Ok.raise {L : Hp} (h : B.Ok S) : (B.at L).Ok S := ⟨h.sub, h.zM, h.yM, h.yH, h.zs, h.zy, h.tM, h.tH⟩
theorem Bs.Ok.lower {L : Hp} (h : (B.at L).Ok S) : B.Ok S := ⟨h.sub, h.zM, h.yM, h.yH, h.zs, h.zy, h.tM, h.tH⟩
theorem Rel.raise {L : Hp} (R : Rel K S B N H σ ρ) (e : Ex L N) : Rel K S (B.at L) N H σ ρ where
  b := R.b.raise
  ext := ⟨R.ext.ex, R.ext.sub, R.ext.fr, R.ext.keep, R.ext.dom, R.ext.src, e, R.ext.tab⟩
  len := R.len
  sep := R.sep
  ok := fun i s h => let ⟨x, e, q⟩ := R.ok i s h; ⟨x, e, q.raise⟩
theorem Rel.lower {L : Hp} (e : Ex B.L L) (R : Rel K S (B.at L) N H σ ρ) : Rel K S B N H σ ρ where
  b := R.b.lower
  ext := R.ext.lower e
  len := R.len
  sep := R.sep
  ok := fun i s h => let ⟨x, e, q⟩ := R.ok i s h; ⟨x, e, q.lower⟩
theorem Rel.tN (R : Rel K S B N H σ ρ) {P : Addr} (h : S.tb P) : N P = none := R.ext.fr P (R.b.tM P h) (by
  obtain ⟨ps, q, _⟩ := R.b.tH P h
  rw [q]
  exact nofun)
/-- a table has grown -/
theorem Rel.tabbed {P : Addr} (R : Rel K S B N H σ ρ) (hP : S.tb P) (t : Tabbed P H H') : Rel K S B N H' σ ρ where
  b := R.b
  len := R.len
  sep := R.sep
  ext := ⟨R.ext.ex, fun b o q => by rw [t.2 b (fun z => by rw [z, R.tN hP] at q; cases q)]; exact R.sub b o q, R.ext.fr, fun b o e nz ny nt => by rw [t.2 b (fun z => nt (z ▸ hP))]; exact R.ext.keep b o e nz ny nt, fun b n => by
    by_cases hb : b = P
    · obtain ⟨ps, q, _⟩ := t.1
      rw [hb, q]
      exact nofun
    · rw [t.2 b hb]
      exact R.ext.dom b n, fun b q => by
    obtain ⟨o, g1, g2⟩ := R.ext.src b q
    exact ⟨o, by rw [t.2 b (fun z => tab_nots (R.ext.tab b (z ▸ hP)) g1 g2)]; exact g1, g2⟩, R.ext.fl, fun b q => by
    by_cases hb : b = P
    · rw [hb]; exact t.1
    · obtain ⟨ps, g1, g2⟩ := R.ext.tab b q
      exact ⟨ps, by rw [t.2 b hb]; exact g1, g2⟩⟩
  ok := fun i s h => by
    obtain ⟨x, e, q⟩ := R.ok i s h
    refine ⟨x, e, ?_⟩
    have tP := R.ext.tab P hP
    cases s with
    | un => trivial
    | v d => exact q
    | own ds =>
      obtain ⟨a, vs, e, h1, h2⟩ := q
      exact ⟨a, vs, e, by rw [t.2 a (fun z => tab_not tP (z ▸ h1) (fun ps z => by cases z))]; exact h1, h2⟩
    | brw ds =>
      obtain ⟨a, vs, e, h1, h2⟩ := q
      exact ⟨a, vs, e, by rw [t.2 a (fun z => tab_not tP (z ▸ h1) (fun ps z => by cases z))]; exact h1, h2⟩
    | src =>
      obtain ⟨a, o, e, h1, h2, h3⟩ := q
      exact ⟨a, o, e, by rw [t.2 a (fun z => tab_nots tP (z ▸ h1) h2)]; exact h1, h2, h3⟩
    | exc a c => exact q
    | fz ds => exact q
end
end PD

set_option Elab.async false
set_option linter.all false
set_option maxRecDepth 100000
/-! Expressions told over data. -/
namespace PD
open PySem L2 GxR

abbrev PWh := Value → List Sl → Prop
/-- what comes back: a datum, a new list of ours, a source of draws -/
inductive Rt where
  | v (d : PyData)
  | own (ds : List PyData)
  | src
abbrev PKe := PyData → List Sl → Prop
abbrev PTE := PWh → List Sl → PKe → Prop
abbrev PTR := PWh → List Sl → (Rt → List Sl → Prop) → Prop
abbrev PTT := PWh → List Sl → (Bool → List Sl → Prop) → Prop
abbrev PTA := PWh → List Sl → (List PyData → List Sl → Prop) → Prop
def ROk (K : PySem.W.Frag) (S : Src) (B : Bs) (N H : Hp) (σ : St) (ρ : List Sl) (v : V) : Rt → Prop
  | .v d => Rp K N v d
  | .own ds => ∃ a vs, v = .ref a ∧ H a = some (.lst vs) ∧ RpAll K N vs ds ∧ N a = none ∧ B.H a = none ∧ Away σ ρ a
  | .src => ∃ a o, v = .ref a ∧ H a = some o ∧ S.ok N o ∧ N a = none ∧ B.H a = none ∧ Away σ ρ a
def WOk (K : PySem.W.Frag) (S : Src) (B : Bs) (σ : St) (W : WX) (wp : PWh) : Prop := ∀ c N H ρ, Rel K S B N H σ ρ → wp c ρ → W c none σ H
def SimE (K : PySem.W.Frag) (S : Src) (te : WX → TE) (p : PTE) : Prop := ∀ (W : WX) (wp : PWh) (B : Bs) (N H : Hp) (σ : St) (ρ : List Sl) (Q : VK) (Q' : PKe), Rel K S B N H σ ρ → WOk K S B σ W wp → p wp ρ Q' →
  (∀ N' H' v d ρ', Rel K S B N' H' σ ρ' → Ex N N' → Rp K N' v d → Q' d ρ' → Q v H') → te W σ H Q
def SimR (K : PySem.W.Frag) (S : Src) (te : WX → TE) (p : PTR) : Prop := ∀ (W : WX) (wp : PWh) (B : Bs) (N H : Hp) (σ : St) (ρ : List Sl) (Q : VK) (Q' : Rt → List Sl → Prop), Rel K S B N H σ ρ → WOk K S B σ W wp → p wp ρ Q' →
  (∀ N' H' v r ρ', Rel K S B N' H' σ ρ' → Ex N N' → ROk K S B N' H' σ ρ' v r → Q' r ρ' → Q v H') → te W σ H Q
def SimT (K : PySem.W.Frag) (S : Src) (te : WX → TT) (p : PTT) : Prop := ∀ (W : WX) (wp : PWh) (B : Bs) (N H : Hp) (σ : St) (ρ : List Sl) (Q : Bool → Hp → Prop) (Q' : Bool → List Sl → Prop), Rel K S B N H σ ρ → WOk K S B σ W wp → p wp ρ Q' →
  (∀ N' H' b ρ', Rel K S B N' H' σ ρ' → Ex N N' → Q' b ρ' → Q b H') → te W σ H Q
def SimA (K : PySem.W.Frag) (S : Src) (te : WX → TA) (p : PTA) : Prop := ∀ (W : WX) (wp : PWh) (B : Bs) (N H : Hp) (σ : St) (ρ : List Sl) (Q : List V → Hp → Prop) (Q' : List PyData → List Sl → Prop), Rel K S B N H σ ρ → WOk K S B σ W wp → p wp ρ Q' →
  (∀ N' H' vs ds ρ', Rel K S B N' H' σ ρ' → Ex N N' → RpAll K N' vs ds → Q' ds ρ' → Q vs H') → te W σ H Q
def JE (S : Src) (X : Cx) (e : Expr) (p : PTE) : Prop := ∃ te : WX → TE, (∀ W, Takes X W → PE X e (te W)) ∧ SimE X.K S te p
def JR (S : Src) (X : Cx) (e : Expr) (p : PTR) : Prop := ∃ te : WX → TE, (∀ W, Takes X W → PE X e (te W)) ∧ SimR X.K S te p
def JT (S : Src) (X : Cx) (e : Expr) (p : PTT) : Prop := ∃ te : WX → TT, (∀ W, Takes X W → PT X e (te W)) ∧ SimT X.K S te p
def JW (S : Src) (X : Cx) (e : Expr) (p : PTT) : Prop := ∃ te : WX → TT, (∀ W, Takes X W → PW X e (te W)) ∧ SimT X.K S te p
def JA (S : Src) (X : Cx) (es : List Expr) (p : PTA) : Prop := ∃ te : WX → TA, (∀ W, Takes X W → PA X es (te W)) ∧ SimA X.K S te p

section
variable {S : Src} {X : Cx} {e a b c : Expr} {es : List Expr} {pos : Pos} {pa pb pc : PTE}

/-! ### from one to the other -/
def pRE (p : PTR) : PTE := fun wp ρ Q => p wp ρ fun r ρ1 => match r with
  | .v d => Q d ρ1
  | .own ds => Q (.list ds) ρ1
  | .src => False
theorem Rel.own_known {K : PySem.W.Frag} {B : Bs} {N H : Hp} {σ : St} {ρ : List Sl} {a : Addr} {vs : List V} (R : Rel K S B N H σ ρ) (h1 : H a = some (.lst vs)) (h3 : N a = none) (h4 : B.H a = none) (aw : Away σ ρ a) :
    Rel K S B (upd N a (.lst vs)) H σ ρ := by
  have e1 : Ex N (upd N a (.lst vs)) := Ex.new h3
  have e2 : Ex (upd N a (.lst vs)) H := fun b o q => by
    unfold upd at q
    split at q
    · rename_i hb
      subst hb
      cases q
      exact h1
    · exact R.sub b o q
  refine ⟨R.b, ⟨R.ext.ex.trans e1, e2, fun b q n => ?_, R.ext.keep, R.ext.dom, fun b q => ?_, R.ext.fl.trans e1, R.ext.tab⟩, R.len, fun j t ht => ?_, R.sep⟩
  · unfold upd
    rw [if_neg (fun z => by rw [z] at n; exact n h4)]
    exact R.ext.fr b q n
  · obtain ⟨o, g1, g2⟩ := R.ext.src b q
    exact ⟨o, g1, S.mono _ _ _ e1 g2⟩
  · obtain ⟨y, ey, q⟩ := R.ok j t ht
    refine ⟨y, ey, ?_⟩
    have na : t.mut = true → ∀ c, y = some (.ref c) → c ≠ a := fun m c hc z => by
      subst hc
      subst z
      exact aw j t ht m ey
    cases t with
    | un => trivial
    | v d => obtain ⟨v, e, r⟩ := q; exact ⟨v, e, r.up e1⟩
    | own es =>
      obtain ⟨c, ws, hy, g1, g2, g3, g4⟩ := q
      exact ⟨c, ws, hy, g1, g2.up e1, by rw [upd_ne (na rfl c hy)]; exact g3, g4⟩
    | brw es =>
      obtain ⟨c, ws, hy, g1, g2, g3, g4⟩ := q
      exact ⟨c, ws, hy, g1, g2.up e1, by rw [upd_ne (na rfl c hy)]; exact g3, g4⟩
    | src =>
      obtain ⟨c, o, hy, g1, g2, g3, g4⟩ := q
      exact ⟨c, o, hy, g1, S.mono _ _ _ e1 g2, by rw [upd_ne (na rfl c hy)]; exact g3, g4⟩
    | exc c v => exact q
    | fz ds => obtain ⟨a, vs, e, h1, h2⟩ := q; exact ⟨a, vs, e, ex_l e1 h1, h2.up e1⟩
theorem je_of {p : PTR} (h : JR S X e p) : JE S X e (pRE p) := by
  obtain ⟨te, h1, h2⟩ := h
  refine ⟨te, h1, fun W wp B N H σ ρ Q Q' R hw q k => h2 W wp B N H σ ρ Q _ R hw q fun N' H' v r ρ' R' e1 ok q' => ?_⟩
  cases r with
  | v d => exact k N' H' v d ρ' R' e1 ok q'
  | own ds =>
    obtain ⟨a, vs, rfl, g1, g2, g3, g4, g5⟩ := ok
    have e2 : Ex N' (upd N' a (.lst vs)) := Ex.new g3
    exact k _ H' _ _ ρ' (R'.own_known g1 g3 g4 g5) (e1.trans e2) (.lst upd_same (g2.up e2)) q'
  | src => exact q'.elim
def pER (p : PTE) : PTR := fun wp ρ Q => p wp ρ fun d ρ1 => Q (.v d) ρ1
theorem jr_of (h : JE S X e pa) : JR S X e (pER pa) := by
  obtain ⟨te, h1, h2⟩ := h
  exact ⟨te, h1, fun W wp B N H σ ρ Q Q' R hw q k => h2 W wp B N H σ ρ Q _ R hw q fun N' H' v d ρ' R' e1 r q' => k N' H' v (.v d) ρ' R' e1 r q'⟩

/-! ### names, constants -/
def pC (d : PyData) : PTE := fun _ ρ Q => Q d ρ
theorem je_c {v : V} {d : PyData} (h : PE X e (tC v)) (r : ∀ M, Rp X.K M v d) : JE S X e (pC d) :=
  ⟨fun _ => tC v, fun _ _ => h, fun W wp B N H σ ρ Q Q' R hw q k => k N H v d ρ R (Ex.refl _) (r N) q⟩
theorem je_int {i : Int} {j : Nat} : JE S X (.Constant (.int i) j pos) (pC (.int i)) := je_c pe_int fun _ => .int i
theorem je_bool {i : Bool} {j : Nat} : JE S X (.Constant (.bool i) j pos) (pC (.bool i)) := je_c pe_bl fun _ => .bl i
theorem je_none {j : Nat} : JE S X (.Constant .none j pos) (pC .none) := je_c pe_non fun _ => .non
theorem je_str {i : Str} {j : Nat} : JE S X (.Constant (.str i) j pos) (pC (.str i)) := je_c pe_str fun _ => .str i
theorem je_glob {x : Str} {v : V} {u : Value} {d : PyData} (hg : Gl X x) (hm : X.mg x = some u) (r : RelV v u) (hd : ∀ M, Rp X.K M v d) (hdb : (x == ("__debug__" : Str)) = false := by decide) : JE S X (.Name x pos) (pC d) := je_c (pe_glob hg hm r hdb) hd
/-- a name: its datum; a list of ours is known for good from here on -/
def pName (i : Nat) : PTE := fun _ ρ Q => match ρ[i]? with
  | some (.v d) => Q d ρ
  | some (.own ds) => Q (.list ds) (ρ.set i (.v (.list ds)))
  | _ => False
theorem je_name (i : Nat) {x : Str} (hN : X.N[i]? = some x := by rfl) (hv : Vis X.env.scope x := by first | exact Or.inl rfl | exact Or.inr (Or.inl rfl) | exact Or.inr (Or.inr rfl)) (hd : (x == ("__debug__" : Str)) = false := by decide)
    (hcd : (x == ("__classdict__" : Str)) = false := by decide) : JE S X (.Name x pos) (pName i) := by
  refine ⟨fun _ => tVar i, fun _ _ => pv i hN hv hd hcd, fun W wp B N H σ ρ Q Q' R hw q k => ?_⟩
  unfold pName at q
  split at q
  · rename_i d h
    obtain ⟨x, ex, v, rfl, r⟩ := R.ok i _ h
    exact ⟨v, ex, k N H v d ρ R (Ex.refl _) r q⟩
  · rename_i ds h
    obtain ⟨a, vs, ex, h1, h3, e1, rp, R2⟩ := R.freeze h
    exact ⟨.ref a, ex, k _ H _ _ _ R2 e1 rp q⟩
  · exact q.elim

/-! ### operators -/
abbrev G2 := PyData → PyData → (PyData → Prop) → Prop
def R2S (K : PySem.W.Frag) (S : Src) (r : R2) (g : G2) : Prop := ∀ (B : Bs) (N H : Hp) (σ : St) (ρ : List Sl) (x y : V) (dx dy : PyData) (Q : VK) (Q' : PyData → Prop), Rel K S B N H σ ρ → Rp K N x dx → Rp K N y dy → g dx dy Q' →
  (∀ N' H' v d, Rel K S B N' H' σ ρ → Ex N N' → Rp K N' v d → Q' d → Q v H') → r x y H Q
def pBin (g : G2) (pa pb : PTE) : PTE := fun wp ρ Q => pa wp ρ fun dx ρ1 => pb wp ρ1 fun dy ρ2 => g dx dy fun d => Q d ρ2
theorem sim_op {K : PySem.W.Frag} {r : R2} {g : G2} {ta tb : WX → TE} (hr : R2S K S r g) (ha : SimE K S ta pa) (hb : SimE K S tb pb) : SimE K S (fun W => tOp r (ta W) (tb W)) (pBin g pa pb) :=
  fun W wp B N H σ ρ Q Q' R hw q k => ha W wp B N H σ ρ _ _ R hw q fun N1 H1 x dx ρ1 R1 e1 r1 q1 => hb W wp B N1 H1 σ ρ1 _ _ R1 hw q1 fun N2 H2 y dy ρ2 R2 e2 r2 q2 =>
    hr B N2 H2 σ ρ2 x y dx dy _ _ R2 (r1.up e2) r2 q2 fun N3 H3 v d R3 e3 r3 q3 => k N3 H3 v d ρ2 R3 ((e1.trans e2).trans e3) r3 q3
theorem je_op {op : Operator} {r : R2} {g : G2} (ho : OpR X (binaryOp op) r) (hr : R2S X.K S r g) (ha : JE S X a pa) (hb : JE S X b pb) : JE S X (.BinOp a op b pos) (pBin g pa pb) := by
  obtain ⟨ta, a1, a2⟩ := ha
  obtain ⟨tb, b1, b2⟩ := hb
  exact ⟨fun W => tOp r (ta W) (tb W), fun W h => pe_op ho (a1 W h) (b1 W h), sim_op hr a2 b2⟩
theorem je_cmp {op : CmpOp} {r : R2} {g : G2} (ho : OpR X (compareOp op) r) (hr : R2S X.K S r g) (ha : JE S X a pa) (hb : JE S X b pb) (hm : behindInMarks op b = false := by rfl) : JE S X (.Compare a [op] [b] pos) (pBin g pa pb) := by
  obtain ⟨ta, a1, a2⟩ := ha
  obtain ⟨tb, b1, b2⟩ := hb
  exact ⟨fun W => tOp r (ta W) (tb W), fun W h => pe_cmpR ho (a1 W h) (b1 W h) hm, sim_op hr a2 b2⟩
/-- a value that is a bool, as a test -/
def pTest (p : PTE) : PTT := fun wp ρ Q => p wp ρ fun d ρ1 => match d with
  | .bool k => Q k ρ1
  | _ => False
theorem sim_test {K : PySem.W.Frag} {ta : WX → TE} (ha : SimE K S ta pa) : SimT K S (fun W => tTest (ta W)) (pTest pa) := fun W wp B N H σ ρ Q Q' R hw q k =>
  ha W wp B N H σ ρ _ _ R hw q fun N1 H1 x dx ρ1 R1 e1 r1 q1 => by
    cases r1 with
    | bl c => exact ⟨c, rfl, k N1 H1 c ρ1 R1 e1 q1⟩
    | _ => exact q1.elim
theorem jt_cmp {op : CmpOp} {r : R2} {g : G2} (ho : OpR X (compareOp op) r) (hr : R2S X.K S r g) (ha : JE S X a pa) (hb : JE S X b pb) (hm : behindInMarks op b = false := by rfl) : JT S X (.Compare a [op] [b] pos) (pTest (pBin g pa pb)) := by
  obtain ⟨ta, a1, a2⟩ := ha
  obtain ⟨tb, b1, b2⟩ := hb
  exact ⟨fun W => tTest (tOp r (ta W) (tb W)), fun W h => pt_cmpR ho (a1 W h) (b1 W h) hm, sim_test (sim_op hr a2 b2)⟩
theorem jt_val (ha : JE S X a pa) (he : ∀ whole, isTrue a X.env whole = (do let v ← whole; standAt a.pos; holding [v] (truthy v)) := by intro _; rfl) : JT S X a (pTest pa) := by
  obtain ⟨ta, a1, a2⟩ := ha
  exact ⟨fun W => tB (ta W), fun W h => pt_val (a1 W h) he, sim_test a2⟩
/-- the truth of a datum -/
def truD : PyData → Bool
  | .none => false
  | .bool k => k
  | .int i => i != 0
  | .str x => (x.length : Int) != 0
  | .list ds => !ds.isEmpty
  | .tuple ds => !ds.isEmpty
  | .dict _ => false
def strFit : PyData → Prop
  | .str x => x.length ≤ sizeLine
  | _ => True
def pTru (p : PTE) : PTT := fun wp ρ Q => p wp ρ fun d ρ1 => strFit d ∧ Q (truD d) ρ1
theorem isEmpty_all {K : PySem.W.Frag} {M : Hp} {vs : List V} {ds : List PyData} (h : RpAll K M vs ds) : vs.isEmpty = ds.isEmpty := by
  cases h <;> rfl
theorem Rp.tru {K : PySem.W.Frag} {N H : Hp} (e : Ex N H) {v : V} {d : PyData} (r : Rp K N v d) (f : strFit d) : TruV K v H (truD d) := by
  cases r with
  | non => rfl
  | bl b => rfl
  | int i => rfl
  | str x => exact ⟨f, rfl⟩
  | lst h1 h2 => exact .inl ⟨_, .inl (.inl (e _ _ h1)), by rw [isEmpty_all h2]; rfl⟩
  | tup h1 h2 => exact .inr (.inl ⟨_, ex_t e h1, by rw [isEmpty_all h2]; rfl⟩)
theorem jt_truth (ha : JE S X a pa) (he : ∀ whole, isTrue a X.env whole = (do let v ← whole; standAt a.pos; holding [v] (truthy v)) := by intro _; rfl) : JT S X a (pTru pa) := by
  obtain ⟨ta, a1, a2⟩ := ha
  refine ⟨fun W σ H Q => ta W σ H fun x H' => ∃ k, TruV X.K x H' k ∧ Q k H', fun W h => pt_truth (a1 W h) he, fun W wp B N H σ ρ Q Q' R hw q k => a2 W wp B N H σ ρ _ _ R hw q fun N1 H1 x dx ρ1 R1 e1 r1 q1 => ?_⟩
  exact ⟨_, r1.tru R1.sub q1.1, k N1 H1 _ ρ1 R1 e1 q1.2⟩

/-! ### and, or, not, if -/
def pAnd (p q : PTT) : PTT := fun wp ρ Q => p wp ρ fun k ρ1 => if k = true then q wp ρ1 Q else Q false ρ1
def pOr (p q : PTT) : PTT := fun wp ρ Q => p wp ρ fun k ρ1 => if k = true then Q true ρ1 else q wp ρ1 Q
def pNot (p : PTT) : PTT := fun wp ρ Q => p wp ρ fun k ρ1 => Q (!k) ρ1
variable {qa qb : PTT} {rest : List Expr}
theorem sim_and {K : PySem.W.Frag} {ta tb : WX → TT} (ha : SimT K S ta qa) (hb : SimT K S tb qb) : SimT K S (fun W => tAnd (ta W) (tb W)) (pAnd qa qb) := fun W wp B N H σ ρ Q Q' R hw q k =>
  ha W wp B N H σ ρ _ _ R hw q fun N1 H1 c ρ1 R1 e1 q1 => by
    cases c with
    | true => rw [if_pos rfl] at q1 ⊢; exact hb W wp B N1 H1 σ ρ1 _ _ R1 hw q1 fun N2 H2 c ρ2 R2 e2 q2 => k N2 H2 c ρ2 R2 (e1.trans e2) q2
    | false => rw [if_neg Bool.false_ne_true] at q1 ⊢; exact k N1 H1 _ ρ1 R1 e1 q1
theorem sim_or {K : PySem.W.Frag} {ta tb : WX → TT} (ha : SimT K S ta qa) (hb : SimT K S tb qb) : SimT K S (fun W => tOr (ta W) (tb W)) (pOr qa qb) := fun W wp B N H σ ρ Q Q' R hw q k =>
  ha W wp B N H σ ρ _ _ R hw q fun N1 H1 c ρ1 R1 e1 q1 => by
    cases c with
    | true => rw [if_pos rfl] at q1 ⊢; exact k N1 H1 _ ρ1 R1 e1 q1
    | false => rw [if_neg Bool.false_ne_true] at q1 ⊢; exact hb W wp B N1 H1 σ ρ1 _ _ R1 hw q1 fun N2 H2 c ρ2 R2 e2 q2 => k N2 H2 c ρ2 R2 (e1.trans e2) q2
theorem jw_pt (h : JW S X e qa) : JT S X e qa := let ⟨t, h1, h2⟩ := h; ⟨t, fun W k => (h1 W k).pt, h2⟩
theorem jw_and1 (ha : JT S X a qa) : JW S X (.BoolOp .And [a] pos) qa := let ⟨t, h1, h2⟩ := ha; ⟨t, fun W k => pw_and1 (h1 W k), h2⟩
theorem jw_or1 (ha : JT S X a qa) : JW S X (.BoolOp .Or [a] pos) qa := let ⟨t, h1, h2⟩ := ha; ⟨t, fun W k => pw_or1 (h1 W k), h2⟩
theorem jw_and (ha : JT S X a qa) (hb : JW S X (.BoolOp .And (b :: rest) pos) qb) : JW S X (.BoolOp .And (a :: b :: rest) pos) (pAnd qa qb) :=
  let ⟨t, h1, h2⟩ := ha; let ⟨u, g1, g2⟩ := hb; ⟨fun W => tAnd (t W) (u W), fun W k => pw_and (h1 W k) (g1 W k), sim_and h2 g2⟩
theorem jw_or (ha : JT S X a qa) (hb : JW S X (.BoolOp .Or (b :: rest) pos) qb) : JW S X (.BoolOp .Or (a :: b :: rest) pos) (pOr qa qb) :=
  let ⟨t, h1, h2⟩ := ha; let ⟨u, g1, g2⟩ := hb; ⟨fun W => tOr (t W) (u W), fun W k => pw_or (h1 W k) (g1 W k), sim_or h2 g2⟩
theorem jt_not (ha : JT S X a qa) : JT S X (.UnaryOp .Not a pos) (pNot qa) :=
  let ⟨t, h1, h2⟩ := ha; ⟨fun W => tNot (t W), fun W k => pt_not (h1 W k), fun W wp B N H σ ρ Q Q' R hw q k => h2 W wp B N H σ ρ _ _ R hw q fun N1 H1 c ρ1 R1 e1 q1 => k N1 H1 _ ρ1 R1 e1 q1⟩
def pAndV (p q : PTE) : PTE := fun wp ρ Q => p wp ρ fun d ρ1 => match d with
  | .bool k => if k = true then q wp ρ1 Q else Q (.bool false) ρ1
  | _ => False
def pOrV (p q : PTE) : PTE := fun wp ρ Q => p wp ρ fun d ρ1 => match d with
  | .bool k => if k = true then Q (.bool true) ρ1 else q wp ρ1 Q
  | _ => False
def pNotV (p : PTE) : PTE := fun wp ρ Q => p wp ρ fun d ρ1 => match d with
  | .bool k => Q (.bool (!k)) ρ1
  | _ => False
theorem je_one {op : BoolOp} (ha : JE S X a pa) : JE S X (.BoolOp op [a] pos) pa := let ⟨t, h1, h2⟩ := ha; ⟨t, fun W k => pe_one (h1 W k), h2⟩
theorem je_and (ha : JE S X a pa) (hb : JE S X (.BoolOp .And (b :: rest) pos) pb) : JE S X (.BoolOp .And (a :: b :: rest) pos) (pAndV pa pb) := by
  obtain ⟨ta, a1, a2⟩ := ha
  obtain ⟨tb, b1, b2⟩ := hb
  refine ⟨fun W => tAndV (ta W) (tb W), fun W h => pe_and (a1 W h) (b1 W h), fun W wp B N H σ ρ Q Q' R hw q k => a2 W wp B N H σ ρ _ _ R hw q fun N1 H1 x dx ρ1 R1 e1 r1 q1 => ?_⟩
  cases r1 with
  | bl c =>
    refine ⟨c, rfl, ?_⟩
    cases c with
    | true => rw [if_pos rfl]; exact b2 W wp B N1 H1 σ ρ1 _ _ R1 hw q1 fun N2 H2 c d ρ2 R2 e2 r2 q2 => k N2 H2 c d ρ2 R2 (e1.trans e2) r2 q2
    | false => rw [if_neg Bool.false_ne_true]; exact k N1 H1 _ _ ρ1 R1 e1 (.bl false) q1
  | _ => exact q1.elim
theorem je_or (ha : JE S X a pa) (hb : JE S X (.BoolOp .Or (b :: rest) pos) pb) : JE S X (.BoolOp .Or (a :: b :: rest) pos) (pOrV pa pb) := by
  obtain ⟨ta, a1, a2⟩ := ha
  obtain ⟨tb, b1, b2⟩ := hb
  refine ⟨fun W => tOrV (ta W) (tb W), fun W h => pe_or (a1 W h) (b1 W h), fun W wp B N H σ ρ Q Q' R hw q k => a2 W wp B N H σ ρ _ _ R hw q fun N1 H1 x dx ρ1 R1 e1 r1 q1 => ?_⟩
  cases r1 with
  | bl c =>
    refine ⟨c, rfl, ?_⟩
    cases c with
    | true => rw [if_pos rfl]; exact k N1 H1 _ _ ρ1 R1 e1 (.bl true) q1
    | false => rw [if_neg Bool.false_ne_true]; exact b2 W wp B N1 H1 σ ρ1 _ _ R1 hw q1 fun N2 H2 c d ρ2 R2 e2 r2 q2 => k N2 H2 c d ρ2 R2 (e1.trans e2) r2 q2
  | _ => exact q1.elim
theorem je_not (ha : JE S X a pa) : JE S X (.UnaryOp .Not a pos) (pNotV pa) := by
  obtain ⟨ta, a1, a2⟩ := ha
  refine ⟨fun W => tNotV (ta W), fun W h => pe_not (a1 W h), fun W wp B N H σ ρ Q Q' R hw q k => a2 W wp B N H σ ρ _ _ R hw q fun N1 H1 x dx ρ1 R1 e1 r1 q1 => ?_⟩
  cases r1 with
  | bl c => exact ⟨c, rfl, k N1 H1 _ _ ρ1 R1 e1 (.bl _) q1⟩
  | _ => exact q1.elim
def pIf (t : PTT) (p q : PTE) : PTE := fun wp ρ Q => t wp ρ fun k ρ1 => if k = true then p wp ρ1 Q else q wp ρ1 Q
theorem je_if (hc : JT S X c qa) (ha : JE S X a pa) (hb : JE S X b pb) : JE S X (.IfExp c a b pos) (pIf qa pa pb) := by
  obtain ⟨ta, a1, a2⟩ := ha
  obtain ⟨tb, b1, b2⟩ := hb
  obtain ⟨tc, c1, c2⟩ := hc
  refine ⟨fun W => tIf (tc W) (ta W) (tb W), fun W h => pe_ifExp (c1 W h) (a1 W h) (b1 W h), fun W wp B N H σ ρ Q Q' R hw q k => c2 W wp B N H σ ρ _ _ R hw q fun N1 H1 x ρ1 R1 e1 q1 => ?_⟩
  cases x with
  | true => rw [if_pos rfl] at q1 ⊢; exact a2 W wp B N1 H1 σ ρ1 _ _ R1 hw q1 fun N2 H2 c d ρ2 R2 e2 r2 q2 => k N2 H2 c d ρ2 R2 (e1.trans e2) r2 q2
  | false => rw [if_neg Bool.false_ne_true] at q1 ⊢; exact b2 W wp B N1 H1 σ ρ1 _ _ R1 hw q1 fun N2 H2 c d ρ2 R2 e2 r2 q2 => k N2 H2 c d ρ2 R2 (e1.trans e2) r2 q2
/-- a op b op' c -/
def pChain (g g' : G2) (pa pb pc : PTE) : PTE := fun wp ρ Q => pa wp ρ fun dx ρ1 => pb wp ρ1 fun dy ρ2 => g dx dy fun z => match z with
  | .bool k => if k = true then pc wp ρ2 fun dz ρ3 => g' dy dz fun d => Q d ρ3 else Q (.bool false) ρ2
  | _ => False
theorem sim_chain {K : PySem.W.Frag} {r r' : R2} {g g' : G2} {ta tb tc : WX → TE} (hr : R2S K S r g) (hr' : R2S K S r' g') (ha : SimE K S ta pa) (hb : SimE K S tb pb) (hc : SimE K S tc pc) : SimE K S (fun W => tChain r r' (ta W) (tb W) (tc W)) (pChain g g' pa pb pc) :=
  fun W wp B N H σ ρ Q Q' R hw q k => ha W wp B N H σ ρ _ _ R hw q fun N1 H1 x dx ρ1 R1 e1 r1 q1 => hb W wp B N1 H1 σ ρ1 _ _ R1 hw q1 fun N2 H2 y dy ρ2 R2 e2 r2 q2 =>
    hr B N2 H2 σ ρ2 x y dx dy _ _ R2 (r1.up e2) r2 q2 fun N3 H3 v d R3 e3 r3 q3 => by
      cases r3 with
      | bl c =>
        refine ⟨c, rfl, ?_⟩
        cases c with
        | true =>
          rw [if_pos rfl]
          exact hc W wp B N3 H3 σ ρ2 _ _ R3 hw q3 fun N4 H4 z dz ρ4 R4 e4 r4 q4 => hr' B N4 H4 σ ρ4 y z dy dz _ _ R4 ((r2.up e3).up e4) r4 q4 fun N5 H5 v d R5 e5 r5 q5 => k N5 H5 v d ρ4 R5 ((((e1.trans e2).trans e3).trans e4).trans e5) r5 q5
        | false =>
          rw [if_neg Bool.false_ne_true]
          exact k N3 H3 _ _ ρ2 R3 ((e1.trans e2).trans e3) (.bl false) q3
      | _ => exact q3.elim
theorem je_chain {op op' : CmpOp} {r r' : R2} {g g' : G2} (ho : OpR X (compareOp op) r) (hr : R2S X.K S r g) (ho' : OpR X (compareOp op') r') (hr' : R2S X.K S r' g') (ha : JE S X a pa) (hb : JE S X b pb) (hc : JE S X c pc)
    (hm : lastMarks [op, op'] [b, c] = false := by with_unfolding_all rfl) : JE S X (.Compare a [op, op'] [b, c] pos) (pChain g g' pa pb pc) := by
  obtain ⟨ta, a1, a2⟩ := ha
  obtain ⟨tb, b1, b2⟩ := hb
  obtain ⟨tc, c1, c2⟩ := hc
  exact ⟨fun W => tChain r r' (ta W) (tb W) (tc W), fun W h => pe_chain ho ho' (a1 W h) (b1 W h) (c1 W h) hm, sim_chain hr hr' a2 b2 c2⟩
theorem jt_chain {op op' : CmpOp} {r r' : R2} {g g' : G2} (ho : OpR X (compareOp op) r) (hr : R2S X.K S r g) (ho' : OpR X (compareOp op') r') (hr' : R2S X.K S r' g') (ha : JE S X a pa) (hb : JE S X b pb) (hc : JE S X c pc)
    (hm : lastMarks [op, op'] [b, c] = false := by with_unfolding_all rfl) : JT S X (.Compare a [op, op'] [b, c] pos) (pTest (pChain g g' pa pb pc)) := by
  obtain ⟨ta, a1, a2⟩ := ha
  obtain ⟨tb, b1, b2⟩ := hb
  obtain ⟨tc, c1, c2⟩ := hc
  exact ⟨fun W => tTest (tChain r r' (ta W) (tb W) (tc W)), fun W h => pt_chain ho ho' (a1 W h) (b1 W h) (c1 W h) hm, sim_test (sim_chain hr hr' a2 b2 c2)⟩
end
end PD

set_option Elab.async false
set_option linter.all false
set_option maxRecDepth 100000
/-! Operators, subscripts, displays, built-in calls told over data. -/
namespace PD
open PySem L2 GxR

theorem op_imp {X : Cx} {f : Value → Value → Sem Value} {r r' : R2} (h : OpR X f r) (k : ∀ x y H Q, r' x y H Q → r x y H Q) : OpR X f r' :=
  fun pins s σ H x y v u Q I rx ry q => h pins s σ H x y v u Q I rx ry (k _ _ _ _ q)

/-! ### ints -/
def gI0 (f : Int → Int → PyData) : G2 := fun dx dy Q => match dx, dy with
  | .int i, .int j => Q (f i j)
  | _, _ => False
def gI (C : Int → Int → Prop) (f : Int → Int → PyData) : G2 := fun dx dy Q => match dx, dy with
  | .int i, .int j => C i j ∧ Q (f i j)
  | _, _ => False
section
variable {K : PySem.W.Frag} {S : Src}
theorem s_I0 {f : Int → Int → V} {g : Int → Int → PyData} (h : ∀ i j M, Rp K M (f i j) (g i j)) : R2S K S (rI0 f) (gI0 g) := fun B N H σ ρ x y dx dy Q Q' R rx ry q k => by
  cases rx with
  | int i =>
    cases ry with
    | int j => exact ⟨i, j, rfl, rfl, k N H _ _ R (Ex.refl _) (h i j N) q⟩
    | _ => exact q.elim
  | _ => first | exact q.elim | (cases ry <;> exact q.elim)
theorem s_I {C : Int → Int → Prop} {f : Int → Int → V} {g : Int → Int → PyData} (h : ∀ i j M, Rp K M (f i j) (g i j)) : R2S K S (rI C f) (gI C g) := fun B N H σ ρ x y dx dy Q Q' R rx ry q k => by
  cases rx with
  | int i =>
    cases ry with
    | int j => exact ⟨i, j, rfl, rfl, q.1, k N H _ _ R (Ex.refl _) (h i j N) q.2⟩
    | _ => exact q.elim
  | _ => first | exact q.elim | (cases ry <;> exact q.elim)
end
def CDivA (i j : Int) : Prop := 0 < j ∧ (j < 18446744073709551616 ∨ j.natAbs.log2 < 9000)
def CMulA (i j : Int) : Prop := ((-18446744073709551616 < i ∧ i < 18446744073709551616) ∨ (-18446744073709551616 < j ∧ j < 18446744073709551616)) ∨ CMulW i j
def CPowA (i j : Int) : Prop := 0 ≤ j ∧ j ≤ 1000000 ∧ i.natAbs < 18446744073709551616
section
variable {X : Cx}
theorem op_div : OpR X (binaryOp .FloorDiv) (rI CDivA fun i j => .int (i / j)) := op_imp op_fdivW fun x y H Q ⟨i, j, e1, e2, ⟨h1, h2⟩, q⟩ => ⟨i, j, e1, e2, ⟨h1, h2.elim (fun z => by
  have z2 : j.natAbs < 2 ^ 64 := by omega
  have := PySem.Flt.log2_lt_of (by decide) z2
  omega) id⟩, q⟩
theorem op_mulA : OpR X (binaryOp .Mult) (rI CMulA fun i j => .int (i * j)) := op_imp (op_mul.or op_mulW) fun x y H Q ⟨i, j, e1, e2, h, q⟩ => h.elim (fun z => .inl ⟨i, j, e1, e2, z, q⟩) fun z => .inr ⟨i, j, e1, e2, z, q⟩
end
abbrev gSub : G2 := gI0 fun i j => .int (i - j)
abbrev gDiv : G2 := gI CDivA fun i j => .int (i / j)
abbrev gMod : G2 := gI (fun _ j => 0 < j) fun i j => .int (i % j)
abbrev gPow : G2 := gI CPowA fun i j => .int (i ^ j.toNat)
abbrev gShr : G2 := gI (fun _ j => 0 ≤ j) fun i j => .int (i / 2 ^ j.toNat)
abbrev gXor : G2 := gI0 fun i j => .int (Builtin.bitXor i j)
/-! ### + and * -/
def gAdd : G2 := fun dx dy Q => match dx, dy with
  | .int i, .int j => Q (.int (i + j))
  | .int i, .bool k => Q (.int (i + PyProof.Rows.b2i k))
  | .str x, .str y => x.length + y.length ≤ sizeLine ∧ Q (.str (x ++ y))
  | .list xs, .list ys => xs.length + ys.length ≤ sizeLine ∧ Q (.list (xs ++ ys))
  | .tuple xs, .tuple ys => xs ≠ [] ∧ ys ≠ [] ∧ xs.length + ys.length ≤ sizeLine ∧ Q (.tuple (xs ++ ys))
  | _, _ => False
def rAddA (K : PySem.W.Frag) : R2 := fun x y H Q => (((rI0 (fun i j => V.int (i + j)) x y H Q ∨ (∃ i k, x = .int i ∧ y = .bl k ∧ Q (.int (i + PyProof.Rows.b2i k)) H)) ∨ (∃ i j, x = .str i ∧ y = .str j ∧ i.length + j.length ≤ sizeLine ∧ Q (.str (i ++ j)) H)) ∨ rCat x y H Q) ∨ rCatT K x y H Q
theorem op_addA {X : Cx} : OpR X (binaryOp .Add) (rAddA X.K) := (((op_add.or op_add_ib).or op_add_str).or op_cat).or op_catT
theorem ne_nil_of {K : PySem.W.Frag} {M : Hp} {vs : List V} {ds : List PyData} (h : RpAll K M vs ds) (n : ds ≠ []) : vs ≠ [] := by
  cases h with
  | nil => exact absurd rfl n
  | cons _ _ => exact List.cons_ne_nil _ _
theorem s_add {K : PySem.W.Frag} {S : Src} : R2S K S (rAddA K) gAdd := fun B N H σ ρ x y dx dy Q Q' R rx ry q k => by
  cases rx with
  | int i =>
    cases ry with
    | int j => exact .inl (.inl (.inl (.inl ⟨i, j, rfl, rfl, k N H _ _ R (Ex.refl _) (.int _) q⟩)))
    | bl b => exact .inl (.inl (.inl (.inr ⟨i, b, rfl, rfl, k N H _ _ R (Ex.refl _) (.int _) q⟩)))
    | _ => exact q.elim
  | str z =>
    cases ry with
    | str z' => exact .inl (.inl (.inr ⟨z, z', rfl, rfl, q.1, k N H _ _ R (Ex.refl _) (.str _) q.2⟩))
    | _ => exact q.elim
  | lst h1 h2 =>
    cases ry with
    | lst g1 g2 =>
      refine .inl (.inr ⟨_, _, _, _, rfl, rfl, R.sub _ _ h1, R.sub _ _ g1, by rw [h2.length, g2.length]; exact q.1, fun p hp => ?_⟩)
      exact k _ _ _ _ (R.newM hp) (Ex.new (R.sub.none hp)) (.lst upd_same ((h2.append g2).up (Ex.new (R.sub.none hp)))) q.2
    | _ => exact q.elim
  | tup h1 h2 =>
    cases ry with
    | tup g1 g2 =>
      refine .inr ⟨_, _, _, _, rfl, rfl, ex_t R.sub h1, ex_t R.sub g1, ne_nil_of h2 q.1, by rw [h2.length, g2.length]; exact q.2.2.1, fun e => absurd e (ne_nil_of g2 q.2.1), fun _ p hp => ?_⟩
      exact k _ _ _ _ (R.newM hp) (Ex.new (R.sub.none hp)) (.tup (.inl (.inl upd_same)) ((h2.append g2).up (Ex.new (R.sub.none hp)))) q.2.2.2
    | _ => exact q.elim
  | _ => first | exact q.elim | (cases ry <;> exact q.elim)
def gMul : G2 := fun dx dy Q => match dx, dy with
  | .int i, .int j => CMulA i j ∧ Q (.int (i * j))
  | .list xs, .int j => -9223372036854775808 ≤ j ∧ j < 9223372036854775808 ∧ xs.length * j.toNat ≤ sizeLine ∧ Q (.list (List.replicate j.toNat xs).flatten)
  | _, _ => False
theorem RpAll.rep {K : PySem.W.Frag} {M : Hp} {vs : List V} {ds : List PyData} (h : RpAll K M vs ds) : ∀ n : Nat, RpAll K M (List.replicate n vs).flatten (List.replicate n ds).flatten
  | 0 => .nil
  | n + 1 => by
    rw [List.replicate_succ, List.replicate_succ, List.flatten_cons, List.flatten_cons]
    exact h.append (RpAll.rep h n)
theorem s_mul {K : PySem.W.Frag} {S : Src} : R2S K S (fun x y H Q => rI CMulA (fun i j => V.int (i * j)) x y H Q ∨ rRep x y H Q) gMul := fun B N H σ ρ x y dx dy Q Q' R rx ry q k => by
  cases rx with
  | int i =>
    cases ry with
    | int j => exact .inl ⟨i, j, rfl, rfl, q.1, k N H _ _ R (Ex.refl _) (.int _) q.2⟩
    | _ => exact q.elim
  | lst h1 h2 =>
    cases ry with
    | int j =>
      refine .inr ⟨_, j, _, rfl, rfl, R.sub _ _ h1, q.1, q.2.1, by rw [h2.length]; exact q.2.2.1, fun p hp => ?_⟩
      exact k _ _ _ _ (R.newM hp) (Ex.new (R.sub.none hp)) (.lst upd_same ((h2.rep _).up (Ex.new (R.sub.none hp)))) q.2.2.2
    | _ => exact q.elim
  | _ => first | exact q.elim | (cases ry <;> exact q.elim)
/-! ### comparisons -/
def gOrd (f : Int → Int → Bool) (g : List Nat → List Nat → Bool) : G2 := fun dx dy Q => match dx, dy with
  | .int i, .int j => Q (.bool (f i j))
  | .str x, .str y => Q (.bool (g x.cps.toList y.cps.toList))
  | _, _ => False
def rOrd (f : Int → Int → Bool) (g : List Nat → List Nat → Bool) : R2 := fun x y H Q => rI0 (fun i j => V.bl (f i j)) x y H Q ∨ (∃ i j, x = .str i ∧ y = .str j ∧ Q (.bl (g i.cps.toList j.cps.toList)) H)
theorem s_ord {K : PySem.W.Frag} {S : Src} {f : Int → Int → Bool} {g : List Nat → List Nat → Bool} : R2S K S (rOrd f g) (gOrd f g) := fun B N H σ ρ x y dx dy Q Q' R rx ry q k => by
  cases rx with
  | int i =>
    cases ry with
    | int j => exact .inl ⟨i, j, rfl, rfl, k N H _ _ R (Ex.refl _) (.bl _) q⟩
    | _ => exact q.elim
  | str z =>
    cases ry with
    | str z' => exact .inr ⟨z, z', rfl, rfl, k N H _ _ R (Ex.refl _) (.bl _) q⟩
    | _ => exact q.elim
  | _ => first | exact q.elim | (cases ry <;> exact q.elim)
abbrev gLt : G2 := gOrd (fun i j => decide (i < j)) fun x y => decide (x < y)
abbrev gLe : G2 := gOrd (fun i j => decide (i ≤ j)) fun x y => !decide (y < x)
abbrev gGt : G2 := gOrd (fun i j => decide (j < i)) fun x y => decide (y < x)
abbrev gGe : G2 := gOrd (fun i j => decide (j ≤ i)) fun x y => !decide (x < y)
section
variable {X : Cx}
theorem op_ltA : OpR X (compareOp .Lt) (rOrd (fun i j => decide (i < j)) fun x y => decide (x < y)) := op_lt.or op_lt_str
theorem op_leA : OpR X (compareOp .LtE) (rOrd (fun i j => decide (i ≤ j)) fun x y => !decide (y < x)) := op_le.or op_le_str
theorem op_gtA : OpR X (compareOp .Gt) (rOrd (fun i j => decide (j < i)) fun x y => decide (y < x)) := op_gt.or op_gt_str
theorem op_geA : OpR X (compareOp .GtE) (rOrd (fun i j => decide (j ≤ i)) fun x y => !decide (x < y)) := op_ge.or op_ge_str
end
def flatD : PyData → Bool
  | .none => true
  | .bool _ => true
  | .int _ => true
  | .str _ => true
  | _ => false
def mixD : PyData → PyData → Bool
  | .bool _, .int _ => true
  | .int _, .bool _ => true
  | _, _ => false
/-- == of data -/
def eqD (dx dy : PyData) : Prop := (flatD dx = true ∧ flatD dy = true ∧ mixD dx dy = false) ∨ (SeqAt.shaped dx = true ∧ SeqAt.shaped dy = true)
def gEq : G2 := fun dx dy Q => eqD dx dy ∧ Q (.bool (PyData.eqv dx dy))
def gNe : G2 := fun dx dy Q => eqD dx dy ∧ Q (.bool (!PyData.eqv dx dy))
theorem eq_flat {K : PySem.W.Frag} {N : Hp} {x y : V} {dx dy : PyData} (rx : Rp K N x dx) (ry : Rp K N y dy) (h : flatD dx = true ∧ flatD dy = true ∧ mixD dx dy = false) : scal x y = true ∧ decide (x = y) = PyData.eqv dx dy := by
  cases rx <;> cases ry <;> first
    | exact ⟨rfl, dec_int⟩
    | exact ⟨rfl, dec_bl⟩
    | exact ⟨rfl, dec_str⟩
    | exact absurd h.1 Bool.false_ne_true
    | exact absurd h.2.1 Bool.false_ne_true
    | exact absurd h.2.2.symm Bool.false_ne_true
    | exact ⟨rfl, rfl⟩
theorem s_eq {K : PySem.W.Frag} {S : Src} : R2S K S (fun x y H Q => rEq x y H Q ∨ rEqD K x y H Q) gEq := fun B N H σ ρ x y dx dy Q Q' R rx ry q k => by
  obtain ⟨h | ⟨h1, h2⟩, q⟩ := q
  · obtain ⟨e1, e2⟩ := eq_flat rx ry h
    refine .inl ⟨e1, ?_⟩
    rw [e2]
    exact k N H _ _ R (Ex.refl _) (.bl _) q
  · exact .inr ⟨dx, dy, Rp.dp R.sub _ _ rx, Rp.dp R.sub _ _ ry, h1, h2, k N H _ _ R (Ex.refl _) (.bl _) q⟩
theorem s_ne {K : PySem.W.Frag} {S : Src} : R2S K S (fun x y H Q => rNe x y H Q ∨ rNeD K x y H Q) gNe := fun B N H σ ρ x y dx dy Q Q' R rx ry q k => by
  obtain ⟨h | ⟨h1, h2⟩, q⟩ := q
  · obtain ⟨e1, e2⟩ := eq_flat rx ry h
    refine .inl ⟨e1, ?_⟩
    rw [e2]
    exact k N H _ _ R (Ex.refl _) (.bl _) q
  · exact .inr ⟨dx, dy, Rp.dp R.sub _ _ rx, Rp.dp R.sub _ _ ry, h1, h2, k N H _ _ R (Ex.refl _) (.bl _) q⟩
/-! ### in -/
def memD (dx : PyData) (ds : List PyData) : Bool := ds.any fun z => PyData.eqv z dx
def inOk (dx : PyData) (ds : List PyData) : Prop := flatD dx = true ∧ ds.all flatD = true
def gIn (neg : Bool) : G2 := fun dx dy Q => match dy with
  | .list ds => inOk dx ds ∧ Q (.bool (if neg then !memD dx ds else memD dx ds))
  | .tuple ds => inOk dx ds ∧ Q (.bool (if neg then !memD dx ds else memD dx ds))
  | .str y => match dx with
    | .str x => Q (.bool (if neg then !(!(Builtin.Str.occurrences y x 0 y.length 1).isEmpty) else !(Builtin.Str.occurrences y x 0 y.length 1).isEmpty))
    | _ => False
  | _ => False
theorem flat_rp {K : PySem.W.Frag} {N : Hp} {x : V} {d : PyData} (r : Rp K N x d) : flatV x = flatD d := by cases r <;> rfl
theorem flat_all {K : PySem.W.Frag} {N : Hp} : ∀ {vs : List V} {ds : List PyData}, RpAll K N vs ds → vs.all flatV = ds.all flatD
  | _, _, .nil => rfl
  | _, _, .cons h t => by rw [List.all_cons, List.all_cons, flat_rp h, flat_all t]
theorem eqV_rp {K : PySem.W.Frag} {N : Hp} {x y : V} {d e : PyData} (r : Rp K N x d) (r' : Rp K N y e) (f : flatD d = true) (g : flatD e = true) : eqV x y = PyData.eqv d e := by
  cases r <;> cases r' <;> first
    | exact absurd f Bool.false_ne_true
    | exact absurd g Bool.false_ne_true
    | rfl
theorem inV_rp {K : PySem.W.Frag} {N : Hp} {x : V} {d : PyData} (r : Rp K N x d) (f : flatD d = true) : ∀ {vs : List V} {ds : List PyData}, RpAll K N vs ds → ds.all flatD = true → inV x vs = memD d ds
  | _, _, .nil, _ => rfl
  | _, _, .cons h t, g => by
    rw [List.all_cons, Bool.and_eq_true] at g
    unfold inV memD
    rw [List.any_cons, List.any_cons, eqV_rp h r g.1 f]
    have e := inV_rp r f t g.2
    unfold inV memD at e
    rw [e]
def rInA (K : PySem.W.Frag) (neg : Bool) : R2 := fun x y H Q => rIn K neg x y H Q ∨ (∃ i j, x = .str i ∧ y = .str j ∧ Q (.bl (if neg then !(!(Builtin.Str.occurrences j i 0 j.length 1).isEmpty) else !(Builtin.Str.occurrences j i 0 j.length 1).isEmpty)) H)
theorem s_in {K : PySem.W.Frag} {S : Src} {neg : Bool} : R2S K S (rInA K neg) (gIn neg) := fun B N H σ ρ x y dx dy Q Q' R rx ry q k => by
  cases ry with
  | lst h1 h2 =>
    refine .inl ⟨_, _, rfl, .inl (.inl (.inl (R.sub _ _ h1))), by rw [flat_rp rx]; exact q.1.1, by rw [flat_all h2]; exact q.1.2, ?_⟩
    rw [inV_rp rx q.1.1 h2 q.1.2]
    exact k N H _ _ R (Ex.refl _) (.bl _) q.2
  | tup h1 h2 =>
    refine .inl ⟨_, _, rfl, .inr (ex_t R.sub h1), by rw [flat_rp rx]; exact q.1.1, by rw [flat_all h2]; exact q.1.2, ?_⟩
    rw [inV_rp rx q.1.1 h2 q.1.2]
    exact k N H _ _ R (Ex.refl _) (.bl _) q.2
  | str z =>
    cases rx with
    | str z' => exact .inr ⟨_, _, rfl, rfl, k N H _ _ R (Ex.refl _) (.bl _) q⟩
    | _ => exact q.elim
  | _ => exact q.elim
theorem op_inA {X : Cx} : OpR X (compareOp .In) (rInA X.K false) := op_in_seq.or op_in_str
theorem op_notInA {X : Cx} : OpR X (compareOp .NotIn) (rInA X.K true) := op_notIn_seq.or op_notIn_str
/-! ### is -/
def isN : PyData → Bool
  | .none => true
  | _ => false
def gIs : G2 := fun dx dy Q => match dy with
  | .none => Q (.bool (isN dx))
  | .bool b => match dx with
    | .bool a => Q (.bool (decide (a = b)))
    | _ => False
  | _ => False
def gIsNot : G2 := fun dx dy Q => match dy with
  | .none => Q (.bool (!isN dx))
  | .bool b => match dx with
    | .bool a => Q (.bool (!decide (a = b)))
    | _ => False
  | _ => False
theorem isN_rp {K : PySem.W.Frag} {N : Hp} {x : V} {d : PyData} (r : Rp K N x d) : decide (x = .non) = isN d := by cases r <;> rfl
theorem s_is {K : PySem.W.Frag} {S : Src} : R2S K S (fun x y H Q => (y = .non ∧ Q (.bl (decide (x = .non))) H) ∨ (∃ a b, x = .bl a ∧ y = .bl b ∧ Q (.bl (decide (a = b))) H)) gIs := fun B N H σ ρ x y dx dy Q Q' R rx ry q k => by
  cases ry with
  | non =>
    refine .inl ⟨rfl, ?_⟩
    rw [isN_rp rx]
    exact k N H _ _ R (Ex.refl _) (.bl _) q
  | bl b =>
    cases rx with
    | bl a => exact .inr ⟨a, b, rfl, rfl, k N H _ _ R (Ex.refl _) (.bl _) q⟩
    | _ => exact q.elim
  | _ => exact q.elim
theorem s_isnot {K : PySem.W.Frag} {S : Src} : R2S K S (fun x y H Q => (y = .non ∧ Q (.bl (!decide (x = .non))) H) ∨ (∃ a b, x = .bl a ∧ y = .bl b ∧ Q (.bl (!decide (a = b))) H)) gIsNot := fun B N H σ ρ x y dx dy Q Q' R rx ry q k => by
  cases ry with
  | non =>
    refine .inl ⟨rfl, ?_⟩
    rw [isN_rp rx]
    exact k N H _ _ R (Ex.refl _) (.bl _) q
  | bl b =>
    cases rx with
    | bl a => exact .inr ⟨a, b, rfl, rfl, k N H _ _ R (Ex.refl _) (.bl _) q⟩
    | _ => exact q.elim
  | _ => exact q.elim

/-! ### the rules by their operators -/
section
variable {S : Src} {X : Cx} {e a b : Expr} {es : List Expr} {pos : Pos} {pa pb : PTE}
theorem je_add (ha : JE S X a pa) (hb : JE S X b pb) : JE S X (.BinOp a .Add b pos) (pBin gAdd pa pb) := je_op op_addA s_add ha hb
theorem je_sub (ha : JE S X a pa) (hb : JE S X b pb) : JE S X (.BinOp a .Sub b pos) (pBin gSub pa pb) := je_op op_sub (s_I0 fun _ _ _ => .int _) ha hb
theorem je_mul (ha : JE S X a pa) (hb : JE S X b pb) : JE S X (.BinOp a .Mult b pos) (pBin gMul pa pb) := je_op (op_mulA.or op_rep) s_mul ha hb
theorem je_div (ha : JE S X a pa) (hb : JE S X b pb) : JE S X (.BinOp a .FloorDiv b pos) (pBin gDiv pa pb) := je_op op_div (s_I fun _ _ _ => .int _) ha hb
theorem je_mod (ha : JE S X a pa) (hb : JE S X b pb) : JE S X (.BinOp a .Mod b pos) (pBin gMod pa pb) := je_op op_mod (s_I fun _ _ _ => .int _) ha hb
theorem je_pow (ha : JE S X a pa) (hb : JE S X b pb) : JE S X (.BinOp a .Pow b pos) (pBin gPow pa pb) := je_op op_pow (s_I fun _ _ _ => .int _) ha hb
theorem je_shr (ha : JE S X a pa) (hb : JE S X b pb) : JE S X (.BinOp a .RShift b pos) (pBin gShr pa pb) := je_op op_shr (s_I fun _ _ _ => .int _) ha hb
theorem je_xor (ha : JE S X a pa) (hb : JE S X b pb) : JE S X (.BinOp a .BitXor b pos) (pBin gXor pa pb) := je_op op_xor (s_I0 fun _ _ _ => .int _) ha hb
/-- a comparison's rule with what it does to data -/
structure Cm (S : Src) (X : Cx) (op : CmpOp) (g : G2) : Prop where
  ex : ∃ r, OpR X (compareOp op) r ∧ R2S X.K S r g
theorem c_lt : Cm S X .Lt gLt := ⟨_, op_ltA, s_ord⟩
theorem c_le : Cm S X .LtE gLe := ⟨_, op_leA, s_ord⟩
theorem c_gt : Cm S X .Gt gGt := ⟨_, op_gtA, s_ord⟩
theorem c_ge : Cm S X .GtE gGe := ⟨_, op_geA, s_ord⟩
theorem c_eq {k : Nat} (hr : Room k X.A) : Cm S X .Eq gEq := ⟨_, op_eq.or (op_eqD hr.units), s_eq⟩
theorem c_ne {k : Nat} (hr : Room k X.A) : Cm S X .NotEq gNe := ⟨_, op_ne.or (op_neD hr.units), s_ne⟩
theorem c_is : Cm S X .Is gIs := ⟨_, op_isN.or op_is_bl, s_is⟩
theorem c_isnot : Cm S X .IsNot gIsNot := ⟨_, op_notN.or op_isnot_bl, s_isnot⟩
theorem c_in : Cm S X .In (gIn false) := ⟨_, op_inA, s_in⟩
theorem c_notin : Cm S X .NotIn (gIn true) := ⟨_, op_notInA, s_in⟩
variable {op op' : CmpOp} {g g' : G2} {c : Expr} {pc : PTE}
theorem je_cm (h : Cm S X op g) (ha : JE S X a pa) (hb : JE S X b pb) (hm : behindInMarks op b = false := by rfl) : JE S X (.Compare a [op] [b] pos) (pBin g pa pb) := let ⟨r, h1, h2⟩ := h.ex; je_cmp h1 h2 ha hb hm
theorem jt_cm (h : Cm S X op g) (ha : JE S X a pa) (hb : JE S X b pb) (hm : behindInMarks op b = false := by rfl) : JT S X (.Compare a [op] [b] pos) (pTest (pBin g pa pb)) := let ⟨r, h1, h2⟩ := h.ex; jt_cmp h1 h2 ha hb hm
theorem je_ch (h : Cm S X op g) (h' : Cm S X op' g') (ha : JE S X a pa) (hb : JE S X b pb) (hc : JE S X c pc) (hm : lastMarks [op, op'] [b, c] = false := by with_unfolding_all rfl) : JE S X (.Compare a [op, op'] [b, c] pos) (pChain g g' pa pb pc) :=
  let ⟨r, h1, h2⟩ := h.ex; let ⟨r', h1', h2'⟩ := h'.ex; je_chain h1 h2 h1' h2' ha hb hc hm
theorem jt_ch (h : Cm S X op g) (h' : Cm S X op' g') (ha : JE S X a pa) (hb : JE S X b pb) (hc : JE S X c pc) (hm : lastMarks [op, op'] [b, c] = false := by with_unfolding_all rfl) : JT S X (.Compare a [op, op'] [b, c] pos) (pTest (pChain g g' pa pb pc)) :=
  let ⟨r, h1, h2⟩ := h.ex; let ⟨r', h1', h2'⟩ := h'.ex; jt_chain h1 h2 h1' h2' ha hb hc hm
def pNeg (p : PTE) : PTE := fun wp ρ Q => p wp ρ fun d ρ1 => match d with
  | .int i => Q (.int (-i)) ρ1
  | _ => False
theorem je_neg (ha : JE S X a pa) : JE S X (.UnaryOp .USub a pos) (pNeg pa) := by
  obtain ⟨ta, a1, a2⟩ := ha
  refine ⟨fun W => tUn (rU fun i => .int (-i)) (ta W), fun W h => pe_un un_neg (a1 W h), fun W wp B N H σ ρ Q Q' R hw q k => a2 W wp B N H σ ρ _ _ R hw q fun N1 H1 x dx ρ1 R1 e1 r1 q1 => ?_⟩
  cases r1 with
  | int i => exact ⟨i, rfl, k N1 H1 _ _ ρ1 R1 e1 (.int _) q1⟩
  | _ => exact q1.elim

/-! ### displays, argument lists -/
def pNil : PTA := fun _ ρ Q => Q [] ρ
def pCons (p : PTE) (q : PTA) : PTA := fun wp ρ Q => p wp ρ fun d ρ1 => q wp ρ1 fun ds ρ2 => Q (d :: ds) ρ2
theorem ja_nil : JA S X [] pNil := ⟨fun _ => tNil, fun _ _ => pa_nil, fun W wp B N H σ ρ Q Q' R hw q k => k N H [] [] ρ R (Ex.refl _) .nil q⟩
variable {qs : PTA}
theorem ja_cons (ha : JE S X e pa) (hr : JA S X es qs) (hs : starEach (e :: es) X.env = (false, eval e X.env) :: starEach es X.env := by rfl) : JA S X (e :: es) (pCons pa qs) := by
  obtain ⟨ta, a1, a2⟩ := ha
  obtain ⟨tb, b1, b2⟩ := hr
  exact ⟨fun W => tCons (ta W) (tb W), fun W h => pa_cons (a1 W h) (b1 W h) hs, fun W wp B N H σ ρ Q Q' R hw q k => a2 W wp B N H σ ρ _ _ R hw q fun N1 H1 x dx ρ1 R1 e1 r1 q1 => b2 W wp B N1 H1 σ ρ1 _ _ R1 hw q1 fun N2 H2 vs ds ρ2 R2 e2 r2 q2 =>
    k N2 H2 _ _ ρ2 R2 (e1.trans e2) (.cons (r1.up e2) r2) q2⟩
def pTup (q : PTA) : PTE := fun wp ρ Q => q wp ρ fun ds ρ1 => ds.length ≤ sizeLine ∧ Q (.tuple ds) ρ1
theorem je_tup {n : Nat} (h : JA S X es qs) : JE S X (.Tuple es n pos) (pTup qs) := by
  obtain ⟨t, h1, h2⟩ := h
  refine ⟨fun W => tTup (t W), fun W k => pe_tup (h1 W k), fun W wp B N H σ ρ Q Q' R hw q k => h2 W wp B N H σ ρ _ _ R hw q fun N1 H1 vs ds ρ1 R1 e1 r1 q1 => ⟨by rw [r1.length]; exact q1.1, fun p hp => ?_⟩⟩
  exact k _ _ _ _ ρ1 (R1.newM hp) (e1.trans (Ex.new (R1.sub.none hp))) (.tup (.inl (.inl upd_same)) (r1.up (Ex.new (R1.sub.none hp)))) q1.2
def pLst (q : PTA) : PTR := fun wp ρ Q => q wp ρ fun ds ρ1 => ds.length ≤ sizeLine ∧ Q (.own ds) ρ1
theorem jr_lst (h : JA S X es qs) : JR S X (.List es pos) (pLst qs) := by
  obtain ⟨t, h1, h2⟩ := h
  refine ⟨fun W => tLst (t W), fun W k => pe_lst (h1 W k), fun W wp B N H σ ρ Q Q' R hw q k => h2 W wp B N H σ ρ _ _ R hw q fun N1 H1 vs ds ρ1 R1 e1 r1 q1 => ⟨by rw [r1.length]; exact q1.1, fun p hp => ?_⟩⟩
  exact k N1 _ _ (.own ds) ρ1 (R1.newH hp) e1 ⟨p, vs, rfl, upd_same, r1, R1.sub.none hp, R1.fresh hp, R1.away hp⟩ q1.2

/-! ### subscripts -/
def gIx : G2 := fun dx dy Q => match dx, dy with
  | .list ds, .int i => ∃ d, atI ds i = some d ∧ Q d
  | .tuple ds, .int i => ∃ d, atI ds i = some d ∧ Q d
  | .str z, .int i => z.length ≤ sizeLine ∧ ∃ c, atI z.cps.toList i = some c ∧ Q (.str ⟨#[c]⟩)
  | _, _ => False
theorem at_rp {K : PySem.W.Frag} {M : Hp} {vs : List V} {ds : List PyData} {i : Int} {d : PyData} (h : RpAll K M vs ds) (e : atI ds i = some d) : ∃ v, atI vs i = some v ∧ Rp K M v d := by
  unfold atI at e ⊢
  rw [h.length]
  cases q : ixN ds.length i with
  | none => rw [q] at e; cases e
  | some j =>
    rw [q] at e
    exact h.get e
theorem s_ix {K : PySem.W.Frag} {S : Src} : R2S K S (rIx K) gIx := fun B N H σ ρ x y dx dy Q Q' R rx ry q k => by
  cases rx with
  | lst h1 h2 =>
    cases ry with
    | int i =>
      obtain ⟨d, e, q⟩ := q
      obtain ⟨v, e2, r⟩ := at_rp h2 e
      exact .inl ⟨_, _, i, v, rfl, rfl, .inl (.inl (R.sub _ _ h1)), e2, k N H _ _ R (Ex.refl _) r q⟩
    | _ => exact q.elim
  | tup h1 h2 =>
    cases ry with
    | int i =>
      obtain ⟨d, e, q⟩ := q
      obtain ⟨v, e2, r⟩ := at_rp h2 e
      exact .inr (.inl ⟨_, _, i, v, rfl, rfl, ex_t R.sub h1, e2, k N H _ _ R (Ex.refl _) r q⟩)
    | _ => exact q.elim
  | str z =>
    cases ry with
    | int i =>
      obtain ⟨hz, c, e, q⟩ := q
      exact .inr (.inr ⟨z, i, c, rfl, rfl, hz, e, k N H _ _ R (Ex.refl _) (.str _) q⟩)
    | _ => exact q.elim
  | _ => first | exact q.elim | (cases ry <;> exact q.elim)
theorem je_ix (ha : JE S X a pa) (hb : JE S X b pb) (hs : PlainIx b := by exact fun _ _ => rfl) : JE S X (.Subscript a b pos) (pBin gIx pa pb) := by
  obtain ⟨ta, a1, a2⟩ := ha
  obtain ⟨tb, b1, b2⟩ := hb
  exact ⟨fun W => tOp (rIx X.K) (ta W) (tb W), fun W h => pe_ix ix_seq (a1 W h) (b1 W h) hs, sim_op s_ix a2 b2⟩
/-- the list, the tuple at a name, looked at: what it holds now -/
def seqAt (ρ : List Sl) (i : Nat) : Option (List PyData) := match ρ[i]? with
  | some (.v (.list ds)) => some ds
  | some (.v (.tuple ds)) => some ds
  | some (.own ds) => some ds
  | some (.brw ds) => some ds
  | some (.fz ds) => some ds
  | _ => none
theorem Rel.seqAt {K : PySem.W.Frag} {B : Bs} {N H : Hp} {σ : St} {ρ : List Sl} {i : Nat} {ds : List PyData} (R : Rel K S B N H σ ρ) (h : seqAt ρ i = some ds) : ∃ a vs, σ[i]? = some (some (.ref a)) ∧ (SqL K H a vs ∨ SqT K H a vs) ∧ RpAll K N vs ds := by
  unfold PD.seqAt at h
  split at h
  · rename_i es hh
    cases h
    obtain ⟨x, ex, v, rfl, r⟩ := R.ok i _ hh
    cases r with
    | lst h1 h2 => exact ⟨_, _, ex, .inl (.inl (.inl (R.sub _ _ h1))), h2⟩
  · rename_i es hh
    cases h
    obtain ⟨x, ex, v, rfl, r⟩ := R.ok i _ hh
    cases r with
    | tup h1 h2 => exact ⟨_, _, ex, .inr (ex_t R.sub h1), h2⟩
  · rename_i es hh
    cases h
    obtain ⟨x, ex, a, vs, rfl, h1, h2, _⟩ := R.ok i _ hh
    exact ⟨a, vs, ex, .inl (.inl (.inl h1)), h2⟩
  · rename_i es hh
    cases h
    obtain ⟨x, ex, a, vs, rfl, h1, h2, _⟩ := R.ok i _ hh
    exact ⟨a, vs, ex, .inl (.inl (.inl h1)), h2⟩
  · rename_i es hh
    cases h
    obtain ⟨x, ex, a, vs, rfl, h1, h2⟩ := R.ok i _ hh
    exact ⟨a, vs, ex, .inl (ex_l R.sub h1), h2⟩
  · cases h
/-- xs[e], xs a name: xs is only looked at -/
def pIxN (i : Nat) (pb : PTE) : PTE := fun wp ρ Q => (∃ ds, seqAt ρ i = some ds) ∧ pb wp ρ fun dy ρ1 => match seqAt ρ1 i, dy with
  | some ds, .int j => ∃ d, atI ds j = some d ∧ Q d ρ1
  | _, _ => False
theorem je_ixN (i : Nat) {x : Str} {px : Pos} (hb : JE S X b pb) (hs : PlainIx b := by exact fun _ _ => rfl) (hN : X.N[i]? = some x := by rfl) (hv : Vis X.env.scope x := by first | exact Or.inl rfl | exact Or.inr (Or.inl rfl) | exact Or.inr (Or.inr rfl)) (hd : (x == ("__debug__" : Str)) = false := by decide)
    (hcd : (x == ("__classdict__" : Str)) = false := by decide) : JE S X (.Subscript (.Name x px) b pos) (pIxN i pb) := by
  obtain ⟨tb, b1, b2⟩ := hb
  refine ⟨fun W => tOp (rIx X.K) (tVar i) (tb W), fun W h => pe_ix ix_seq (pv i hN hv hd hcd) (b1 W h) hs, fun W wp B N H σ ρ Q Q' R hw q k => ?_⟩
  obtain ⟨⟨ds0, h0⟩, q⟩ := q
  obtain ⟨a, vs0, ex, _, _⟩ := R.seqAt h0
  refine ⟨.ref a, ex, b2 W wp B N H σ ρ _ _ R hw q fun N1 H1 y dy ρ1 R1 e1 r1 q1 => ?_⟩
  cases h1 : PD.seqAt ρ1 i with
  | none => rw [h1] at q1; cases dy <;> exact q1.elim
  | some ds =>
    rw [h1] at q1
    obtain ⟨a', vs, ex', hq, hr⟩ := R1.seqAt h1
    rw [ex] at ex'
    cases ex'
    cases r1 with
    | int j =>
      obtain ⟨d, e, q1⟩ := q1
      obtain ⟨v, e2, r⟩ := at_rp hr e
      rcases hq with hq | hq
      · exact .inl ⟨_, _, j, v, rfl, rfl, hq, e2, k N1 H1 _ _ ρ1 R1 e1 r q1⟩
      · exact .inr (.inl ⟨_, _, j, v, rfl, rfl, hq, e2, k N1 H1 _ _ ρ1 R1 e1 r q1⟩)
    | _ => exact q1.elim

/-! ### calls of built-ins -/
abbrev GC := List PyData → (PyData → Prop) → Prop
def CS (K : PySem.W.Frag) (S : Src) (r : List V → Hp → VK → Prop) (g : GC) : Prop := ∀ (B : Bs) (N H : Hp) (σ : St) (ρ : List Sl) (vs : List V) (ds : List PyData) (Q : VK) (Q' : PyData → Prop), Rel K S B N H σ ρ → RpAll K N vs ds → g ds Q' →
  (∀ N' H' v d, Rel K S B N' H' σ ρ → Ex N N' → Rp K N' v d → Q' d → Q v H') → r vs H Q
def pCB (g : GC) (q : PTA) : PTE := fun wp ρ Q => q wp ρ fun ds ρ1 => g ds fun d => Q d ρ1
theorem sim_cb {K : PySem.W.Frag} {r : List V → Hp → VK → Prop} {g : GC} {t : WX → TA} (hr : CS K S r g) (h : SimA K S t qs) : SimE K S (fun W => tCB r (t W)) (pCB g qs) := fun W wp B N H σ ρ Q Q' R hw q k =>
  h W wp B N H σ ρ _ _ R hw q fun N1 H1 vs ds ρ1 R1 e1 r1 q1 => hr B N1 H1 σ ρ1 vs ds _ _ R1 r1 q1 fun N2 H2 v d R2 e2 r2 q2 => k N2 H2 v d ρ1 R2 (e1.trans e2) r2 q2
variable {id T : String} {r : List V → Hp → VK → Prop} {gc : GC} {x : Str} {p : Pos}
theorem je_callB (hc : CallR X (.builtin id) r) (hr : CS X.K S r gc) (hg : Gl X x) (hm : X.mg x = none) (hv : bootBuiltins x = some (.builtin id)) (ha : JA S X (e :: es) qs) (hn : x ≠ "__name__" := by decide) (hdb : (x == ("__debug__" : Str)) = false := by decide)
    (he : starEach (e :: es) X.env = (false, eval e X.env) :: starEach es X.env := by rfl) (hpl : (backTo pos (starEach es X.env)).any (·.1) = false := by rfl) : JE S X (.Call (.Name x p) (e :: es) [] pos) (pCB gc qs) := by
  obtain ⟨t, h1, h2⟩ := ha
  exact ⟨fun W => tCB r (t W), fun W h => pe_callB hc hg hm hv (h1 W h) hn hdb he hpl, sim_cb hr h2⟩
theorem je_callTy (hc : CallR X (.type T) r) (hr : CS X.K S r gc) (hg : Gl X x) (hm : X.mg x = none) (hv : bootBuiltins x = some (.type T)) (ha : JA S X (e :: es) qs) (hn : x ≠ "__name__" := by decide) (hdb : (x == ("__debug__" : Str)) = false := by decide)
    (he : starEach (e :: es) X.env = (false, eval e X.env) :: starEach es X.env := by rfl) (hpl : (backTo pos (starEach es X.env)).any (·.1) = false := by rfl) : JE S X (.Call (.Name x p) (e :: es) [] pos) (pCB gc qs) := by
  obtain ⟨t, h1, h2⟩ := ha
  exact ⟨fun W => tCB r (t W), fun W h => pe_callTy hc hg hm hv (h1 W h) hn hdb he hpl, sim_cb hr h2⟩
def gLen : GC := fun ds Q => match ds with
  | [.str x] => x.length ≤ sizeLine ∧ Q (.int x.length)
  | [.list xs] => Q (.int xs.length)
  | [.tuple xs] => Q (.int xs.length)
  | _ => False
theorem cs_len {K : PySem.W.Frag} : CS K S (fun xs H Q => ∃ x n, xs = [x] ∧ LenV K x H n ∧ Q (.int n) H) gLen := fun B N H σ ρ vs ds Q Q' R r q k => by
  cases r with
  | nil => exact q.elim
  | cons h t =>
    cases t with
    | cons _ _ => cases h <;> exact q.elim
    | nil =>
      cases h with
      | str z => exact ⟨_, z.length, rfl, ⟨q.1, rfl⟩, k N H _ _ R (Ex.refl _) (.int _) q.2⟩
      | lst h1 h2 => exact ⟨_, _, rfl, .inl ⟨_, .inl (.inl (R.sub _ _ h1)), rfl⟩, k N H _ _ R (Ex.refl _) (by rw [h2.length]; exact .int _) q⟩
      | tup h1 h2 => exact ⟨_, _, rfl, .inr ⟨_, ex_t R.sub h1, rfl⟩, k N H _ _ R (Ex.refl _) (by rw [h2.length]; exact .int _) q⟩
      | _ => exact q.elim
/-- one int -/
def gI1 (f : Int → PyData) : GC := fun ds Q => match ds with
  | [.int i] => Q (f i)
  | _ => False
theorem cs_abs {K : PySem.W.Frag} : CS K S (fun xs H Q => ∃ i, xs = [.int i] ∧ Q (.int (if i < 0 then -i else i)) H) (gI1 fun i => .int (if i < 0 then -i else i)) := fun B N H σ ρ vs ds Q Q' R r q k => by
  cases r with
  | nil => exact q.elim
  | cons h t =>
    cases t with
    | cons _ _ => cases h <;> exact q.elim
    | nil =>
      cases h with
      | int i => exact ⟨i, rfl, k N H _ _ R (Ex.refl _) (.int _) q⟩
      | _ => exact q.elim
def gInt : GC := fun ds Q => match ds with
  | [.int i] => Q (.int i)
  | [.bool k] => Q (.int (if k then 1 else 0))
  | _ => False
theorem cs_int {K : PySem.W.Frag} : CS K S (fun xs H Q => (∃ i, xs = [V.int i] ∧ Q (.int i) H) ∨ ∃ k, xs = [V.bl k] ∧ Q (.int (if k then 1 else 0)) H) gInt := fun B N H σ ρ vs ds Q Q' R r q k => by
  cases r with
  | nil => exact q.elim
  | cons h t =>
    cases t with
    | cons _ _ => cases h <;> exact q.elim
    | nil =>
      cases h with
      | int i => exact .inl ⟨i, rfl, k N H _ _ R (Ex.refl _) (.int _) q⟩
      | bl b => exact .inr ⟨b, rfl, k N H _ _ R (Ex.refl _) (.int _) q⟩
      | _ => exact q.elim
def gI2 (f : Int → Int → PyData) : GC := fun ds Q => match ds with
  | [.int i, .int j] => Q (f i j)
  | _ => False
theorem cs_I2 {K : PySem.W.Frag} {f : Int → Int → V} {g : Int → Int → PyData} (hf : ∀ i j M, Rp K M (f i j) (g i j)) : CS K S (fun xs H Q => ∃ i j, xs = [.int i, .int j] ∧ Q (f i j) H) (gI2 g) := fun B N H σ ρ vs ds Q Q' R r q k => by
  cases r with
  | nil => exact q.elim
  | cons h t =>
    cases t with
    | nil => cases h <;> exact q.elim
    | cons h' t =>
      cases t with
      | cons _ _ => cases h <;> first | exact q.elim | (cases h' <;> exact q.elim)
      | nil =>
        cases h with
        | int i =>
          cases h' with
          | int j => exact ⟨i, j, rfl, k N H _ _ R (Ex.refl _) (hf i j N) q⟩
          | _ => exact q.elim
        | _ => first | exact q.elim | (cases h' <;> exact q.elim)
/-- sum of a list of ints -/
def gSum : GC := fun ds Q => match ds with
  | [.list xs] => ∃ ns : List Int, xs = ns.map .int ∧ Q (.int ns.sum)
  | _ => False
theorem cs_sum {K : PySem.W.Frag} : CS K S (rSum K) gSum := fun B N H σ ρ vs ds Q Q' R r q k => by
  cases r with
  | nil => exact q.elim
  | cons h t =>
    cases t with
    | cons _ _ => cases h <;> exact q.elim
    | nil =>
      cases h with
      | lst h1 h2 =>
        obtain ⟨ns, e, q⟩ := q
        subst e
        refine ⟨_, ns, rfl, ?_, k N H _ _ R (Ex.refl _) (.int _) q⟩
        rw [← h2.of_ints]
        exact .inl (.inl (R.sub _ _ h1))
      | _ => exact q.elim
/-! ### isinstance of data -/
def tyD : PyData → String
  | .none => "NoneType"
  | .bool _ => "bool"
  | .int _ => "int"
  | .str _ => "str"
  | .list _ => "list"
  | .tuple _ => "tuple"
  | .dict _ => "dict"
def isT (n t : String) : Bool := t == n || (n == "int" && t == "bool")
def isD (n : String) (d : PyData) : Bool := isT n (tyD d)
def allT : List String := ["NoneType", "bool", "int", "str", "list", "tuple", "dict"]
theorem tyD_mem (d : PyData) : tyD d ∈ allT := by cases d <;> simp [tyD, allT]
theorem Rp.ty {K : PySem.W.Frag} {N H : Hp} (e : Ex N H) {v : V} {d : PyData} (r : Rp K N v d) : TyX K H v (.type (tyD d)) := by
  cases r with
  | non => exact .base .non
  | bl b => exact .base (.bl b)
  | int i => exact .base (.int i)
  | str x => exact .base (.str x)
  | lst h1 _ => exact .base (.lst (e _ _ h1))
  | tup h1 _ =>
    rcases h1 with (h | ⟨o, h⟩) | ⟨o, its, n, h, c, _⟩
    · exact .base (.tup (e _ _ h))
    · exact .fTuple (e _ _ h)
    · exact .kTuple h c
def pIsi (n : String) (p : PTE) : PTE := fun wp ρ Q => p wp ρ fun d ρ1 => Q (.bool (isD n d)) ρ1
/-- what isinstance needs to know of a built-in class -/
def TyKnown (n : String) : Prop := ∀ d : PyData, kitB (tyD d) n = some (isD n d)
theorem tk_int : TyKnown "int" := fun d => (by decide +kernel : ∀ t ∈ allT, kitB t "int" = some (isT "int" t)) _ (tyD_mem d)
theorem tk_bool : TyKnown "bool" := fun d => (by decide +kernel : ∀ t ∈ allT, kitB t "bool" = some (isT "bool" t)) _ (tyD_mem d)
theorem tk_str : TyKnown "str" := fun d => (by decide +kernel : ∀ t ∈ allT, kitB t "str" = some (isT "str" t)) _ (tyD_mem d)
theorem tk_list : TyKnown "list" := fun d => (by decide +kernel : ∀ t ∈ allT, kitB t "list" = some (isT "list" t)) _ (tyD_mem d)
theorem tk_tuple : TyKnown "tuple" := fun d => (by decide +kernel : ∀ t ∈ allT, kitB t "tuple" = some (isT "tuple" t)) _ (tyD_mem d)
theorem je_isi {n : String} {y : Str} {py : Pos} (tk : TyKnown n) (hg : Gl X "isinstance") (hm : X.mg "isinstance" = none) (hgy : Gl X y) (hmy : X.mg y = none) (hvy : bootBuiltins y = some (.type n)) (ha : JE S X a pa)
    (hn : y ≠ "__name__" := by decide) (hdb : (y == ("__debug__" : Str)) = false := by decide)
    (hs1 : starEach [a, .Name y py] X.env = (false, eval a X.env) :: starEach [.Name y py] X.env := by rfl) (hs2 : starEach [.Name y py] X.env = (false, eval (.Name y py) X.env) :: starEach [] X.env := by rfl) (hpl : (backTo pos (starEach [.Name y py] X.env)).any (·.1) = false := by rfl) :
    JE S X (.Call (.Name "isinstance" p) [a, .Name y py] [] pos) (pIsi n pa) := by
  obtain ⟨ta, a1, a2⟩ := ha
  refine ⟨fun W => tCB (rIsi X.K) (tCons (ta W) (tCons (tC (.ty n)) tNil)), fun W h => pe_callB call_isi hg hm PyProof.Rows.boot_isinstance (pa_cons (a1 W h) (pa_cons (pe_bltn hgy hmy hvy rfl hn hdb) pa_nil hs2) hs1) (by decide) (by decide) hs1 hpl, fun W wp B N H σ ρ Q Q' R hw q k => a2 W wp B N H σ ρ _ _ R hw q fun N1 H1 x dx ρ1 R1 e1 r1 q1 => ?_⟩
  exact ⟨x, .ty n, _, _, isD n dx, rfl, .ty n, r1.ty R1.sub, kit_ty (tk dx), k N1 H1 _ _ ρ1 R1 e1 (.bl _) q1⟩
end
end PD

set_option Elab.async false
set_option linter.all false
set_option maxRecDepth 100000
/-! Statements, loops, calls of own defs, told over data. -/
namespace PD
open PySem L2 GxR

structure PEn where
  nx : List Sl → Prop
  rt : Rt → Prop
  bk : List Sl → Prop := fun _ => False
  ct : List Sl → Prop := fun _ => False
  ex : PWh
abbrev PTS := PEn → List Sl → Prop
def RtOk (K : PySem.W.Frag) (S : Src) (B : Bs) (N H : Hp) (v : V) : Rt → Prop
  | .v d => Rp K N v d
  | .own ds => ∃ a vs, v = .ref a ∧ H a = some (.lst vs) ∧ RpAll K N vs ds ∧ N a = none ∧ B.H a = none
  | .src => ∃ a o, v = .ref a ∧ H a = some o ∧ S.ok N o ∧ N a = none ∧ B.H a = none
theorem ROk.rt {K : PySem.W.Frag} {S : Src} {B : Bs} {N H : Hp} {σ : St} {ρ : List Sl} {v : V} {r : Rt} (h : ROk K S B N H σ ρ v r) : RtOk K S B N H v r := by
  cases r with
  | v d => exact h
  | own ds => obtain ⟨a, vs, h1, h2, h3, h4, h5, _⟩ := h; exact ⟨a, vs, h1, h2, h3, h4, h5⟩
  | src => obtain ⟨a, vs, h1, h2, h3, h4, h5, _⟩ := h; exact ⟨a, vs, h1, h2, h3, h4, h5⟩
/-- what is wanted in the heap follows from what is wanted of data -/
structure Con (K : PySem.W.Frag) (S : Src) (B : Bs) (W : WX) (D : Ends) (P : PEn) : Prop where
  nx : ∀ N H σ ρ, Rel K S B N H σ ρ → P.nx ρ → D.nx σ H
  rt : ∀ N H v r, Ext S B N H → RtOk K S B N H v r → P.rt r → D.rt v H
  bk : ∀ N H σ ρ, Rel K S B N H σ ρ → P.bk ρ → D.bk σ H
  ct : ∀ N H σ ρ, Rel K S B N H σ ρ → P.ct ρ → D.ct σ H
  ex : ∀ c N H σ ρ, Rel K S B N H σ ρ → P.ex c ρ → W c none σ H
theorem Con.w {K : PySem.W.Frag} {S : Src} {B : Bs} {W : WX} {D : Ends} {P : PEn} (h : Con K S B W D P) {σ : St} : WOk K S B σ W P.ex := fun c N H ρ R q => h.ex c N H σ ρ R q
theorem RtOk.lower {K : PySem.W.Frag} {S : Src} {B : Bs} {N H L : Hp} {v : V} {r : Rt} (h : RtOk K S (B.at L) N H v r) : RtOk K S B N H v r := by
  cases r <;> exact h
theorem RtOk.raise {K : PySem.W.Frag} {S : Src} {B : Bs} {N H L : Hp} {v : V} {r : Rt} (h : RtOk K S B N H v r) : RtOk K S (B.at L) N H v r := by
  cases r <;> exact h
theorem Con.raise {K : PySem.W.Frag} {S : Src} {B : Bs} {W : WX} {D : Ends} {P : PEn} {L : Hp} (e : Ex B.L L) (h : Con K S B W D P) : Con K S (B.at L) W D P :=
  ⟨fun N H σ ρ R => h.nx N H σ ρ (R.lower e), fun N H v r x ok => h.rt N H v r (x.lower e) ok.lower, fun N H σ ρ R => h.bk N H σ ρ (R.lower e), fun N H σ ρ R => h.ct N H σ ρ (R.lower e), fun c N H σ ρ R => h.ex c N H σ ρ (R.lower e)⟩
def SimS (K : PySem.W.Frag) (S : Src) (ts : WX → TS) (p : PTS) : Prop := ∀ (W : WX) (D : Ends) (P : PEn) (B : Bs) (N H : Hp) (σ : St) (ρ : List Sl), Rel K S B N H σ ρ → Con K S B W D P → p P ρ → ts W D σ H
def Own (X : Cx) : Prop := PassesOwn (model X.prog X.w) X.A X.env X.xe
def JS (S : Src) (X : Cx) (st : Stmt) (p : PTS) : Prop := ∃ ts : WX → TS, (∀ W, Takes X W → Own X → PS X st (ts W)) ∧ SimS X.K S ts p
def JSs (S : Src) (X : Cx) (st : List Stmt) (p : PTS) : Prop := ∃ ts : WX → TS, (∀ W, Takes X W → Own X → PSs X st (ts W)) ∧ SimS X.K S ts p

section
variable {S : Src} {X : Cx} {e a b c : Expr} {es : List Expr} {pos : Pos} {pa pb : PTE} {pr : PTR} {st : Stmt} {rest body : List Stmt} {ps qs : PTS} {qa : PTT}
def qNx : PTS := fun P ρ => P.nx ρ
def qSeq (p q : PTS) : PTS := fun P ρ => p { P with nx := q P } ρ
theorem jss_nil : JSs S X [] qNx := ⟨fun _ => tNext, fun _ _ _ => pss_nil, fun W D P B N H σ ρ R C q => C.nx N H σ ρ R q⟩
theorem jss_cons (h1 : JS S X st ps) (h2 : JSs S X rest qs) : JSs S X (st :: rest) (qSeq ps qs) := by
  obtain ⟨t, a1, a2⟩ := h1
  obtain ⟨u, b1, b2⟩ := h2
  refine ⟨fun W => tSeq (t W) (u W), fun W k o => pss_cons (a1 W k o) (b1 W k o), fun W D P B N H σ ρ R C q => a2 W { D with nx := u W D } { P with nx := qs P } B N H σ ρ R ⟨fun N1 H1 σ1 ρ1 R1 q1 => b2 W D P B N1 H1 σ1 ρ1 R1 C q1, C.rt, C.bk, C.ct, C.ex⟩ q⟩
theorem jss_one (h1 : JS S X st ps) : JSs S X [st] ps := by
  obtain ⟨t, a1, a2⟩ := h1
  exact ⟨t, fun W k o => pss_one (a1 W k o), a2⟩
theorem js_pass : JS S X (.Pass pos) qNx := ⟨fun _ => tNext, fun _ _ _ => ps_pass, fun W D P B N H σ ρ R C q => C.nx N H σ ρ R q⟩
def qBk : PTS := fun P ρ => P.bk ρ
def qCt : PTS := fun P ρ => P.ct ρ
theorem js_break : JS S X (.Break pos) qBk := ⟨fun _ => tBreak, fun _ _ _ => ps_break, fun W D P B N H σ ρ R C q => C.bk N H σ ρ R q⟩
theorem js_continue : JS S X (.Continue pos) qCt := ⟨fun _ => tCont, fun _ _ _ => ps_continue, fun W D P B N H σ ρ R C q => C.ct N H σ ρ R q⟩
theorem js_doc {x : Str} {j : Nat} {pos' : Pos} : JS S X (.Expr (.Constant (.str x) j pos) pos') qNx := ⟨fun _ => tNext, fun _ _ _ => ps_doc, fun W D P B N H σ ρ R C q => C.nx N H σ ρ R q⟩
def qDrop (p : PTR) : PTS := fun P ρ => p P.ex ρ fun _ ρ1 => P.nx ρ1
theorem js_expr (h : JR S X e pr) (hs : swapsWith e none pos.line X.env = pure false := by rfl) : JS S X (.Expr e pos) (qDrop pr) := by
  obtain ⟨t, a1, a2⟩ := h
  exact ⟨fun W => tDrop (t W), fun W k _ => ps_expr (a1 W k) hs, fun W D P B N H σ ρ R C q => a2 W P.ex B N H σ ρ _ _ R C.w q fun N1 H1 v r ρ1 R1 _ _ q1 => C.nx N1 H1 σ ρ1 R1 q1⟩
def qRet (p : PTR) : PTS := fun P ρ => p P.ex ρ fun r _ => P.rt r
theorem js_ret (h : JR S X e pr) : JS S X (.Return (some e) pos) (qRet pr) := by
  obtain ⟨t, a1, a2⟩ := h
  exact ⟨fun W => tRet (t W), fun W k _ => ps_ret (a1 W k), fun W D P B N H σ ρ R C q => a2 W P.ex B N H σ ρ _ _ R C.w q fun N1 H1 v r ρ1 R1 _ ok q1 => C.rt N1 H1 v r R1.ext ok.rt q1⟩
theorem js_retE (h : JE S X e pa) : JS S X (.Return (some e) pos) (qRet (pER pa)) := js_ret (jr_of h)
def qRetN : PTS := fun P _ => P.rt (.v .none)
theorem js_retN : JS S X (.Return none pos) qRetN := ⟨fun _ => tRetN, fun _ _ _ => ps_retN, fun W D P B N H σ ρ R C q => C.rt N H .non (.v .none) R.ext .non q⟩
/-- return xs, xs a list of ours -/
def qRetO (i : Nat) : PTS := fun P ρ => match ρ[i]? with
  | some (.own ds) => P.rt (.own ds)
  | some .src => P.rt .src
  | some (.v d) => P.rt (.v d)
  | _ => False
theorem js_retO (i : Nat) {x : Str} {px : Pos} (hB : True := trivial) (hN : X.N[i]? = some x := by rfl) (hv : Vis X.env.scope x := by first | exact Or.inl rfl | exact Or.inr (Or.inl rfl) | exact Or.inr (Or.inr rfl)) (hd : (x == ("__debug__" : Str)) = false := by decide)
    (hcd : (x == ("__classdict__" : Str)) = false := by decide) : JS S X (.Return (some (.Name x px)) pos) (fun P ρ => qRetO i P ρ ∧ (ρ[i]? = some .src → False)) := by
  refine ⟨fun _ => tRet (tVar i), fun _ _ _ => ps_ret (pv i hN hv hd hcd), fun W D P B N H σ ρ R C q => ?_⟩
  obtain ⟨q, hns⟩ := q
  unfold qRetO at q
  split at q
  · rename_i ds h
    obtain ⟨x, ex, a, vs, rfl, h1, h2, h3, h4⟩ := R.ok i _ h
    exact ⟨.ref a, ex, C.rt N H _ (.own ds) R.ext ⟨a, vs, rfl, h1, h2, h3, h4⟩ q⟩
  · rename_i h
    exact (hns h).elim
  · rename_i d h
    obtain ⟨x, ex, v, rfl, r⟩ := R.ok i _ h
    exact ⟨v, ex, C.rt N H _ (.v d) R.ext r q⟩
  · exact q.elim
def qIf (t : PTT) (p q : PTS) : PTS := fun P ρ => t P.ex ρ fun k ρ1 => if k = true then p P ρ1 else q P ρ1
theorem js_if {els : List Stmt} (hc : JT S X c qa) (ha : JSs S X body ps) (hb : JSs S X els qs) : JS S X (.If c body els pos) (qIf qa ps qs) := by
  obtain ⟨tc, c1, c2⟩ := hc
  obtain ⟨ta, a1, a2⟩ := ha
  obtain ⟨tb, b1, b2⟩ := hb
  refine ⟨fun W => tIfS (tc W) (ta W) (tb W), fun W k o => ps_if (c1 W k) (a1 W k o) (b1 W k o), fun W D P B N H σ ρ R C q => c2 W P.ex B N H σ ρ _ _ R C.w q fun N1 H1 k ρ1 R1 _ q1 => ?_⟩
  cases k with
  | true => rw [if_pos rfl] at q1 ⊢; exact a2 W D P B N1 H1 σ ρ1 R1 C q1
  | false => rw [if_neg Bool.false_ne_true] at q1 ⊢; exact b2 W D P B N1 H1 σ ρ1 R1 C q1
/-! ### stores -/
def slOf : Rt → Sl
  | .v d => .v d
  | .own ds => .own ds
  | .src => .src
theorem Rel.put {K : PySem.W.Frag} {B : Bs} {N H : Hp} {σ : St} {ρ : List Sl} {i : Nat} {v : V} {r : Rt} (R : Rel K S B N H σ ρ) (ok : ROk K S B N H σ ρ v r) : Rel K S B N H (σ.set i (some v)) (ρ.set i (slOf r)) := by
  cases r with
  | v d => exact R.setV ok
  | own ds =>
    obtain ⟨a, vs, rfl, h1, h2, h3, h4, h5⟩ := ok
    refine R.set ⟨a, vs, rfl, h1, h2, h3, h4⟩ fun _ c hc j t _ ht hm => ?_
    cases hc
    exact h5 j t ht hm
  | src =>
    obtain ⟨a, o, rfl, h1, h2, h3, h4, h5⟩ := ok
    refine R.set ⟨a, o, rfl, h1, h2, h3, .inr h4⟩ fun _ c hc j t _ ht hm => ?_
    cases hc
    exact h5 j t ht hm
def qSet (i : Nat) (p : PTR) : PTS := fun P ρ => p P.ex ρ fun r ρ1 => P.nx (ρ1.set i (slOf r))
theorem js_set (i : Nat) {x : Str} {pos' : Pos} (hN : X.N.Nodup) (h : JR S X e pr) (hi : X.N[i]? = some x := by rfl) (hx : Loc X.env.scope x := by first | exact Or.inl rfl | exact Or.inr rfl) (hs : swapsWith e (some (.Name x pos')) pos.line X.env = pure false := by rfl)
    (hf : X.fn x = true ∨ X.env.scope.names.lookup x = some .local := by first | exact .inl rfl | exact .inr rfl | assumption) : JS S X (.Assign [.Name x pos'] e pos) (qSet i pr) := by
  obtain ⟨t, a1, a2⟩ := h
  exact ⟨fun W => tAsg (t W) (gName i), fun W k _ => ps_set hN hi hx (a1 W k) hs hf, fun W D P B N H σ ρ R C q => a2 W P.ex B N H σ ρ _ _ R C.w q fun N1 H1 v r ρ1 R1 _ ok q1 => C.nx N1 H1 _ _ (R1.put ok) q1⟩
theorem js_setE (i : Nat) {x : Str} {pos' : Pos} (hN : X.N.Nodup) (h : JE S X e pa) (hi : X.N[i]? = some x := by rfl) (hx : Loc X.env.scope x := by first | exact Or.inl rfl | exact Or.inr rfl) (hs : swapsWith e (some (.Name x pos')) pos.line X.env = pure false := by rfl)
    (hf : X.fn x = true ∨ X.env.scope.names.lookup x = some .local := by first | exact .inl rfl | exact .inr rfl | assumption) : JS S X (.Assign [.Name x pos'] e pos) (qSet i (pER pa)) := js_set i hN (jr_of h) hi hx hs hf
/-- x op= e -/
def qAug (i : Nat) (g : G2) (pb : PTE) : PTS := fun P ρ => match ρ[i]? with
  | some (.v dx) => pb P.ex ρ fun dy ρ1 => g dx dy fun d => P.nx (ρ1.set i (.v d))
  | _ => False
theorem js_aug (i : Nat) {x : Str} {pos' : Pos} {op : Operator} {r : R2} {g : G2} (hN : X.N.Nodup) (ho : OpR X (inplaceOp op) r) (hr : R2S X.K S r g) (hb : JE S X e pb) (hi : X.N[i]? = some x := by rfl) (hx : Loc X.env.scope x := by first | exact Or.inl rfl | exact Or.inr rfl)
    (hf : X.fn x = true ∨ X.env.scope.names.lookup x = some .local := by first | exact .inl rfl | exact .inr rfl | assumption) : JS S X (.AugAssign (.Name x pos') op e pos) (qAug i g pb) := by
  obtain ⟨t, b1, b2⟩ := hb
  refine ⟨fun W => tAug i (t W) r, fun W k _ => ps_aug hN hi hx (b1 W k) (fun pins s σ H x y v u Q I rx ry q => ho pins s σ H x y v u Q I rx ry q) hf, fun W D P B N H σ ρ R C q => ?_⟩
  unfold qAug at q
  split at q
  · rename_i dx h
    obtain ⟨x, ex, v, rfl, rx⟩ := R.ok i _ h
    refine ⟨v, ex, b2 W P.ex B N H σ ρ _ _ R C.w q fun N1 H1 y dy ρ1 R1 e1 ry q1 => hr B N1 H1 σ ρ1 v y dx dy _ _ R1 (rx.up e1) ry q1 fun N2 H2 z d R2 e2 rz q2 => C.nx N2 H2 _ _ (R2.setV rz) q2⟩
  · exact q.elim
theorem js_addI (i : Nat) {x : Str} {pos' : Pos} (hN : X.N.Nodup) (hb : JE S X e pb) (hi : X.N[i]? = some x := by rfl) (hx : Loc X.env.scope x := by first | exact Or.inl rfl | exact Or.inr rfl)
    (hf : X.fn x = true ∨ X.env.scope.names.lookup x = some .local := by first | exact .inl rfl | exact .inr rfl | assumption) : JS S X (.AugAssign (.Name x pos') .Add e pos) (qAug i (gI0 fun i j => .int (i + j)) pb) := js_aug i hN iop_add (s_I0 fun _ _ _ => .int _) hb hi hx hf
theorem js_subI (i : Nat) {x : Str} {pos' : Pos} (hN : X.N.Nodup) (hb : JE S X e pb) (hi : X.N[i]? = some x := by rfl) (hx : Loc X.env.scope x := by first | exact Or.inl rfl | exact Or.inr rfl)
    (hf : X.fn x = true ∨ X.env.scope.names.lookup x = some .local := by first | exact .inl rfl | exact .inr rfl | assumption) : JS S X (.AugAssign (.Name x pos') .Sub e pos) (qAug i (gI0 fun i j => .int (i - j)) pb) := js_aug i hN iop_sub (s_I0 fun _ _ _ => .int _) hb hi hx hf
/-! ### a list of ours is changed -/
def ownAt (ρ : List Sl) (i : Nat) : Option (List PyData) := match ρ[i]? with
  | some (.own ds) => some ds
  | some (.brw ds) => some ds
  | _ => none
def setOwn (ρ : List Sl) (i : Nat) (ds : List PyData) : List Sl := match ρ[i]? with
  | some (.own _) => ρ.set i (.own ds)
  | some (.brw _) => ρ.set i (.brw ds)
  | _ => ρ
theorem Rel.ownAt {K : PySem.W.Frag} {B : Bs} {N H : Hp} {σ : St} {ρ : List Sl} {i : Nat} {ds : List PyData} (R : Rel K S B N H σ ρ) (h : ownAt ρ i = some ds) : ∃ a vs, σ[i]? = some (some (.ref a)) ∧ H a = some (.lst vs) ∧ RpAll K N vs ds ∧
    ∀ vs' ds', RpAll K N vs' ds' → Rel K S B N (upd H a (.lst vs')) σ (setOwn ρ i ds') := by
  have key : ∀ (s : Sl) (s' : List PyData → Sl), ρ[i]? = some s → s.mut = true → (∀ ds', (s' ds').mut = true) → ∀ a vs, σ[i]? = some (some (.ref a)) → H a = some (.lst vs) → N a = none → (¬ B.z a) → (B.y a ∨ B.H a = none) →
      (∀ vs' ds', RpAll K N vs' ds' → SlOk K S B N (upd H a (.lst vs')) (s' ds') (some (.ref a))) → ∀ vs' ds', RpAll K N vs' ds' → Rel K S B N (upd H a (.lst vs')) σ (ρ.set i (s' ds')) := by
    intro s s' hs hm hm' a vs ex h1 h3 hz hy ok vs' ds' hr
    have hil : i < ρ.length := (List.getElem?_eq_some_iff.mp hs).1
    refine ⟨R.b, ⟨R.ext.ex, fun b o q => ?_, R.ext.fr, fun b o q nz ny nt => ?_, fun b n => ?_, fun b q => ?_, R.ext.fl, fun b q => ?_⟩, by rw [List.length_set]; exact R.len, fun j t ht => ?_, fun j k t u c ne g1 g2 m1 m2 e1 e2 => ?_⟩
    · rw [upd_ne (fun z => by rw [z, h3] at q; cases q)]
      exact R.sub b o q
    · have hb : b ≠ a := fun z => by
        subst z
        rcases hy with hy | hy
        · exact ny hy
        · rw [hy] at q; cases q
      rw [upd_ne hb]
      exact R.ext.keep b o q nz ny nt
    · by_cases hb : b = a
      · rw [hb, upd_same]; exact nofun
      · rw [upd_ne hb]; exact R.ext.dom b n
    · obtain ⟨o, g1, g2⟩ := R.ext.src b q
      have hb : b ≠ a := fun z => by
        subst z
        exact hz q
      exact ⟨o, by rw [upd_ne hb]; exact g1, g2⟩
    · obtain ⟨ps, g1, g2⟩ := R.ext.tab b q
      exact ⟨ps, by rw [upd_ne (fun z => by rw [z, h1] at g1; cases g1)]; exact g1, g2⟩
    · rcases get_set_cases ht with ⟨rfl, rfl, _⟩ | ⟨ne, ht⟩
      · exact ⟨_, ex, ok _ _ hr⟩
      · obtain ⟨y, ey, q⟩ := R.ok j t ht
        refine ⟨y, ey, ?_⟩
        have na : t.mut = true → ∀ c, y = some (.ref c) → c ≠ a := fun m c hc z => by
          subst hc
          subst z
          exact R.sep j i t _ _ ne ht hs m hm ey ex
        cases t with
        | un => trivial
        | v d => exact q
        | own es =>
          obtain ⟨c, ws, hy, g1, g2⟩ := q
          exact ⟨c, ws, hy, by rw [upd_ne (na rfl c hy)]; exact g1, g2⟩
        | brw es =>
          obtain ⟨c, ws, hy, g1, g2⟩ := q
          exact ⟨c, ws, hy, by rw [upd_ne (na rfl c hy)]; exact g1, g2⟩
        | src =>
          obtain ⟨c, o, hy, g1, g2⟩ := q
          exact ⟨c, o, hy, by rw [upd_ne (na rfl c hy)]; exact g1, g2⟩
        | exc c v => exact q
        | fz ds => exact q
    · rcases get_set_cases g1 with ⟨q1, q2, _⟩ | ⟨n1, k1⟩
      · rcases get_set_cases g2 with ⟨q3, q4, _⟩ | ⟨n2, k2⟩
        · exact ne (q1.trans q3.symm)
        · exact R.sep j k s u c ne (by rw [q1]; exact hs) k2 hm m2 e1 e2
      · rcases get_set_cases g2 with ⟨q3, q4, _⟩ | ⟨n2, k2⟩
        · exact R.sep j k t s c ne k1 (by rw [q3]; exact hs) m1 hm e1 e2
        · exact R.sep j k t u c ne k1 k2 m1 m2 e1 e2
  unfold PD.ownAt at h
  split at h
  · rename_i es hh
    cases h
    obtain ⟨x, ex, a, vs, rfl, h1, h2, h3, h4⟩ := R.ok i _ hh
    refine ⟨a, vs, ex, h1, h2, fun vs' ds' hr => ?_⟩
    have e : setOwn ρ i ds' = ρ.set i (.own ds') := by unfold setOwn; rw [hh]
    rw [e]
    exact key _ Sl.own hh rfl (fun _ => rfl) a vs ex h1 h3 (fun z => by obtain ⟨o, q, _⟩ := R.b.zs a z; rw [h4] at q; cases q) (.inr h4) (fun vs'' ds'' r => ⟨a, vs'', rfl, upd_same, r, h3, h4⟩) vs' ds' hr
  · rename_i es hh
    cases h
    obtain ⟨x, ex, a, vs, rfl, h1, h2, h3, h4⟩ := R.ok i _ hh
    refine ⟨a, vs, ex, h1, h2, fun vs' ds' hr => ?_⟩
    have e : setOwn ρ i ds' = ρ.set i (.brw ds') := by unfold setOwn; rw [hh]
    rw [e]
    exact key _ Sl.brw hh rfl (fun _ => rfl) a vs ex h1 h3 (fun z => R.b.zy a z h4) (.inl h4) (fun vs'' ds'' r => ⟨a, vs'', rfl, upd_same, r, h3, h4⟩) vs' ds' hr
  · cases h
/-- a method of a list of ours: what it holds, the arguments; what comes back, what it holds then -/
abbrev GM := List PyData → List PyData → (PyData → List PyData → Prop) → Prop
def MS (K : PySem.W.Frag) (r : V → List V → Hp → VK → Prop) (g : GM) : Prop := ∀ (N H : Hp) (a : Addr) (vs ws : List V) (ds es : List PyData) (Q : VK) (Q' : PyData → List PyData → Prop), Ex N H → H a = some (.lst vs) → RpAll K N vs ds → RpAll K N ws es → g ds es Q' →
  (∀ v d vs' ds', Rp K N v d → RpAll K N vs' ds' → Q' d ds' → Q v (upd H a (.lst vs'))) → r (.ref a) ws H Q
def pMt (i : Nat) (g : GM) (q : PTA) : PTE := fun wp ρ Q => (∃ ds, ownAt ρ i = some ds) ∧ q wp ρ fun es ρ1 => match ownAt ρ1 i with
  | some ds => g ds es fun d ds' => Q d (setOwn ρ1 i ds')
  | none => False
variable {x name : Str} {px ap cp : Pos} {T id : String} {r : V → List V → Hp → VK → Prop} {g : GM} {qs' : PTA}
theorem sim_mt {K : PySem.W.Frag} {i : Nat} {t : WX → TA} (hr : MS K r g) (h : SimA K S t qs') : SimE K S (fun W => tBM K "list" r (tVar i) (t W)) (pMt i g qs') := fun W wp B N H σ ρ Q Q' R hw q k => by
  obtain ⟨⟨ds0, h0⟩, q⟩ := q
  obtain ⟨a, vs0, ex, h1, _⟩ := R.ownAt h0
  refine ⟨.ref a, ex, .inl ⟨rfl, _, .inl (.inl h1)⟩, h W wp B N H σ ρ _ _ R hw q fun N1 H1 ws es ρ1 R1 e1 r1 q1 => ?_⟩
  cases h2 : PD.ownAt ρ1 i with
  | none => rw [h2] at q1; exact q1.elim
  | some ds =>
    rw [h2] at q1
    obtain ⟨a', vs, ex', g1, g2, g3⟩ := R1.ownAt h2
    rw [ex] at ex'
    cases ex'
    exact hr N1 H1 a vs ws ds es _ _ R1.sub g1 g2 r1 q1 fun v d vs' ds' rv rvs q2 => k N1 _ v d _ (g3 vs' ds' rvs) e1 rv q2
theorem je_mt (i : Nat) (pa : PlainAttrs "list") (slot : Slot "list" name id) (hty : typeOf (.builtin id) = pure (.type "method_descriptor")) (hm : MtR X id r) (hr : MS X.K r g) (ha : JA S X (e :: es) qs')
    (hN : X.N[i]? = some x := by rfl) (hv : Vis X.env.scope x := by first | exact Or.inl rfl | exact Or.inr (Or.inl rfl) | exact Or.inr (Or.inr rfl)) (hd : (x == ("__debug__" : Str)) = false := by decide)
    (hcd : (x == ("__classdict__" : Str)) = false := by decide) (hbase : attributeBase (.Name x px) name X.env (eval (.Name x px) X.env) = eval (.Name x px) X.env := by rfl)
    (hfew : ((backTo cp (starEach (e :: es) X.env)).all (fun x => !x.1) && (backToKw cp (keywordEach [] X.env)).all (fun x => x.1.isSome)
      && decide ((e :: es).length + ([] : List Keyword).length + (if ([] : List Keyword).isEmpty then 0 else 1) < 30)) = true := by rfl)
    (hline : (ap.endLine == cp.line) = true := by rfl) (hs : starEach (e :: es) X.env = (false, eval e X.env) :: starEach es X.env := by rfl) (hplain : (backTo cp (starEach es X.env)).any (·.1) = false := by rfl) :
    JE S X (.Call (.Attribute (.Name x px) name ap) (e :: es) [] cp) (pMt i g qs') := by
  obtain ⟨t, h1, h2⟩ := ha
  exact ⟨fun W => tBM X.K "list" r (tVar i) (t W), fun W k => pe_bm pa slot hty hm (pv i hN hv hd hcd) (h1 W k) hbase hfew hline hs hplain, sim_mt hr h2⟩
theorem je_mt0 (i : Nat) (pa : PlainAttrs "list") (slot : Slot "list" name id) (hty : typeOf (.builtin id) = pure (.type "method_descriptor")) (hm : MtR X id r) (hr : MS X.K r g)
    (hN : X.N[i]? = some x := by rfl) (hv : Vis X.env.scope x := by first | exact Or.inl rfl | exact Or.inr (Or.inl rfl) | exact Or.inr (Or.inr rfl)) (hd : (x == ("__debug__" : Str)) = false := by decide)
    (hcd : (x == ("__classdict__" : Str)) = false := by decide) (hbase : attributeBase (.Name x px) name X.env (eval (.Name x px) X.env) = eval (.Name x px) X.env := by rfl) (hline : (ap.endLine == cp.line) = true := by rfl) :
    JE S X (.Call (.Attribute (.Name x px) name ap) [] [] cp) (pMt i g pNil) := by
  refine ⟨fun W => tBM0 X.K "list" r (tVar i), fun W k => pe_bm0 pa slot hty hm (pv i hN hv hd hcd) hbase hline, fun W wp B N H σ ρ Q Q' R hw q k => ?_⟩
  have z := sim_mt (S := S) (t := fun _ => tNil) (i := i) hr (qs' := pNil) (fun W wp B N H σ ρ Q Q' R hw q k => k N H [] [] ρ R (Ex.refl _) .nil q) W wp B N H σ ρ Q Q' R hw q k
  exact z
def gAppend : GM := fun ds es Q => match es with
  | [d] => ds.length < sizeLine ∧ Q .none (ds ++ [d])
  | _ => False
theorem ms_append {K : PySem.W.Frag} : MS K rAppend gAppend := fun N H a vs ws ds es Q Q' e h1 h2 h3 q k => by
  cases h3 with
  | nil => exact q.elim
  | cons h t =>
    cases t with
    | cons _ _ => exact q.elim
    | nil => exact ⟨a, vs, _, rfl, rfl, h1, by rw [h2.length]; exact q.1, k _ _ _ _ .non (h2.append (.cons h .nil)) q.2⟩
def gPop : GM := fun ds es Q => match es with
  | [] => ∃ d, ds[ds.length - 1]? = some d ∧ Q d ds.dropLast
  | _ => False
theorem ms_pop {K : PySem.W.Frag} : MS K rPop gPop := fun N H a vs ws ds es Q Q' e h1 h2 h3 q k => by
  cases h3 with
  | cons _ _ => exact q.elim
  | nil =>
    obtain ⟨d, g1, q⟩ := q
    obtain ⟨v, g2, g3⟩ := h2.get g1
    exact ⟨a, vs, v, rfl, rfl, h1, by rw [h2.length]; exact g2, k _ _ _ _ g3 h2.dropLast q⟩
end
end PD

set_option Elab.async false
set_option linter.all false
set_option maxRecDepth 100000
/-! Calls of own defs, their promises; loops; exceptions: told over data. -/
namespace PD
open PySem L2 GxR

/-- what a def does: the arguments; what is wanted of what comes back, of the class of an exception -/
abbrev PSpec := List Sl → (Rt → Prop) → (Value → Prop) → Prop
def spOf (K : PySem.W.Frag) (S : Src) (P : PSpec) : Sp := fun vs H Q E => ∃ (B : Bs) (as : List Sl) (Qr : Rt → Prop) (Qe : Value → Prop), B.H = H ∧ Rel K S B B.M H (vs.map some) as ∧ P as Qr Qe ∧
  (∀ N H' v r, Ext S B N H' → RtOk K S B N H' v r → Qr r → Q v H') ∧ (∀ c N H', Ext S B N H' → Qe c → E c none H')
def atMostOne : List Sl → Bool
  | [] => true
  | s :: r => if s.mut then r.all (fun t => !t.mut) else atMostOne r
theorem atMostOne_ok : ∀ {l : List Sl}, atMostOne l = true → ∀ {i j : Nat} {s t : Sl}, l[i]? = some s → l[j]? = some t → s.mut = true → t.mut = true → i = j
  | [], _, _, _, _, _, h, _, _, _ => by simp at h
  | x :: r, hl, i, j, s, t, h1, h2, m1, m2 => by
    unfold atMostOne at hl
    cases hx : x.mut with
    | true =>
      rw [hx, if_pos rfl, List.all_eq_true] at hl
      cases i with
      | zero =>
        cases j with
        | zero => rfl
        | succ j =>
          have := hl t (List.mem_of_getElem? (by simpa using h2))
          rw [m2] at this
          cases this
      | succ i =>
        have := hl s (List.mem_of_getElem? (by simpa using h1))
        rw [m1] at this
        cases this
    | false =>
      rw [hx, if_neg Bool.false_ne_true] at hl
      cases i with
      | zero =>
        simp at h1
        subst h1
        rw [hx] at m1
        cases m1
      | succ i =>
        cases j with
        | zero =>
          simp at h2
          subst h2
          rw [hx] at m2
          cases m2
        | succ j => rw [atMostOne_ok hl (i := i) (j := j) (by simpa using h1) (by simpa using h2) m1 m2]

/-- the arguments of a call: data, and sources that stand in slots of ours -/
def CArgs (K : PySem.W.Frag) (N : Hp) (σ : St) (ρ : List Sl) : List V → List Sl → Prop
  | [], [] => True
  | v :: vs, s :: as => (match s with
    | .v d => Rp K N v d
    | .src => ∃ j : Nat, ρ[j]? = some .src ∧ σ[j]? = some (some v)
    | .fz ds => ∃ a ws, v = .ref a ∧ SqL K N a ws ∧ RpAll K N ws ds
    | _ => False) ∧ CArgs K N σ ρ vs as
  | _, _ => False
theorem CArgs.get {K : PySem.W.Frag} {N : Hp} {σ : St} {ρ : List Sl} : ∀ {vs : List V} {as : List Sl} {i : Nat} {s : Sl}, CArgs K N σ ρ vs as → as[i]? = some s → ∃ v, vs[i]? = some v ∧ (match s with
    | .v d => Rp K N v d
    | .src => ∃ j : Nat, ρ[j]? = some .src ∧ σ[j]? = some (some v)
    | .fz ds => ∃ a ws, v = .ref a ∧ SqL K N a ws ∧ RpAll K N ws ds
    | _ => False)
  | [], [], _, _, _, e => by simp at e
  | v :: vs, s :: as, 0, t, h, e => by
    simp at e
    subst e
    exact ⟨v, rfl, h.1⟩
  | v :: vs, s :: as, i + 1, t, h, e => by
    obtain ⟨u, h1, h2⟩ := CArgs.get (i := i) (s := t) h.2 (by simpa using e)
    exact ⟨u, by simpa using h1, h2⟩
  | [], _ :: _, _, _, h, _ => h.elim
  | _ :: _, [], _, _, h, _ => h.elim
theorem CArgs.length {K : PySem.W.Frag} {N : Hp} {σ : St} {ρ : List Sl} : ∀ {vs : List V} {as : List Sl}, CArgs K N σ ρ vs as → vs.length = as.length
  | [], [], _ => rfl
  | v :: vs, s :: as, h => by rw [List.length_cons, List.length_cons, CArgs.length h.2]
  | [], _ :: _, h => h.elim
  | _ :: _, [], h => h.elim
abbrev PTC := PWh → List Sl → (List Sl → List Sl → Prop) → Prop
def SimC (K : PySem.W.Frag) (S : Src) (te : WX → TA) (p : PTC) : Prop := ∀ (W : WX) (wp : PWh) (B : Bs) (N H : Hp) (σ : St) (ρ : List Sl) (Q : List V → Hp → Prop) (Q' : List Sl → List Sl → Prop), Rel K S B N H σ ρ → WOk K S B σ W wp → p wp ρ Q' →
  (∀ N' H' vs as ρ', Rel K S B N' H' σ ρ' → Ex N N' → CArgs K N' σ ρ' vs as → Q' as ρ' → Q vs H') → te W σ H Q
def JC (S : Src) (X : Cx) (es : List Expr) (p : PTC) : Prop := ∃ te : WX → TA, (∀ W, Takes X W → PA X es (te W)) ∧ SimC X.K S te p
def pcNil : PTC := fun _ ρ Q => Q [] ρ
def pcCons (p : PTE) (q : PTC) : PTC := fun wp ρ Q => p wp ρ fun d ρ1 => q wp ρ1 fun as ρ2 => Q (.v d :: as) ρ2
def pcSrc (i : Nat) (q : PTC) : PTC := fun wp ρ Q => ρ[i]? = some .src ∧ q wp ρ fun as ρ1 => ρ1[i]? = some .src ∧ Q (.src :: as) ρ1
section
variable {S : Src} {X : Cx} {e a b c : Expr} {es : List Expr} {pos : Pos} {pa pb : PTE} {pr : PTR} {pcs : PTC}
theorem jc_nil : JC S X [] pcNil := ⟨fun _ => tNil, fun _ _ => pa_nil, fun W wp B N H σ ρ Q Q' R hw q k => k N H [] [] ρ R (Ex.refl _) trivial q⟩
theorem jc_cons (ha : JE S X e pa) (hr : JC S X es pcs) (hs : starEach (e :: es) X.env = (false, eval e X.env) :: starEach es X.env := by rfl) : JC S X (e :: es) (pcCons pa pcs) := by
  obtain ⟨ta, a1, a2⟩ := ha
  obtain ⟨tb, b1, b2⟩ := hr
  exact ⟨fun W => tCons (ta W) (tb W), fun W h => pa_cons (a1 W h) (b1 W h) hs, fun W wp B N H σ ρ Q Q' R hw q k => a2 W wp B N H σ ρ _ _ R hw q fun N1 H1 x dx ρ1 R1 e1 r1 q1 => b2 W wp B N1 H1 σ ρ1 _ _ R1 hw q1 fun N2 H2 vs ds ρ2 R2 e2 r2 q2 =>
    k N2 H2 (x :: vs) (.v dx :: ds) ρ2 R2 (e1.trans e2) ⟨r1.up e2, r2⟩ q2⟩
theorem jc_src (i : Nat) {x : Str} {px : Pos} (hr : JC S X es pcs) (hN : X.N[i]? = some x := by rfl) (hv : Vis X.env.scope x := by first | exact Or.inl rfl | exact Or.inr (Or.inl rfl) | exact Or.inr (Or.inr rfl)) (hd : (x == ("__debug__" : Str)) = false := by decide)
    (hcd : (x == ("__classdict__" : Str)) = false := by decide) (hs : starEach (.Name x px :: es) X.env = (false, eval (.Name x px) X.env) :: starEach es X.env := by rfl) : JC S X (.Name x px :: es) (pcSrc i pcs) := by
  obtain ⟨tb, b1, b2⟩ := hr
  refine ⟨fun W => tCons (tVar i) (tb W), fun W h => pa_cons (pv i hN hv hd hcd) (b1 W h) hs, fun W wp B N H σ ρ Q Q' R hw q k => ?_⟩
  obtain ⟨h, q⟩ := q
  obtain ⟨x, ex, a, o, rfl, h1, _⟩ := R.ok i _ h
  exact ⟨.ref a, ex, b2 W wp B N H σ ρ _ _ R hw q fun N2 H2 vs ds ρ2 R2 e2 r2 q2 => k N2 H2 (.ref a :: vs) (.src :: ds) ρ2 R2 e2 ⟨⟨i, q2.1, ex⟩, r2⟩ q2.2⟩

/-- a list that stays as it is for good -/
def pcFz (i : Nat) (q : PTC) : PTC := fun wp ρ Q => match ρ[i]? with
  | some (.fz ds) => q wp ρ fun as ρ1 => Q (.fz ds :: as) ρ1
  | _ => False
theorem jc_fz (i : Nat) {x : Str} {px : Pos} (hr : JC S X es pcs) (hN : X.N[i]? = some x := by rfl) (hv : Vis X.env.scope x := by first | exact Or.inl rfl | exact Or.inr (Or.inl rfl) | exact Or.inr (Or.inr rfl)) (hd : (x == ("__debug__" : Str)) = false := by decide)
    (hcd : (x == ("__classdict__" : Str)) = false := by decide) (hs : starEach (.Name x px :: es) X.env = (false, eval (.Name x px) X.env) :: starEach es X.env := by rfl) : JC S X (.Name x px :: es) (pcFz i pcs) := by
  obtain ⟨tb, b1, b2⟩ := hr
  refine ⟨fun W => tCons (tVar i) (tb W), fun W h => pa_cons (pv i hN hv hd hcd) (b1 W h) hs, fun W wp B N H σ ρ Q Q' R hw q k => ?_⟩
  unfold pcFz at q
  split at q
  · rename_i ds h
    obtain ⟨x, ex, a, ws, rfl, h1, h2⟩ := R.ok i _ h
    exact ⟨.ref a, ex, b2 W wp B N H σ ρ _ _ R hw q fun N2 H2 vs as ρ2 R2 e2 r2 q2 => k N2 H2 (.ref a :: vs) (.fz ds :: as) ρ2 R2 e2 ⟨⟨a, ws, rfl, ex_l e2 h1, h2.up e2⟩, r2⟩ q2⟩
  · exact q.elim

/-- where a callee begins -/
def calleeB (N H : Hp) (vs : List V) (as : List Sl) : Bs := ⟨fun b => ∃ i : Nat, as[i]? = some .src ∧ vs[i]? = some (.ref b), fun _ => False, N, H, N⟩
theorem Rel.callee {K : PySem.W.Frag} {B : Bs} {N H : Hp} {σ : St} {ρ : List Sl} {vs : List V} {as : List Sl} (R : Rel K S B N H σ ρ) (h : CArgs K N σ ρ vs as) (one : atMostOne as = true) :
    Rel K S (calleeB N H vs as) N H (vs.map some) as ∧ ∀ b, (calleeB N H vs as).z b → ∃ j : Nat, ρ[j]? = some .src ∧ σ[j]? = some (some (.ref b)) := by
  have src : ∀ b, (calleeB N H vs as).z b → ∃ j : Nat, ρ[j]? = some .src ∧ σ[j]? = some (some (.ref b)) := fun b ⟨i, h1, h2⟩ => by
    obtain ⟨v, e, j, g1, g2⟩ := h.get h1
    rw [h2] at e
    cases e
    exact ⟨j, g1, g2⟩
  have at_ : ∀ b, (calleeB N H vs as).z b → ∃ o, H b = some o ∧ S.ok N o ∧ N b = none := fun b hb => by
    obtain ⟨j, g1, g2⟩ := src b hb
    obtain ⟨x, ex, a, o, e, h1, h2, h3, _⟩ := R.ok j _ g1
    rw [g2] at ex
    cases ex
    cases e
    exact ⟨o, h1, h2, h3⟩
  have ok : (calleeB N H vs as).Ok S := ⟨R.sub, fun b hb => by obtain ⟨o, _, _, h3⟩ := at_ b hb; exact h3, fun _ z => z.elim, fun _ z => z.elim, fun b hb => by obtain ⟨o, h1, h2, _⟩ := at_ b hb; exact ⟨o, h1, h2⟩, fun _ _ z => z, fun b hb => R.tN hb, R.ext.tab⟩
  refine ⟨⟨ok, Ext.refl ok (Ex.refl _), by rw [List.length_map]; exact h.length, fun i s hs => ?_, fun i j s t a ne h1 h2 m1 m2 e1 e2 => ne (atMostOne_ok one h1 h2 m1 m2)⟩, src⟩
  obtain ⟨v, e, q⟩ := h.get hs
  refine ⟨some v, by rw [List.getElem?_map, e]; rfl, ?_⟩
  cases s with
  | v d => exact ⟨v, rfl, q⟩
  | src =>
    obtain ⟨j, g1, g2⟩ := q
    obtain ⟨x, ex, a, o, e', h1, h2, h3, _⟩ := R.ok j _ g1
    rw [g2] at ex
    cases ex
    cases e'
    exact ⟨a, o, rfl, h1, h2, h3, .inl ⟨i, hs, e⟩⟩
  | un => exact q.elim
  | own _ => exact q.elim
  | brw _ => exact q.elim
  | exc _ _ => exact q.elim
  | fz ds => obtain ⟨a, ws, e', h1, h2⟩ := q; exact ⟨a, ws, by rw [e'], h1, h2⟩
/-- behind it -/
theorem Rel.after {K : PySem.W.Frag} {B B' : Bs} {N H N2 H2 : Hp} {σ : St} {ρ : List Sl} (R : Rel K S B N H σ ρ) (hM : B'.M = N) (hH : B'.H = H) (hz : ∀ b, B'.z b → ∃ j : Nat, ρ[j]? = some .src ∧ σ[j]? = some (some (.ref b))) (hy : ∀ b, ¬ B'.y b)
    (x : Ext S B' N2 H2) : Rel K S B N2 H2 σ ρ := by
  obtain ⟨z', y', M', H', L'⟩ := B'
  cases hM
  cases hH
  have zsrc : ∀ b, z' b → B.z b ∨ B.H b = none := fun b hb => by
    obtain ⟨j, g1, g2⟩ := hz b hb
    obtain ⟨x, ex, a, o, e, _, _, _, h4⟩ := R.ok j _ g1
    rw [g2] at ex
    cases ex
    cases e
    exact h4
  refine ⟨R.b, Ext.trans R.b R.ext zsrc (fun b h => (hy b h).elim) x, R.len, fun j s hs => ?_, R.sep⟩
  obtain ⟨y, ey, q⟩ := R.ok j s hs
  refine ⟨y, ey, ?_⟩
  have nz : s.mut = true → (∀ t, s = t → t ≠ .src) → ∀ a, y = some (.ref a) → ¬ z' a := fun m ns a hy' hz' => by
    subst hy'
    obtain ⟨k, g1, g2⟩ := hz a hz'
    by_cases ejk : j = k
    · subst ejk
      rw [hs] at g1
      exact ns s rfl (Option.some.inj g1)
    · exact R.sep j k s .src a ejk hs g1 m rfl ey g2
  have ne : ∀ {a : Addr} {o : HO}, H' a = some o → H' a ≠ none := fun h => by rw [h]; exact nofun
  cases s with
  | un => trivial
  | v d => obtain ⟨v, e, r⟩ := q; exact ⟨v, e, r.up x.ex⟩
  | own ds =>
    obtain ⟨a, vs, e, h1, h2, h3, h4⟩ := q
    exact ⟨a, vs, e, x.keep a _ h1 (nz rfl (fun t ht z => by rw [← ht] at z; cases z) a e) (hy a) (fun ht => tab_not (R.ext.tab a ht) h1 (fun ps z => by cases z)), h2.up x.ex, x.fr a h3 (ne h1), h4⟩
  | brw ds =>
    obtain ⟨a, vs, e, h1, h2, h3, h4⟩ := q
    exact ⟨a, vs, e, x.keep a _ h1 (nz rfl (fun t ht z => by rw [← ht] at z; cases z) a e) (hy a) (fun ht => tab_not (R.ext.tab a ht) h1 (fun ps z => by cases z)), h2.up x.ex, x.fr a h3 (ne h1), h4⟩
  | src =>
    obtain ⟨a, o, e, h1, h2, h3, h4⟩ := q
    by_cases hza : z' a
    · obtain ⟨o', g1, g2⟩ := x.src a hza
      exact ⟨a, o', e, g1, g2, x.fr a h3 (ne h1), h4⟩
    · exact ⟨a, o, e, x.keep a o h1 hza (hy a) (fun ht => tab_nots (R.ext.tab a ht) h1 h2), S.mono _ _ _ x.ex h2, x.fr a h3 (ne h1), h4⟩
  | exc a c => exact q
  | fz ds => obtain ⟨a, vs, e, h1, h2⟩ := q; exact ⟨a, vs, e, ex_l x.ex h1, h2.up x.ex⟩
/-- f(..) -/
def pCall (P : PSpec) (q : PTC) : PTR := fun wp ρ Q => q wp ρ fun as ρ1 => atMostOne as = true ∧ P as (fun r => Q r ρ1) fun c => wp c ρ1
variable {k : Nat} {f : Addr} {fd : FuncData} {ps : List Str} {P : PSpec} {x : Str} {p : Pos}
theorem jr_call (F : FnOk X.prog X.w X.K X.mg X.base (L2.CX X.prog X.w) k f fd ps (spOf X.K S P)) (hr : Room k X.A) (hg : Gl X x) (hm : X.mg x = some (.ref f)) (hk : PySem.W.keepIn X.K (.ref f) = true) (hb : Binds X.K fd ps [])
    (ha : JC S X (e :: es) pcs) (hdb : (x == ("__debug__" : Str)) = false := by decide) (he : starEach (e :: es) X.env = (false, eval e X.env) :: starEach es X.env := by rfl) (hpl : (backTo pos (starEach es X.env)).any (·.1) = false := by rfl) :
    JR S X (.Call (.Name x p) (e :: es) [] pos) (pCall P pcs) := by
  obtain ⟨t, h1, h2⟩ := ha
  refine ⟨fun W => tCallS (spOf X.K S P) (WE W) (t W), fun W tk => pe_callS F hr hg hm hk hb (passAt tk) (h1 W tk) hdb he hpl, fun W wp B N H σ ρ Q Q' R hw q kk => h2 W wp B N H σ ρ _ _ R hw q fun N1 H1 vs as ρ1 R1 e1 ca q1 => ?_⟩
  obtain ⟨one, q1⟩ := q1
  obtain ⟨RC, src⟩ := R1.callee ca one
  refine ⟨calleeB N1 H1 vs as, as, _, _, rfl, RC, q1, fun N2 H2 v r x2 ok q2 => ?_, fun c N2 H2 x2 q2 => ?_⟩
  · have R2 := R1.after rfl rfl src (fun _ z => z) x2
    refine kk N2 H2 v r ρ1 R2 (e1.trans x2.ex) ?_ q2
    cases r with
    | v d => exact ok
    | own ds =>
      obtain ⟨a, ws, g1, g2, g3, g4, g5⟩ := ok
      exact ⟨a, ws, g1, g2, g3, g4, R1.fresh g5, R1.away g5⟩
    | src =>
      obtain ⟨a, ws, g1, g2, g3, g4, g5⟩ := ok
      exact ⟨a, ws, g1, g2, g3, g4, R1.fresh g5, R1.away g5⟩
  · exact hw c N2 H2 ρ1 (R1.after rfl rfl src (fun _ z => z) x2) q2
theorem je_call (F : FnOk X.prog X.w X.K X.mg X.base (L2.CX X.prog X.w) k f fd ps (spOf X.K S P)) (hr : Room k X.A) (hg : Gl X x) (hm : X.mg x = some (.ref f)) (hk : PySem.W.keepIn X.K (.ref f) = true) (hb : Binds X.K fd ps [])
    (ha : JC S X (e :: es) pcs) (hdb : (x == ("__debug__" : Str)) = false := by decide) (he : starEach (e :: es) X.env = (false, eval e X.env) :: starEach es X.env := by rfl) (hpl : (backTo pos (starEach es X.env)).any (·.1) = false := by rfl) :
    JE S X (.Call (.Name x p) (e :: es) [] pos) (pRE (pCall P pcs)) := je_of (jr_call F hr hg hm hk hb ha hdb he hpl)
end

/-! ### a def keeps its promise -/
theorem start_eq {N : List Str} {vs : List V} : start N vs = vs.map some ++ List.replicate (N.length - vs.length) none := rfl
theorem Rel.start {K : PySem.W.Frag} {S : Src} {B : Bs} {N H : Hp} {vs : List V} {as : List Sl} (R : Rel K S B N H (vs.map some) as) (m : Nat) : Rel K S B N H (vs.map some ++ List.replicate m none) (as ++ List.replicate m .un) := by
  have hl : vs.length = as.length := by
    have := R.len
    rw [List.length_map] at this
    exact this
  refine ⟨R.b, R.ext, by rw [List.length_append, List.length_append, List.length_map, hl, List.length_replicate, List.length_replicate], fun i s h => ?_, fun i j s t a ne h1 h2 m1 m2 e1 e2 => ?_⟩
  · by_cases hi : i < as.length
    · rw [List.getElem?_append_left hi] at h
      obtain ⟨x, e, q⟩ := R.ok i s h
      exact ⟨x, by rw [List.getElem?_append_left (by rw [List.length_map, hl]; exact hi)]; exact e, q⟩
    · rw [List.getElem?_append_right (by omega), List.getElem?_replicate] at h
      split at h
      · rename_i hlt
        cases h
        exact ⟨none, by rw [List.getElem?_append_right (by rw [List.length_map, hl]; omega), List.getElem?_replicate, if_pos (by rw [List.length_map, hl]; exact hlt)], trivial⟩
      · cases h
  · have lt : ∀ {i : Nat} {s : Sl}, (as ++ List.replicate m .un)[i]? = some s → s.mut = true → i < as.length ∧ as[i]? = some s := fun {i s} h hm => by
      by_cases hi : i < as.length
      · rw [List.getElem?_append_left hi] at h
        exact ⟨hi, h⟩
      · rw [List.getElem?_append_right (by omega), List.getElem?_replicate] at h
        split at h
        · cases h
          cases hm
        · cases h
    obtain ⟨l1, k1⟩ := lt h1 m1
    obtain ⟨l2, k2⟩ := lt h2 m2
    rw [List.getElem?_append_left (by rw [List.length_map, hl]; exact l1)] at e1
    rw [List.getElem?_append_left (by rw [List.length_map, hl]; exact l2)] at e2
    exact R.sep i j s t a ne k1 k2 m1 m2 e1 e2
/-- how a def's slots stand at its entry -/
def begin_ (n : Nat) (as : List Sl) : List Sl := as ++ List.replicate (n - as.length) .un
def enOf (Qr : Rt → Prop) (Qe : Value → Prop) : PEn := { nx := fun _ => Qr (.v .none), rt := Qr, ex := fun c _ => Qe c }
section
variable {P : Program} {w : World} {K : PySem.W.Frag} {mg : Str → Option Value} {base : Heap} {S : Src}
theorem okD {x qual : Str} {st : Stmt} {f : Addr} {fd : FuncData} {N ps : List Str} {k : Nat} {P' : PSpec} {p : PTS} (F : Fun K x qual st f fd) (sc : FnScope N ps (defScope st)) (hl : ∀ as Qr Qe, P' as Qr Qe → as.length = ps.length)
    (body : ∀ (cdv : Value) (A : Around) (outer : List Env) (s : Shared) (H : Hp) (E : XK), Room k (A.deeper (PyProof.Rows.envOfC qual (defScope st) s.heap.objs.size f cdv)) → JSs S (cxOf (L2.CX P w) P w K mg base N qual (defScope st) f cdv A outer s H E) (defBody st) p)
    (h : ∀ as Qr Qe, P' as Qr Qe → p (enOf Qr Qe) (begin_ N.length as)) : FnOk P w K mg base (L2.CX P w) (k + 1) f fd ps (spOf K S P') := by
  refine F.okX sc (fun vs H Q E hs => ?_) (fun cdv A outer s H vs Q E hr hs => ?_)
  · obtain ⟨B, as, Qr, Qe, _, R, hp, _⟩ := hs
    have := R.len
    rw [List.length_map] at this
    rw [this]
    exact hl as Qr Qe hp
  · obtain ⟨B, as, Qr, Qe, rfl, R, hp, kr, ke⟩ := hs
    obtain ⟨ts, b1, b2⟩ := body cdv A outer s B.H E hr
    refine ⟨ts _, b1 (fun cls d _ H => E cls d H) (takes_of rfl rfl rfl rfl) (passes_of rfl), ?_⟩
    have hlen : vs.length = as.length := by
      have := R.len
      rw [List.length_map] at this
      exact this
    have R2 := R.start (N.length - vs.length)
    rw [show List.replicate (N.length - vs.length) Sl.un = List.replicate (N.length - as.length) Sl.un by rw [hlen]] at R2
    exact b2 _ _ (enOf Qr Qe) B B.M B.H _ _ R2 ⟨fun N1 H1 σ ρ R1 q => kr N1 H1 _ (.v .none) R1.ext .non q, fun N1 H1 v r x ok q => kr N1 H1 v r x ok q, fun _ _ _ _ _ z => z.elim, fun _ _ _ _ _ z => z.elim, fun c N1 H1 σ ρ R1 q => ke c N1 H1 R1.ext q⟩ (h as Qr Qe hp)
end
end PD

set_option Elab.async false
set_option linter.all false
set_option maxRecDepth 100000
/-! Targets, loops, exceptions: told over data. -/
namespace PD
open PySem L2 GxR

/-! ### targets -/
abbrev PTG := PyData → List Sl → (List Sl → Prop) → Prop
def SimG (K : PySem.W.Frag) (S : Src) (g : TG) (p : PTG) : Prop := ∀ (B : Bs) (N H : Hp) (σ : St) (ρ : List Sl) (v : V) (d : PyData) (Q : St → Hp → Prop) (Q' : List Sl → Prop), Rel K S B N H σ ρ → Rp K N v d → p d ρ Q' →
  (∀ N' H' σ' ρ', Rel K S B N' H' σ' ρ' → Ex N N' → Q' ρ' → Q σ' H') → g v σ H Q
def JG (S : Src) (X : Cx) (tg : Expr) (p : PTG) : Prop := ∃ g, PG X tg g ∧ SimG X.K S g p
abbrev PTGs := List PyData → List Sl → (List Sl → Prop) → Prop
def SimGs (K : PySem.W.Frag) (S : Src) (g : TGs) (p : PTGs) : Prop := ∀ (B : Bs) (N H : Hp) (σ : St) (ρ : List Sl) (vs : List V) (ds : List PyData) (Q : St → Hp → Prop) (Q' : List Sl → Prop), Rel K S B N H σ ρ → RpAll K N vs ds → p ds ρ Q' →
  (∀ N' H' σ' ρ', Rel K S B N' H' σ' ρ' → Ex N N' → Q' ρ' → Q σ' H') → g vs σ H Q
def JGs (S : Src) (X : Cx) (tgs : List Expr) (p : PTGs) : Prop := ∃ g, PGs X tgs g ∧ SimGs X.K S g p
def gtName (i : Nat) : PTG := fun d ρ Q => Q (ρ.set i (.v d))
def gtNil : PTGs := fun ds ρ Q => ds = [] ∧ Q ρ
def gtCons (p : PTG) (q : PTGs) : PTGs := fun ds ρ Q => match ds with
  | d :: r => p d ρ fun ρ1 => q r ρ1 Q
  | [] => False
def gtTup (n : Nat) (q : PTGs) : PTG := fun d ρ Q => match d with
  | .tuple ds => ds.length = n ∧ q ds ρ Q
  | .list ds => ds.length = n ∧ q ds ρ Q
  | _ => False
section
variable {S : Src} {X : Cx} {e a b c : Expr} {es : List Expr} {pos : Pos} {pa pb : PTE} {pr : PTR} {pg : PTG} {pgs : PTGs} {body : List Stmt} {ps : PTS} {qa : PTT}
theorem jg_name (i : Nat) {x : Str} (hN : X.N.Nodup) (hi : X.N[i]? = some x := by rfl) (hx : Loc X.env.scope x := by first | exact Or.inl rfl | exact Or.inr rfl) (hf : X.fn x = true ∨ X.env.scope.names.lookup x = some .local := by first | exact .inl rfl | exact .inr rfl | assumption) :
    JG S X (.Name x pos) (gtName i) := ⟨gName i, pg_name hN hi hx hf, fun B N H σ ρ v d Q Q' R r q k => k N H _ _ (R.setV r) (Ex.refl _) q⟩
theorem jgs_nil : JGs S X [] gtNil := ⟨gNil, pgs_nil, fun B N H σ ρ vs ds Q Q' R r q k => by
  obtain ⟨e, q⟩ := q
  subst e
  cases r
  exact ⟨rfl, k N H σ ρ R (Ex.refl _) q⟩⟩
theorem jgs_cons (h1 : JG S X e pg) (h2 : JGs S X es pgs) (hs : (assignEach (e :: es) X.env).map (·.2) = assign e X.env :: (assignEach es X.env).map (·.2) := by rfl) : JGs S X (e :: es) (gtCons pg pgs) := by
  obtain ⟨g, a1, a2⟩ := h1
  obtain ⟨u, b1, b2⟩ := h2
  refine ⟨gCons g u, pgs_cons a1 b1 hs, fun B N H σ ρ vs ds Q Q' R r q k => ?_⟩
  cases r with
  | nil => exact q.elim
  | cons h t => exact ⟨_, _, rfl, a2 B N H σ ρ _ _ _ _ R h q fun N1 H1 σ1 ρ1 R1 e1 q1 => b2 B N1 H1 σ1 ρ1 _ _ _ _ R1 (t.up e1) q1 fun N2 H2 σ2 ρ2 R2 e2 q2 => k N2 H2 σ2 ρ2 R2 (e1.trans e2) q2⟩
theorem pg_or {tg : Expr} {g g' : TG} (h : PG X tg g) (h' : PG X tg g') : PG X tg (fun v σ H Q => g v σ H Q ∨ g' v σ H Q) := ⟨fun pins s σ H v u Q I r hw => hw.elim (fun z => h.run pins s σ H v u Q I r z) fun z => h'.run pins s σ H v u Q I r z⟩
theorem jg_tup {k n : Nat} (hc : X.calm = true) (h : JGs S X es pgs) (hn : (assignEach es X.env).length = n := by rfl) (hst : (assignEach es X.env).findIdx? (·.1) = none := by rfl) : JG S X (.Tuple es k pos) (gtTup n pgs) := by
  obtain ⟨g, a1, a2⟩ := h
  refine ⟨fun v σ H Q => gTup X.K n g v σ H Q ∨ gLst X.K n g v σ H Q, pg_or (pg_tup hc a1 hn hst) (pg_lst hc a1 hn hst), fun B N H σ ρ v d Q Q' R r q k => ?_⟩
  cases r with
  | tup h1 h2 => exact .inl ⟨_, _, rfl, ex_t R.sub h1, by rw [h2.length]; exact q.1, a2 B N H σ ρ _ _ _ _ R h2 q.2 k⟩
  | lst h1 h2 => exact .inr ⟨_, _, rfl, .inl (.inl (R.sub _ _ h1)), by rw [h2.length]; exact q.1, a2 B N H σ ρ _ _ _ _ R h2 q.2 k⟩
  | _ => exact q.elim
/-- target = e -/
def qAsg (p : PTE) (g : PTG) : PTS := fun P ρ => p P.ex ρ fun d ρ1 => g d ρ1 P.nx
theorem js_asg {tg : Expr} (ha : JE S X e pa) (hg : JG S X tg pg) (hs : swapsWithSole [tg] e pos.line X.env = pure false := by rfl) (hw : swappedStores [tg] e X.env = pure none := by rfl)
    (h1 : (assignEach [tg] X.env).map (·.2) = [assign tg X.env] := by rfl) : JS S X (.Assign [tg] e pos) (qAsg pa pg) := by
  obtain ⟨t, a1, a2⟩ := ha
  obtain ⟨g, b1, b2⟩ := hg
  exact ⟨fun W => tAsg (t W) g, fun W k _ => ps_asg (a1 W k) b1 hs hw h1, fun W D P B N H σ ρ R C q => a2 W P.ex B N H σ ρ _ _ R C.w q fun N1 H1 v d ρ1 R1 _ r q1 => b2 B N1 H1 σ ρ1 v d _ _ R1 r q1 fun N2 H2 σ2 ρ2 R2 _ q2 => C.nx N2 H2 σ2 ρ2 R2 q2⟩
/-- a, b = x, y with plain local names -/
def qPar (i j : Nat) (q : PTA) : PTS := fun P ρ => q P.ex ρ fun ds ρ1 => match ds with
  | [d, e] => P.nx ((ρ1.set i (.v d)).set j (.v e))
  | _ => False
theorem js_par (i j : Nat) {x y : Str} {px py pt : Pos} {kt k2 : Nat} {pt2 : Pos} {qs : PTA} (hc : X.calm = true) (hN : X.N.Nodup) (ha : JA S X [a, b] qs) (hi : X.N[i]? = some x := by rfl) (hj : X.N[j]? = some y := by rfl) (hij : i ≠ j := by decide)
    (hx : X.env.scope.names.lookup x = some .local := by rfl) (hy : X.env.scope.names.lookup y = some .local := by rfl)
    (hw : swappedStores [.Tuple [.Name x px, .Name y py] kt pt] (.Tuple [a, b] k2 pt2) X.env = pure (some [x, y]) := by rfl)
    (hs : swapsWithSole [.Tuple [.Name x px, .Name y py] kt pt] (.Tuple [a, b] k2 pt2) pos.line X.env = pure false := by rfl) :
    JS S X (.Assign [.Tuple [.Name x px, .Name y py] kt pt] (.Tuple [a, b] k2 pt2) pos) (qPar i j qs) := by
  obtain ⟨t, a1, a2⟩ := ha
  refine ⟨fun W => tPar i j (t W), fun W k _ => ps_par hc hN hi hj hij hx hy (a1 W k) hw hs, fun W D P B N H σ ρ R C q => a2 W P.ex B N H σ ρ _ _ R C.w q fun N1 H1 vs ds ρ1 R1 _ r q1 => ?_⟩
  cases r with
  | nil => exact q1.elim
  | cons h t =>
    cases t with
    | nil => exact q1.elim
    | cons h' t =>
      cases t with
      | cons _ _ => exact q1.elim
      | nil => exact ⟨_, _, rfl, C.nx N1 H1 _ _ ((R1.setV h).setV h') q1⟩

/-! ### what is walked -/
abbrev PTI := PWh → List Sl → (List PyData → List Sl → Prop) → Prop
/-- the iterator hands out these data, whatever is added to the heap meanwhile -/
def ItOk (K : PySem.W.Frag) (N : Hp) (J : It) (ds : List PyData) : Prop := ∀ N2 H2, Ex N N2 → Ex N2 H2 → ∀ i : Nat,
  (∀ d, ds[i]? = some d → J.go i H2 ∧ ∀ x H3, J.yld i H2 x H3 → (H3 = H2 ∧ Rp K N2 x d) ∨ ∃ T o, H2 T = none ∧ H3 = upd H2 T o ∧ Rp K (upd N2 T o) x d) ∧ (ds.length ≤ i → J.stop i H2)
def SimI (K : PySem.W.Frag) (S : Src) (ti : WX → TI) (p : PTI) : Prop := ∀ (W : WX) (wp : PWh) (B : Bs) (N H : Hp) (σ : St) (ρ : List Sl) (R : It → Hp → Prop) (Q' : List PyData → List Sl → Prop), Rel K S B N H σ ρ → WOk K S B σ W wp → p wp ρ Q' →
  (∀ N' H' J ds ρ', Rel K S B N' H' σ ρ' → Ex N N' → ItOk K N' J ds → Q' ds ρ' → R J H') → ti W σ H R
def JI (S : Src) (X : Cx) (tg it : Expr) (p : PTI) : Prop := ∃ ti : WX → TI, (∀ W, Takes X W → PI X tg it (ti W)) ∧ SimI X.K S ti p
theorem itok_list {K : PySem.W.Frag} {N : Hp} {a : Addr} {vs : List V} {ds : List PyData} (h1 : N a = some (.lst vs)) (h2 : RpAll K N vs ds) : ItOk K N (Itl K a) ds := fun N2 H2 e1 e2 i => by
  have hq : SqL K H2 a vs := .inl (.inl (e2 _ _ (e1 _ _ h1)))
  refine ⟨fun d hd => ?_, fun hl => ⟨vs, hq, by rw [h2.length]; exact hl⟩⟩
  obtain ⟨v, g1, g2⟩ := h2.get hd
  refine ⟨⟨vs, v, hq, g1⟩, fun x H3 y => ?_⟩
  obtain ⟨e, y⟩ := y
  have := y vs hq
  rw [g1] at this
  cases this
  exact .inl ⟨e, g2.up e1⟩
theorem itok_tup {K : PySem.W.Frag} {N : Hp} {a : Addr} {vs : List V} {ds : List PyData} (h1 : SqT K N a vs) (h2 : RpAll K N vs ds) : ItOk K N (Itt K a) ds := fun N2 H2 e1 e2 i => by
  have hq : SqT K H2 a vs := ex_t e2 (ex_t e1 h1)
  refine ⟨fun d hd => ?_, fun hl => ⟨vs, hq, by rw [h2.length]; exact hl⟩⟩
  obtain ⟨v, g1, g2⟩ := h2.get hd
  refine ⟨⟨vs, v, hq, g1⟩, fun x H3 y => ?_⟩
  obtain ⟨e, y⟩ := y
  have := y vs hq
  rw [g1] at this
  cases this
  exact .inl ⟨e, g2.up e1⟩
/-- lo, lo + 1, .. -/
def rngD (lo : Int) (n : Nat) : List PyData := (List.range n).map fun (i : Nat) => PyData.int (lo + (i : Int))
theorem rngD_get {lo : Int} {n i : Nat} {d : PyData} (h : (rngD lo n)[i]? = some d) : i < n ∧ d = .int (lo + (i : Int)) := by
  unfold rngD at h
  rw [List.getElem?_map] at h
  by_cases hi : i < n
  · rw [List.getElem?_range hi] at h
    exact ⟨hi, (Option.some.inj h).symm⟩
  · rw [List.getElem?_eq_none (by simpa using hi)] at h
    cases h
theorem rngD_length {lo : Int} {n : Nat} : (rngD lo n).length = n := by unfold rngD; simp
theorem itok_rng {K : PySem.W.Frag} {N : Hp} {lo : Int} {n : Nat} : ItOk K N (Itr lo n) (rngD lo n) := fun N2 H2 e1 e2 i => by
  refine ⟨fun d hd => ?_, fun hl => by rw [rngD_length] at hl; exact hl⟩
  obtain ⟨g1, g2⟩ := rngD_get hd
  refine ⟨g1, fun x H3 y => ?_⟩
  obtain ⟨e, y⟩ := y
  subst y
  rw [g2]
  exact .inl ⟨e, .int _⟩
/-- over a list or a tuple -/
def piSeq (p : PTE) : PTI := fun wp ρ Q => p wp ρ fun d ρ1 => match d with
  | .list ds => Q ds ρ1
  | .tuple ds => Q ds ρ1
  | _ => False
theorem pi_or {tg it : Expr} {w1 w2 : TI} (h : PI X tg it w1) (h' : PI X tg it w2) : PI X tg it (fun σ H R => w1 σ H R ∨ w2 σ H R) := ⟨fun pins s σ H R I hw => hw.elim (fun z => h.run pins s σ H R I z) fun z => h'.run pins s σ H R I z⟩
/-- of a value: a list's, a tuple's iterator -/
def iSeq (K : PySem.W.Frag) (tl : TE) : TI := fun σ H R => tl σ H fun x H1 => ∃ a, x = .ref a ∧ (((∃ xs, SqL K H1 a xs) ∧ R (Itl K a) H1) ∨ ((∃ xs, SqT K H1 a xs) ∧ R (Itt K a) H1))
theorem pi_seq {tg l : Expr} {tl : TE} (hl : PE X l tl) : PI X tg l (iSeq X.K tl) := by
  refine ⟨fun pins s σ H R I h => ?_⟩
  refine thn (hl.run pins s σ H _ I h) fun v s1 ⟨x, H1, I1, r1, q1⟩ => ?_
  obtain ⟨a, e, q1⟩ := q1
  subst e
  cases r1
  rcases q1 with ⟨⟨xs, hq⟩, q⟩ | ⟨⟨xs, hq⟩, q⟩
  · obtain ⟨its, rv, p, hz⟩ := I1.list hq
    refine wpAny_pyIter_list p.isList ?_
    refine ⟨s1.heap.objs.size, [s1.heap.objs.size], _, _, H1, rfl, I1.kept (t' := s1.toks) fun b o e => Heap.get?_push_of_some _ e, turn_list a _, ⟨_, Heap.get?_push_size _ rfl, rfl, rfl⟩, fun b hb => ?_, q⟩
    have e : b = s1.heap.objs.size := by simpa using hb
    subst e
    exact I1.fpOk (Nat.le_refl _) (I1.hok.fresh (Nat.le_refl _))
  · obtain ⟨its, rv, p, hz⟩ := I1.tuple hq
    refine wpAny_pyIter_tuple (show s1.heap.IsTuple a its.toArray from p) ?_
    refine ⟨s1.heap.objs.size, [s1.heap.objs.size], _, _, H1, rfl, I1.kept (t' := s1.toks) fun b o e => Heap.get?_push_of_some _ e, turn_tuple a _, ⟨_, Heap.get?_push_size _ rfl, rfl, rfl⟩, fun b hb => ?_, q⟩
    have e : b = s1.heap.objs.size := by simpa using hb
    subst e
    exact I1.fpOk (Nat.le_refl _) (I1.hok.fresh (Nat.le_refl _))
theorem ji_seq {tg : Expr} (ha : JE S X e pa) : JI S X tg e (piSeq pa) := by
  obtain ⟨t, a1, a2⟩ := ha
  refine ⟨fun W => iSeq X.K (t W), fun W k => pi_seq (a1 W k), fun W wp B N H σ ρ R Q' RR hw q k => a2 W wp B N H σ ρ _ _ RR hw q fun N1 H1 v d ρ1 R1 e1 r q1 => ?_⟩
  cases r with
  | lst h1 h2 => exact ⟨_, rfl, .inl ⟨⟨_, .inl (.inl (R1.sub _ _ h1))⟩, k N1 H1 _ _ ρ1 R1 e1 (itok_list h1 h2) q1⟩⟩
  | tup h1 h2 => exact ⟨_, rfl, .inr ⟨⟨_, ex_t R1.sub h1⟩, k N1 H1 _ _ ρ1 R1 e1 (itok_tup h1 h2) q1⟩⟩
  | _ => exact q1.elim
/-- over a list that stays as it is for good -/
def piFz (i : Nat) : PTI := fun _ ρ Q => match ρ[i]? with
  | some (.fz ds) => Q ds ρ
  | _ => False
theorem itok_sql {K : PySem.W.Frag} {N : Hp} {a : Addr} {vs : List V} {ds : List PyData} (h1 : SqL K N a vs) (h2 : RpAll K N vs ds) : ItOk K N (Itl K a) ds := fun N2 H2 e1 e2 i => by
  have hq : SqL K H2 a vs := ex_l e2 (ex_l e1 h1)
  refine ⟨fun d hd => ?_, fun hl => ⟨vs, hq, by rw [h2.length]; exact hl⟩⟩
  obtain ⟨v, g1, g2⟩ := h2.get hd
  refine ⟨⟨vs, v, hq, g1⟩, fun x H3 y => ?_⟩
  obtain ⟨e, y⟩ := y
  have := y vs hq
  rw [g1] at this
  cases this
  exact .inl ⟨e, g2.up e1⟩
theorem ji_fz (i : Nat) {x : Str} {px : Pos} {tg : Expr} (hN : X.N[i]? = some x := by rfl) (hv : Vis X.env.scope x := by first | exact Or.inl rfl | exact Or.inr (Or.inl rfl) | exact Or.inr (Or.inr rfl)) (hd : (x == ("__debug__" : Str)) = false := by decide)
    (hcd : (x == ("__classdict__" : Str)) = false := by decide) : JI S X tg (.Name x px) (piFz i) := by
  refine ⟨fun W => iSeq X.K (tVar i), fun W k => pi_seq (pv i hN hv hd hcd), fun W wp B N H σ ρ R Q' RR hw q k => ?_⟩
  unfold piFz at q
  split at q
  · rename_i ds h
    obtain ⟨x, ex, a, ws, rfl, h1, h2⟩ := RR.ok i _ h
    exact ⟨.ref a, ex, a, rfl, .inl ⟨⟨ws, ex_l RR.sub h1⟩, k N H _ _ ρ RR (Ex.refl _) (itok_sql h1 h2) q⟩⟩
  · exact q.elim
def rOk (i : Int) : Prop := -4611686018427387904 ≤ i ∧ i < 4611686018427387904
def piRng1 (q : PTA) : PTI := fun wp ρ Q => q wp ρ fun ds ρ1 => match ds with
  | [.int j] => rOk j ∧ Q (rngD 0 j.toNat) ρ1
  | _ => False
def piRng2 (q : PTA) : PTI := fun wp ρ Q => q wp ρ fun ds ρ1 => match ds with
  | [.int i, .int j] => rOk i ∧ rOk j ∧ Q (rngD i (j - i).toNat) ρ1
  | _ => False
variable {qs : PTA} {tg : Expr} {p : Pos}
theorem ji_rng1 (hg : Gl X "range") (hm : X.mg "range" = none) (ha : JA S X [a] qs) (hs : starEach [a] X.env = [(false, eval a X.env)] := by rfl) : JI S X tg (.Call (.Name "range" p) [a] [] pos) (piRng1 qs) := by
  obtain ⟨t, a1, a2⟩ := ha
  refine ⟨fun W => iRng1 (t W), fun W k => pi_range1 hg hm (a1 W k) hs, fun W wp B N H σ ρ R Q' RR hw q k => a2 W wp B N H σ ρ _ _ RR hw q fun N1 H1 vs ds ρ1 R1 e1 r q1 => ?_⟩
  cases r with
  | nil => exact q1.elim
  | cons h t =>
    cases t with
    | cons _ _ => cases h <;> exact q1.elim
    | nil =>
      cases h with
      | int j => exact ⟨j, rfl, q1.1.1, q1.1.2, k N1 H1 _ _ ρ1 R1 e1 itok_rng q1.2⟩
      | _ => exact q1.elim
theorem ji_rng2 (hg : Gl X "range") (hm : X.mg "range" = none) (ha : JA S X [a, b] qs) (hs : starEach [a, b] X.env = [(false, eval a X.env), (false, eval b X.env)] := by rfl) (hs2 : starEach [b] X.env = [(false, eval b X.env)] := by rfl) :
    JI S X tg (.Call (.Name "range" p) [a, b] [] pos) (piRng2 qs) := by
  obtain ⟨t, a1, a2⟩ := ha
  refine ⟨fun W => iRng2 (t W), fun W k => pi_range2 hg hm (a1 W k) hs hs2, fun W wp B N H σ ρ R Q' RR hw q k => a2 W wp B N H σ ρ _ _ RR hw q fun N1 H1 vs ds ρ1 R1 e1 r q1 => ?_⟩
  cases r with
  | nil => exact q1.elim
  | cons h t =>
    cases t with
    | nil => cases h <;> exact q1.elim
    | cons h' t =>
      cases t with
      | cons _ _ => cases h <;> first | exact q1.elim | (cases h' <;> exact q1.elim)
      | nil =>
        cases h with
        | int i =>
          cases h' with
          | int j => exact ⟨i, j, rfl, ⟨q1.1.1, q1.1.2, q1.2.1.1, q1.2.1.2⟩, k N1 H1 _ _ ρ1 R1 e1 itok_rng q1.2.2⟩
          | _ => exact q1.elim
        | _ => first | exact q1.elim | (cases h' <;> exact q1.elim)
/-- lo, lo + c, .. -/
def stpD (lo c : Int) (n : Nat) : List PyData := (List.range n).map fun (i : Nat) => PyData.int (lo + (i : Int) * c)
theorem itok_stp {K : PySem.W.Frag} {N : Hp} {lo c : Int} {n : Nat} : ItOk K N (Itc lo c n) (stpD lo c n) := fun N2 H2 e1 e2 i => by
  have hlen : (stpD lo c n).length = n := by unfold stpD; simp
  refine ⟨fun d hd => ?_, fun hl => by rw [hlen] at hl; exact hl⟩
  have hi : i < n := by rw [← hlen]; exact (List.getElem?_eq_some_iff.mp hd).1
  unfold stpD at hd
  rw [List.getElem?_map, List.getElem?_range hi] at hd
  refine ⟨hi, fun x H3 y => ?_⟩
  obtain ⟨e, y⟩ := y
  subst y
  rw [← Option.some.inj hd]
  exact .inl ⟨e, .int _⟩
def piRng3 (q : PTA) : PTI := fun wp ρ Q => q wp ρ fun ds ρ1 => match ds with
  | [.int i, .int j, .int c] => ∃ n, RgC i j c n ∧ Q (stpD i c n) ρ1
  | _ => False
theorem ji_rng3 {c : Expr} (hg : Gl X "range") (hm : X.mg "range" = none) (ha : JA S X [a, b, c] qs) (hs : starEach [a, b, c] X.env = (false, eval a X.env) :: starEach [b, c] X.env := by rfl) (hpl : (backTo pos (starEach [b, c] X.env)).any (·.1) = false := by rfl) :
    JI S X tg (.Call (.Name "range" p) [a, b, c] [] pos) (piRng3 qs) := by
  obtain ⟨t, a1, a2⟩ := ha
  refine ⟨fun W => iRng3 (t W), fun W k => pi_range3 hg hm (a1 W k) hs hpl, fun W wp B N H σ ρ R Q' RR hw q k => a2 W wp B N H σ ρ _ _ RR hw q fun N1 H1 vs ds ρ1 R1 e1 r q1 => ?_⟩
  unfold piRng3 at q
  match vs, ds, r, q1 with
  | _, [.int i, .int j, .int c], .cons (.int _) (.cons (.int _) (.cons (.int _) .nil)), q1 =>
    obtain ⟨n, h1, q1⟩ := q1
    exact ⟨i, j, c, n, rfl, h1, k N1 H1 _ _ ρ1 R1 e1 itok_stp q1⟩
/-! ### for, while -/
def qFor (pi : PTI) (pg : PTG) (pb : PTS) : PTS := fun P ρ => pi P.ex ρ fun ds ρ1 => ∃ I : Nat → List Sl → Prop, I 0 ρ1 ∧
  (∀ (i : Nat) (d : PyData) (ρ : List Sl), ds[i]? = some d → I i ρ → pg d ρ fun ρ2 => pb { P with nx := I (i + 1), ct := I (i + 1), bk := P.nx } ρ2) ∧ ∀ ρ, I ds.length ρ → P.nx ρ
theorem js_for {iter : Expr} {pi : PTI} (hc : X.calm = true) (hi : JI S X tg iter pi) (hg : JG S X tg pg) (hb : JSs S X body ps) (hs : ∀ x, foldedSetIterable iter X.env x = pure x := by intro _; rfl) : JS S X (.For tg iter body [] pos) (qFor pi pg ps) := by
  obtain ⟨ti, i1, i2⟩ := hi
  obtain ⟨g, g1, g2⟩ := hg
  obtain ⟨t, b1, b2⟩ := hb
  refine ⟨fun W => tFor (ti W) g (t W), fun W k o => ps_for o hc (i1 W k) g1 (b1 W k o) hs, fun W D P B N H σ ρ R C q => i2 W P.ex B N H σ ρ _ _ R C.w q fun N1 H1 J ds ρ1 R1 e1 it q1 => ?_⟩
  obtain ⟨I, h0, hstep, hend⟩ := q1
  have eL : Ex B.L N1 := R1.ext.fl
  refine ⟨fun i m σ' H' => m = ds.length - i ∧ i ≤ ds.length ∧ ∃ N' ρ', Rel X.K S (B.at N1) N' H' σ' ρ' ∧ I i ρ', ⟨ds.length, by simp, Nat.zero_le _, N1, ρ1, R1.raise (Ex.refl _), h0⟩, ?_⟩
  rintro i m σ' H' ⟨rfl, hle, N', ρ', R', hI⟩
  obtain ⟨h1, h2⟩ := it N' H' R'.ext.fl R'.sub i
  by_cases hi : i < ds.length
  · obtain ⟨go, yl⟩ := h1 ds[i] (List.getElem?_eq_getElem hi)
    refine .inr ⟨go, fun σ2 H2 => ∃ N2 ρ2, Rel X.K S (B.at N1) N2 H2 σ2 ρ2 ∧ I (i + 1) ρ2, fun σ2 H2 ⟨N2, ρ2, R2, hI2⟩ => ⟨ds.length - (i + 1), by omega, rfl, hi, N2, ρ2, R2, hI2⟩, fun x H2 y => ?_⟩
    have st := hstep i ds[i] ρ' (List.getElem?_eq_getElem hi) hI
    have go_on : ∀ N2 H2, Rel X.K S (B.at N1) N2 H2 σ' ρ' → Rp X.K N2 x ds[i] → g x σ' H2 fun σ3 H3 => t W { D with nx := fun σ2 H2 => ∃ N2 ρ2, Rel X.K S (B.at N1) N2 H2 σ2 ρ2 ∧ I (i + 1) ρ2, ct := fun σ2 H2 => ∃ N2 ρ2, Rel X.K S (B.at N1) N2 H2 σ2 ρ2 ∧ I (i + 1) ρ2, bk := D.nx } σ3 H3 := by
      intro N2 H2 R2 rp
      have C1 := C.raise eL
      refine g2 (B.at N1) N2 H2 σ' ρ' x _ _ _ R2 rp st fun N3 H3 σ3 ρ3 R3 e3 q3 => ?_
      exact b2 W _ { P with nx := I (i + 1), ct := I (i + 1), bk := P.nx } (B.at N1) N3 H3 σ3 ρ3 R3 ⟨fun N4 H4 σ4 ρ4 R4 q4 => ⟨N4, ρ4, R4, q4⟩, C1.rt, fun N4 H4 σ4 ρ4 R4 q4 => C1.nx N4 H4 σ4 ρ4 R4 q4, fun N4 H4 σ4 ρ4 R4 q4 => ⟨N4, ρ4, R4, q4⟩, C1.ex⟩ q3
    rcases yl x H2 y with ⟨rfl, rp⟩ | ⟨T, o, hT, rfl, rp⟩
    · exact go_on N' H2 R' rp
    · exact go_on _ _ (R'.newM hT) rp
  · have e : i = ds.length := by omega
    subst e
    exact .inl ⟨h2 (Nat.le_refl _), C.nx N' H' σ' ρ' (R'.lower eL) (hend ρ' hI)⟩
def qWhile (pc : PTT) (pb : PTS) : PTS := fun P ρ => ∃ I : Nat → List Sl → Prop, (∃ m, I m ρ) ∧ ∀ (m : Nat) (ρ : List Sl), I m ρ → pc P.ex ρ fun b ρ1 =>
  if b = true then pb { P with nx := fun ρ2 => ∃ m', m' < m ∧ I m' ρ2, ct := fun ρ2 => ∃ m', m' < m ∧ I m' ρ2, bk := P.nx } ρ1 else P.nx ρ1
theorem js_while (hc : JT S X c qa) (hb : JSs S X body ps) : JS S X (.While c body [] pos) (qWhile qa ps) := by
  obtain ⟨tc, c1, c2⟩ := hc
  obtain ⟨t, b1, b2⟩ := hb
  refine ⟨fun W => tWhile (tc W) (t W), fun W k o => ps_while o (c1 W k) (b1 W k o), fun W D P B N H σ ρ R C q => ?_⟩
  obtain ⟨I, ⟨m0, h0⟩, hstep⟩ := q
  refine ⟨fun m σ' H' => ∃ N' ρ', Rel X.K S B N' H' σ' ρ' ∧ I m ρ', ⟨m0, N, ρ, R, h0⟩, ?_⟩
  rintro m σ' H' ⟨N', ρ', R', hI⟩
  refine c2 W P.ex B N' H' σ' ρ' _ _ R' C.w (hstep m ρ' hI) fun N1 H1 k ρ1 R1 _ q1 => ?_
  cases k with
  | true =>
    rw [if_pos rfl] at q1 ⊢
    refine ⟨fun σ2 H2 => ∃ m', m' < m ∧ ∃ N' ρ', Rel X.K S B N' H2 σ2 ρ' ∧ I m' ρ', fun σ2 H2 ⟨m', h, z⟩ => ⟨m', h, z⟩, b2 W _ { P with nx := fun ρ2 => ∃ m', m' < m ∧ I m' ρ2, ct := fun ρ2 => ∃ m', m' < m ∧ I m' ρ2, bk := P.nx } B N1 H1 σ' ρ1 R1 ⟨fun N2 H2 σ2 ρ2 R2 ⟨m', h, z⟩ => ⟨m', h, N2, ρ2, R2, z⟩, C.rt, fun N2 H2 σ2 ρ2 R2 z => C.nx N2 H2 σ2 ρ2 R2 z, fun N2 H2 σ2 ρ2 R2 ⟨m', h, z⟩ => ⟨m', h, N2, ρ2, R2, z⟩, C.ex⟩ q1⟩
  | false =>
    rw [if_neg Bool.false_ne_true] at q1 ⊢
    exact C.nx N1 H1 σ' ρ1 R1 q1

/-! ### exceptions -/
/-- raise C('..'), C an own class over ValueError without __init__ -/
def qRaise (C : Addr) : PTS := fun P ρ => P.ex (.ref C) ρ
theorem js_raise {C : Addr} {x m : Str} {j : Nat} {p p2 pos' : Pos} (hc : X.calm = true) (q : PySem.W.excIn X.K C [.type "ValueError", .type "Exception", .type "BaseException", .type "object"] "ValueError.__new__" = true) (gC : X.mg x = some (.ref C)) (kC : PySem.W.keepIn X.K (.ref C) = true)
    (b1 : PySem.W.subIn X.K (.ref C) (.type "BaseException") = some true) (t1 : PySem.W.typeIn X.K (.ref C) = some (.type "type")) (hg : Gl X x) (hdb : (x == ("__debug__" : Str)) = false := by decide) :
    JS S X (.Raise (some (.Call (.Name x p) [.Constant (.str m) j p2] [] pos')) none pos) (qRaise C) :=
  ⟨fun W => fun _ σ H => (fun (_ : St) (H : Hp) (Q : XK) => Q (.ref C) none H) σ H fun cls d H' => W cls d σ H', fun W tk _ => ps_raise hc tk (pmk_own PySem.F.excBase_ValueError q gC kC (raises_own b1 t1) hg hdb), fun W D P B N H σ ρ R C q => C.ex _ N H σ ρ R q⟩
theorem pss_imp {st : List Stmt} {t t' : TS} (h : PSs X st t) (k : ∀ D σ H, t' D σ H → t D σ H) : PSs X st t' := ⟨fun pins s σ H D I q => h.run pins s σ H D I (k _ _ _ q)⟩
/-- try: .. except x as n: .. -/
def qTry (K : PySem.W.Frag) (c : Value) (i : Nat) (pb : PTS) (psu : Addr → Value → PTS) : PTS := fun P ρ => pb { P with ex := fun cls ρ1 => ∃ b, PySem.W.exmOne K cls c = some b ∧
  (b = true → ∀ a, psu a cls { nx := fun ρ2 => P.nx (ρ2.set i .un), rt := P.rt, bk := fun ρ2 => P.bk (ρ2.set i .un), ct := fun ρ2 => P.ct (ρ2.set i .un), ex := fun _ _ => False } (ρ1.set i (.exc a cls))) ∧ (b = false → P.ex cls ρ1) } ρ
theorem js_try {x n : Str} {cv : Value} (i : Nat) {suite : List Stmt} {b₀ : Stmt} {np pos' : Pos} {psu : Addr → Value → PTS} (hs : X.stack = X.env :: X.outer) (hf : X.env.frame = some X.env.locals) (hN : X.N.Nodup) (hc : Names X x cv)
    (hb : ∀ (pn : List (Addr × Obj)) (xe : Value → Shared → Prop), JSs S (X.tr pn xe) body ps)
    (hsu : ∀ (a : Addr) (oe : Obj) (cls : Value) (pn : List (Addr × Obj)), Zc cls none oe → (∃ vs, oe.data = .fields vs) → JSs S (X.suite a ((a, oe) :: pn)) (b₀ :: suite) (psu a cls))
    (hi : X.N[i]? = some n := by rfl) (hln : X.env.kindOf n = some .local := by rfl) :
    JS S X (.Try body [.ExceptHandler (some (.Name x np)) (some n) (b₀ :: suite) pos'] [] [] pos) (qTry X.K cv i ps psu) := by
  let tb : WX → TS := fun W D σ H => ∃ P B N ρ, Rel X.K S B N H σ ρ ∧ Con X.K S B W D P ∧ ps P ρ
  let tsu : Addr → Value → Option Addr → TS := fun a cls d D σ H => d = none ∧ ∃ P B N ρ, Rel X.K S B N H σ ρ ∧ Con X.K S B (fun _ _ _ _ => False) D P ∧ psu a cls P ρ
  refine ⟨fun W D σ H => tb (wAs X.K cv i tsu W D) D σ H, fun W tk o => ps_try_as (ts := tsu) (tb := tb) hs hf hN hi hln hc tk (fun W' pn xe tk' o' => ?_) (fun a oe cls d pn hz hv => ?_), fun W D P B N H σ ρ R C q => ?_⟩
  · obtain ⟨t, t1, t2⟩ := hb pn xe
    exact pss_imp (t1 W' tk' o') fun D σ H ⟨P, B, N, ρ, R, C, q⟩ => t2 W' D P B N H σ ρ R C q
  · by_cases hd : d = none
    · subst hd
      obtain ⟨t, t1, t2⟩ := hsu a oe cls pn hz hv
      exact pss_imp (t1 (fun _ _ _ _ => False) takes0 PassesOwn.never) fun D σ H ⟨_, P, B, N, ρ, R, C, q⟩ => t2 _ D P B N H σ ρ R C q
    · exact pss_imp (t := tNever) pss_never fun D σ H z => absurd z.1 hd
  · refine ⟨{ P with ex := fun cls ρ1 => ∃ b, PySem.W.exmOne X.K cls cv = some b ∧
      (b = true → ∀ a, psu a cls { nx := fun ρ2 => P.nx (ρ2.set i .un), rt := P.rt, bk := fun ρ2 => P.bk (ρ2.set i .un), ct := fun ρ2 => P.ct (ρ2.set i .un), ex := fun _ _ => False } (ρ1.set i (.exc a cls))) ∧ (b = false → P.ex cls ρ1) },
      B, N, ρ, R, ⟨C.nx, C.rt, C.bk, C.ct, fun cls N1 H1 σ1 ρ1 R1 q1 => ?_⟩, q⟩
    obtain ⟨b, g1, g2, g3⟩ := q1
    refine ⟨b, g1, fun hb a na => ⟨rfl, { nx := fun ρ2 => P.nx (ρ2.set i .un), rt := P.rt, bk := fun ρ2 => P.bk (ρ2.set i .un), ct := fun ρ2 => P.ct (ρ2.set i .un), ex := fun _ _ => False }, B, N1, _, R1.set (x := some (.ref a)) (s := .exc a cls) rfl (fun m => by cases m), ⟨fun N2 H2 σ2 ρ2 R2 q2 => C.nx N2 H2 _ _ R2.setU q2, C.rt, fun N2 H2 σ2 ρ2 R2 q2 => C.bk N2 H2 _ _ R2.setU q2, fun N2 H2 σ2 ρ2 R2 q2 => C.ct N2 H2 _ _ R2.setU q2, fun _ _ _ _ _ _ z => z.elim⟩, g2 hb a⟩, fun hb => C.ex cls N1 H1 σ1 ρ1 R1 (g3 hb)⟩
/-- isinstance(e, C), e the exception of the suite -/
def pIsE (K : PySem.W.Frag) (i : Nat) (a C : Addr) (cls : Value) : PTE := fun _ ρ Q => ∃ D b, cls = .ref D ∧ ExcC K D ∧ PySem.W.kitOne K (.ref D) (.ref C) = some b ∧ ρ[i]? = some (.exc a cls) ∧ Q (.bool b) ρ
theorem je_isE {a₀ C : Addr} {oe : Obj} {cls : Value} {pn : List (Addr × Obj)} {n y : Str} {p py px : Pos} (i : Nat) (hz : Zc cls none oe) (hv : ∃ vs, oe.data = .fields vs) (hg : Gl X "isinstance") (hm : X.mg "isinstance" = none) (hgy : Gl X y) (hmy : X.mg y = some (.ref C))
    (hN : X.N[i]? = some n := by rfl) (hvis : Vis X.env.scope n := by first | exact Or.inl rfl | exact Or.inr (Or.inl rfl) | exact Or.inr (Or.inr rfl)) (hd : (n == ("__debug__" : Str)) = false := by decide)
    (hcd : (n == ("__classdict__" : Str)) = false := by decide) (hdb : (y == ("__debug__" : Str)) = false := by decide)
    (hs1 : starEach [.Name n px, .Name y py] X.env = (false, eval (.Name n px) X.env) :: starEach [.Name y py] X.env := by rfl) (hs2 : starEach [.Name y py] X.env = (false, eval (.Name y py) X.env) :: starEach [] X.env := by rfl) (hpl : (backTo pos (starEach [.Name y py] X.env)).any (·.1) = false := by rfl) :
    JE S (X.suite a₀ ((a₀, oe) :: pn)) (.Call (.Name "isinstance" p) [.Name n px, .Name y py] [] pos) (pIsE X.K i a₀ C cls) := by
  have hcall : CallR (X.suite a₀ ((a₀, oe) :: pn)) (.builtin "isinstance") (fun xs H Q => ∃ D, cls = .ref D ∧ ExcC X.K D ∧ rIsE X.K D a₀ xs H Q) := by
    intro pins s σ H xs us Q I r h
    obtain ⟨D, hcl, hC, h⟩ := h
    subst hcl
    exact call_isE hC hz hv pins s σ H xs us Q I r h
  refine ⟨fun W => tCB _ (tCons (tVar i) (tCons (tC (.ref C)) tNil)), fun W k => pe_callB hcall hg hm PyProof.Rows.boot_isinstance (pa_cons (pv i hN hvis hd hcd) (pa_cons (pe_glob hgy hmy rfl hdb) pa_nil hs2) hs1) (by decide) (by decide) hs1 hpl, fun W wp B N H σ ρ Q Q' R hw q k => ?_⟩
  obtain ⟨D, b, h1, h2, h3, h4, q⟩ := q
  obtain ⟨x, ex, hx⟩ := R.ok i _ h4
  have hx' : x = some (.ref a₀) := hx
  subst hx'
  exact ⟨.ref a₀, ex, D, h1, h2, .ref C, .ref C, b, rfl, fun u hu => hu, h3, k N H _ _ ρ R (Ex.refl _) (.bl b) q⟩
end
end PD

set_option Elab.async false
set_option linter.all false
set_option maxRecDepth 100000
set_option maxHeartbeats 2000000
/-! A generator expression whose element may call: its frame, its run, who draws on it. -/
namespace HGx
open PySem PySem.Spec PyProof.Rows L2 GxR GenW

abbrev gxe (elt tg iter : Expr) (ifs : List Expr) (scope : Scope) (pos : Pos) : Expr := .GeneratorExp elt [⟨tg, iter, ifs, 0⟩] scope pos
theorem over_comp {A : Around} {elt tg iter : Expr} {ifs : List Expr} {scope : Scope} {pos : Pos} {it acc : Value} {env : Env} : A.over (.compLoop (gxe elt tg iter ifs scope pos) 0 it acc env) [] = A.deeper env := by
  first
    | rfl
    | (obtain ⟨hd, d, fr, gs, u⟩ := A; simp [Around.over, Around.deeper, marksOver, frameCount, unitsOf, envsOf, guardsOf, pushEnvs, pushGuards, Code.envs, Code.env?, Code.isFrame, Code.guards, Code.isGuard, Code.weight, Code.frames, Code.isCreation, Code.isCaller, Code.cUnits])
theorem over_start {A : Around} {elt tg iter : Expr} {ifs : List Expr} {scope : Scope} {pos : Pos} {it acc : Value} {env : Env} : A.over (.compStart (gxe elt tg iter ifs scope pos) 0 it acc env) [] = A.deeper env := by
  first
    | rfl
    | (obtain ⟨hd, d, fr, gs, u⟩ := A; simp [Around.over, Around.deeper, marksOver, frameCount, unitsOf, envsOf, guardsOf, pushEnvs, pushGuards, Code.envs, Code.env?, Code.isFrame, Code.guards, Code.isGuard, Code.weight, Code.frames, Code.isCreation, Code.isCaller, Code.cUnits])

/-- the context of a generator expression's frame; A: around the one who draws -/
abbrev _root_.L2.Cx.gx (X : Cx) (A : Around) (s : Shared) (H : Hp) (cenv : Env) (fp : List Addr) : Cx :=
  { X with A := A.deeper cenv, s_0 := s, H_0 := H, env := cenv, outer := X.stack, stack := cenv :: X.stack, ex := fp, fn := fun _ => false, calm := true, pn := [], xe := fun _ _ => False }
section
variable {X : Cx} {pins : List (Addr × Obj)} {σ : L2.St} {H : Hp} {s : Shared}
theorem gx_start {scope : Scope} {own : List (Str × Nat)} {fp : List Addr} {A : Around} {code : Value} {h1 : Heap} {m : Str → Option Value} {g' : Array GenState} {t' : Nat} (I : Inv X pins σ H s) (ok : BlkOk X.N X.env.scope scope own) (hN : X.N.Nodup) (hcell : ∀ y ∈ scope.names, y.2 ≠ .cell)
    (hfp : ∀ b ∈ fp, FpOk X pins H b ∧ b < s.heap.objs.size) (hA : A.handled = none) (hfr : A.frames = some X.stack) (hn : h1.Ns s.heap.objs.size m) (kp : ∀ b o, s.heap.get? b = some o → h1.get? b = some o) (hg : AllBare g') :
    Inv (X.gx A s H (genEnv scope (cloFrom X.env.cells scope.names []) s.heap.objs.size code builtinsNs X.env) fp) [] (wipe σ (own.map (·.2))) H { s with heap := h1, gens := g', toks := t' } := by
  have hfree : ∀ y ∈ scope.names, y.2 = .free → ∃ c, X.env.cells.lookup y.1 = some c := fun y hy e => by
    rcases ok.free y hy e with k | k
    · exact I.ok.has _ (.inl k)
    · exact I.ok.has _ (.inr k)
  generalize hcenv : genEnv scope (cloFrom X.env.cells scope.names []) s.heap.objs.size code builtinsNs X.env = cenv
  have hL : cenv.locals = s.heap.objs.size := by rw [← hcenv]; rfl
  have hcl : cenv.cells = cloFrom X.env.cells scope.names [] := by rw [← hcenv]; rfl
  have hsc : cenv.scope = scope := by rw [← hcenv]; rfl
  have cm : ∀ {y c}, (y, c) ∈ cloFrom X.env.cells scope.names [] → X.env.cells.lookup y = some c ∧ c < s.heap.objs.size := fun {y c} hm => by
    rcases cloFrom_mem hm with hm | ⟨h1, rfl⟩
    · cases hm
    · obtain ⟨c, hc⟩ := hfree _ h1 rfl
      rw [hc]
      obtain ⟨w, z⟩ := I.cell _ _ hc
      exact ⟨rfl, z.lt⟩
  have mem : ∀ {y c}, cenv.cells.lookup y = some c → (X.env.cells.lookup y = some c ∧ c < s.heap.objs.size) := fun {y c} e => by
    rw [hcl] at e
    exact cm (PySem.mem_of_lookup e)
  have look : ∀ {y}, scope.names.lookup y = some .free → ∃ c, cenv.cells.lookup y = some c ∧ X.env.cells.lookup y = some c := fun {y} hl => by
    have hy : (y, NameKind.free) ∈ scope.names := PySem.mem_of_lookup hl
    obtain ⟨c', e'⟩ := mem_lookup (cloFrom_has (cells := X.env.cells) (acc := []) hy)
    rw [← hcl] at e'
    exact ⟨c', e', (mem e').1⟩
  have nocell : ∀ {y}, scope.names.lookup y ≠ some .cell := fun {y} e => hcell _ (PySem.mem_of_lookup e) rfl
  have okB : (X.gx A s H cenv fp).Ok := by
    refine ⟨I.ok.mod, by show cenv.scope.kind = _; rw [hsc]; exact ok.kind, by show cenv.globals = _; rw [← hcenv]; exact I.ok.glob, by show cenv.builtins = _; rw [← hcenv]; rfl, by show s.heap.objs.size ≤ cenv.locals; rw [hL]; exact Nat.le_refl _,
      fun y z c e1 e2 => ?_, fun y hy => ?_, fun y c z e => ?_, fun _ => hA, ?_, .inr ⟨rfl, ?_⟩, fun b hb => ⟨?_, fun y c e z => ?_⟩, I.bs, Nat.le_trans I.ok.bsz I.sz, fun b o e hb => ?_, fun b hb z => ?_, I.stack, I.stkFree⟩
    · exact I.ok.inj y z c (mem e1).1 (mem e2).1
    · show ∃ c, cenv.cells.lookup y = some c
      rcases hy with hy | hy
      · have hy : cenv.scope.names.lookup y = some .cell := hy
        rw [hsc] at hy
        exact (nocell hy).elim
      · have hy : cenv.scope.names.lookup y = some .free := hy
        rw [hsc] at hy
        obtain ⟨c, h1, _⟩ := look hy
        exact ⟨c, h1⟩
    · cases (show false = true from z)
    · show (A.deeper cenv).frames = some (cenv :: X.stack)
      exact Around.frames_deeper hfr
    · show cenv.frame = some cenv.locals
      rw [← hcenv]; rfl
    · show b ≠ cenv.locals
      rw [hL]; exact Nat.ne_of_lt (hfp b hb).2
    · exact (hfp b hb).1.2.2.2.2.1 y c (mem e).1 z
    · rcases (hfp b hb).1.2.2.2.1 with z | z
      · exact I.ok.noex b o e z
      · exact absurd (Nat.lt_of_lt_of_le (Heap.lt_size e) (Nat.le_trans I.ok.bsz z)) (Nat.lt_irrefl _)
    · rcases List.mem_cons.mp (I.stkSub b z) with z | z
      · exact (hfp b hb).1.2.1 z
      · exact (hfp b hb).1.2.2.1 z
  refine ⟨okB, rfl, hg, Un.kept kp, ⟨m, ?_, fun i y av e1 e2 e3 => ?_⟩, fun y c e => ?_, ?_, fun y c e => ?_, fun p hp => ?_, I.hok.kept kp, by rw [wipe_length]; exact I.len⟩
  · show Heap.Ns _ cenv.locals _
    rw [hL]
    exact hn
  · obtain ⟨e2, hne⟩ := wipe_some e2
    have hfr : scope.names.lookup y = some .free := by
      have e3 : Vis cenv.scope y := e3
      rw [hsc] at e3
      rcases e3 with e3 | e3 | e3
      · rcases ok.own _ (PySem.mem_of_lookup e3) (.inl rfl) with e' | e'
        · obtain ⟨p, hp, hpy⟩ := List.mem_map.mp e'
          have e4 := ok.ix p hp
          have : p.1 = y := hpy
          rw [this] at e4
          exact absurd (List.mem_map.mpr ⟨p, hp, nodup_ix hN e4 e1⟩) hne
        · exact absurd (List.mem_of_getElem? e1) e'
      · exact (nocell e3).elim
      · exact e3
    obtain ⟨m', hn', hl⟩ := I.loc
    have hvis : Vis X.env.scope y := (ok.free _ (PySem.mem_of_lookup hfr) rfl).elim (fun k => .inr (.inl k)) (fun k => .inr (.inr k))
    obtain ⟨w, r, q⟩ := hl i y av e1 e2 hvis
    refine ⟨w, r, .inr ⟨.inr (by show cenv.scope.names.lookup y = _; rw [hsc]; exact hfr), ?_⟩⟩
    obtain ⟨c, h1, h2⟩ := look hfr
    rcases q with ⟨k, _⟩ | ⟨_, c', e', z⟩
    · have k : X.env.scope.names.lookup y = some .local := k
      rcases ok.free _ (PySem.mem_of_lookup hfr) rfl with k' | k' <;> rw [show X.env.scope.names.lookup y = _ from k'] at k <;> cases k
    · rw [h2] at e'; cases e'
      exact ⟨c, h1, z.keeps kp⟩
  · obtain ⟨w, z⟩ := I.cell y c (mem e).1
    exact ⟨w, z.keeps kp⟩
  · show H cenv.locals = none
    rw [hL]; exact I.hok.fresh (Nat.le_refl _)
  · exact I.freeC y c (mem e).1
  · exact absurd (show p ∈ ([] : List (Addr × Obj)) ++ [] from hp) (by simp)
end

/-! ### the run -/
/-- the reading of a generator expression's run: n: how many are still to come; Yd n y H: y comes, n are left; Go n: it will be asked again -/
def Turns (J : It) (g : TG) (tt : TT) (te : TE) (vs : List Nat) (σ : L2.St) (Yd : Nat → V → Hp → Prop) (Go : Nat → Prop) (Fin : Hp → Prop) (W : Nat → Nat → Nat → Hp → Prop) : Prop := ∀ i m n H, W i m n H →
  (J.stop i H ∧ n = 0 ∧ Fin H) ∨ (J.go i H ∧ ∃ Nx : Nat → Hp → Prop, (∀ n' H', Nx n' H' → ∃ m', m' < m ∧ W (i + 1) m' n' H') ∧ ∀ x H', J.yld i H x H' → g x (wipe σ vs) H' fun σ2 H2 => wipe σ2 vs = wipe σ vs ∧ tt σ2 H2 fun b H3 =>
    if b = true then te σ2 H3 fun y H4 => ∃ n', n = n' + 1 ∧ Yd n' y H4 ∧ (Go n' → Nx n' H4) else Nx n H3)
/-- the objects of the one who draws -/
abbrev Cps := List (Addr × Obj)
def Holds (cp : Cps) (h : Heap) : Prop := ∀ p ∈ cp, h.get? p.1 = some p.2
/-- woken again: the drawer's objects may have changed -/
structure Woke (cp cp' : Cps) (s s' : Shared) : Prop where
  os : s'.os = s.os
  bare : AllBare s'.gens
  keep : ∀ b o, b ∉ cp.map (·.1) → s.heap.get? b = some o → s'.heap.get? b = some o
  ad : cp'.map (·.1) = cp.map (·.1)
  holds : Holds cp' s'.heap
  nocell : ∀ p ∈ cp', ∀ v, p.2.data ≠ .cell v
def GY (G : Cx) (ws : List Addr) (Yd : Nat → V → Hp → Prop) (Go : Nat → Prop) : Protocol := fun n s₀ v s kap =>
  ∃ y σ H cp, cp.map (·.1) = ws ∧ Holds cp s₀.heap ∧ RelV y v ∧ Inv G cp σ H s ∧ Yd n y H ∧ (Go n → ∀ s' cp', Woke cp cp' s s' → kap (.send .none) s')
def GR (G : Cx) (ws : List Addr) (Fin : Hp → Prop) : GenEnd := fun n s₀ r s => r = .ok .next ∧ n = 0 ∧ ∃ σ H cp, cp.map (·.1) = ws ∧ Holds cp s₀.heap ∧ Inv G cp σ H s ∧ Fin H
section
variable {G : Cx} {σ : L2.St} {H : Hp} {s s' : Shared} {cp cp' : Cps}
/-- where the drawer's objects may stand -/
def CpAt (G : Cx) (ws : List Addr) : Prop := ∀ b ∈ ws, G.s_0.heap.objs.size ≤ b ∧ b ≠ G.env.locals ∧ (∀ x c, G.env.cells.lookup x = some c → c ≠ b)
theorem inv_woke (I : Inv G cp σ H s) (hpn : G.pn = []) (ha : CpAt G (cp.map (·.1))) (w : Woke cp cp' s s') : Inv G cp' σ H s' := by
  have at_ : ∀ b ∈ cp.map (·.1), H b = none ∧ b ∉ G.fs ∧ ∃ o, s.heap.get? b = some o := fun b hb => by
    obtain ⟨p, hp, rfl⟩ := List.mem_map.mp hb
    obtain ⟨h1, h2, h3, h4, _⟩ := I.pin p (List.mem_append_right _ hp)
    exact ⟨h2, h4, p.2, h1⟩
  obtain ⟨z1, z2, z3, z4, z5, z6⟩ := w
  obtain ⟨hh, g, d, t, o⟩ := s'
  have ho : o = s.os := z1
  subst ho
  have I0 : Inv G [] σ H s := I.pins_of fun p hp => absurd hp (by simp)
  have nt : ∀ b u, H b = some u → b ∉ cp.map (·.1) := fun b u q hb => by
    rw [(at_ b hb).1] at q; cases q
  have J : Inv G [] σ H { s with heap := hh, gens := g, drawn := d, toks := t } := by
    refine I0.step (g' := g) (t' := t) (d' := d) (ch := cp.map (·.1)) (fun b hb => ⟨.inr (ha b hb).1, (ha b hb).2.1, (ha b hb).2.2, fun p hp => ?_⟩)
      (fun b ob _ _ hc q _ => z3 b ob hc q) (fun b ob _ _ hc q _ => ⟨ob.slots, z3 b ob hc q⟩) (fun _ _ _ _ n => n) (fun b ob hc q => ⟨ob, z3 b ob hc q⟩)
      (fun _ _ q => q) (fun _ _ _ q => q) (fun b ps q => ⟨#[], by rw [q]; simp⟩) (fun m hm => ?_) (fun b u q => ?_) z2
    · rw [hpn] at hp
      exact absurd hp (by simp)
    · obtain ⟨ob, es, ep, ho, r⟩ := hm
      exact ⟨ob, es, ep, z3 _ ob (fun hb => (ha _ hb).2.1 rfl) ho, r⟩
    · refine (I0.hok b u q).stay (fun c v hc y => z3 c v ?_ y) (fun _ y => y) fun _ _ y => y
      rcases hc with y | y
      · rw [y]; exact nt b u q
      · exact nt c _ y
  refine J.pins_of fun p hp => ?_
  have hb : p.1 ∈ cp.map (·.1) := by rw [← z4]; exact List.mem_map.mpr ⟨p, hp, rfl⟩
  exact ⟨z5 p hp, (at_ _ hb).1, (ha _ hb).2.1, (at_ _ hb).2.1, z6 p hp⟩

variable {elt tg iter : Expr} {ifs : List Expr} {scope : Scope} {pos : Pos} {it : Addr} {fp : List Addr} {tn : Nat → Heap → Prop} {J : It} {g : TG} {tt : TT} {te : TE} {vs : List Nat} {σ₀ : L2.St} {Yd : Nat → V → Hp → Prop} {Go : Nat → Prop} {Fin : Hp → Prop} {W : Nat → Nat → Nat → Hp → Prop} {A : Around} {ws : List Addr}
theorem seg_loop (hA : G.A = A.deeper G.env) (hpn : G.pn = []) (hcalm : G.calm = true) (hco : G.env.scope.isCoroutine = false) (hex : ∀ b ∈ fp, b ∈ G.ex ∧ b ∉ ws) (hws : CpAt G ws) (T : Turn G.prog G.w G.K tg J fp it tn)
    (pg : PG G tg g) (pt : PTs G ifs tt) (pe : PE G elt te) (turn : Turns J g tt te vs σ₀ Yd Go Fin W) (hxe : G.xe = fun _ _ => False) :
    ∀ (m i n N : Nat) (s₀ s : Shared) (H : Hp) (cp : Cps), n ≤ N → N = n → cp.map (·.1) = ws → Holds cp s₀.heap → Inv G cp (wipe σ₀ vs) H s → tn i s.heap → (∀ b ∈ fp, H b = none) → W i m n H →
      Seg (model G.prog G.w) A (GR G ws Fin) (GY G ws Yd Go) N s₀ (.compLoop (gxe elt tg iter ifs scope pos) 0 (.ref it) .none G.env)
        ((model G.prog G.w).den (.compLoop (gxe elt tg iter ifs scope pos) 0 (.ref it) .none G.env)) [] s := by
  have stat : ∀ {σ' : L2.St} {H' : Hp} {s' : Shared} {cp' : Cps}, cp'.map (·.1) = ws → Inv G cp' σ' H' s' → (∀ b ∈ fp, H' b = none) → ∀ b ∈ fp, FpOk G cp' H' b := fun {σ' H' s' cp'} hc I' hn b hb =>
    ⟨hn b hb, (I'.ok.exf b (hex b hb).1).1, I'.ok.exfs b (hex b hb).1, .inl (hex b hb).1, fun x c e => (I'.ok.exf b (hex b hb).1).2 x c e, fun p hp z => by
      rw [hpn, List.nil_append] at hp
      have : p.1 ∈ ws := by rw [← hc]; exact List.mem_map.mpr ⟨p, hp, rfl⟩
      rw [z] at this
      exact (hex b hb).2 this⟩
  intro m
  induction m using Nat.strongRecOn with
  | ind m ih =>
    intro i n N s₀ s H cp _ hNn hcp hh0 I st nfp w0
    subst hNn
    show Seg _ A _ _ _ s₀ _ ((compTurn (gxe elt tg iter ifs scope pos) 0 (.ref it) .none G.env).onRaise (leaving G.env)) [] s
    rw [compTurn_gen, Sem.onRaise_eq_wrap]
    refine seg_bind_wrap (wpAny_standAt ?_)
    rcases turn i m _ H w0 with ⟨stop, hn0, hF⟩ | ⟨go, Nx, hNx, step⟩
    · have td := T.done G rfl rfl rfl hcalm i cp s _ H (fun _ _ => False) I (stat hcp I nfp) st stop
      rw [hA] at td
      refine seg_bind_wrap ?_
      rw [over_comp]
      refine wpAny_mono td (fun r s6 ⟨hr, I6⟩ => ?_) fun _ _ z => z.elim
      subst hr
      exact seg_end (.ok .next) ⟨rfl, hn0, _, H, cp, hcp, hh0, I6, hF⟩
    · have ti := T.item G rfl rfl rfl hcalm i cp s _ H (fun _ _ => False) I (stat hcp I nfp) st go
      rw [hA] at ti
      refine seg_bind_wrap ?_
      rw [over_comp]
      refine wpAny_mono ti (fun r s6 ⟨u, hr, h6⟩ => ?_) fun _ _ z => z.elim
      subst hr
      refine seg_bind_wrap ?_
      rw [over_comp]
      refine wpAny_mono h6 (fun _ s7 ⟨x, H7, I7, r7, y7, st7, n7⟩ => ?_) fun _ _ z => z.elim
      have I7' := I7.pinned (stat hcp I7 n7) (T.obj _ _ st7)
      have g7 := pg.run _ s7 _ H7 x u _ I7' r7 (step x H7 y7)
      rw [hA, hxe] at g7
      refine seg_bind_wrap ?_
      rw [over_comp]
      refine wpAny_mono g7 (fun _ s8 ⟨σ8, H8, I8, hw8, q8⟩ => ?_) fun _ _ z => z.elim
      have g8 := pt.run _ s8 σ8 H8 _ I8 q8
      rw [hA, hxe] at g8
      refine seg_bind_wrap ?_
      rw [over_comp]
      refine wpAny_mono g8 (fun b s9 ⟨H9, I9, q9⟩ => ?_) fun _ _ z => z.elim
      have keepfp : ∀ {s' : Shared} {σ' : L2.St} {H' : Hp}, Inv G (cp ++ pinsAt fp s7.heap) σ' H' s' → ∀ b ∈ fp, ∀ o, s7.heap.get? b = some o → s'.heap.get? b = some o ∧ H' b = none := fun {s' σ' H'} I' b hb o e =>
        let z := I'.pin (b, o) (List.mem_append_right _ (List.mem_append_right _ (mem_pinsAt hb e)))
        ⟨z.1, z.2.1⟩
      have hl : ∀ {s' : Shared} {σ' : L2.St} {H' : Hp} {pp : Cps}, wipe σ' vs = wipe σ₀ vs → Inv G pp σ' H' s' → Inv G pp (wipe σ₀ vs) H' s' := fun {s' σ' H' pp} hw I' =>
        I'.weak (by rw [← hw, wipe_length]) fun j v e => by
          rw [← hw] at e
          exact (wipe_some e).1
      cases b with
      | false =>
        simp only [Bool.false_eq_true, if_false] at q9 ⊢
        obtain ⟨m', hm, w'⟩ := hNx _ _ q9
        refine seg_again rfl (ih m' hm (i + 1) _ _ s₀ s9 H9 cp (Nat.le_refl _) rfl hcp hh0 (hl hw8 I9.unpinned) (T.keep _ _ _ st7 fun b hb o e => (keepfp I9 b hb o e).1) (fun b hb => ?_) w')
        obtain ⟨o, e, _⟩ := T.obj _ _ st7 b hb
        exact (keepfp I9 b hb o e).2
      | true =>
        simp only [if_true] at q9 ⊢
        have hy : ∀ v, yieldOut G.env v = yieldValue v := fun v => by simp only [yieldOut, hco, Bool.false_eq_true, if_false]
        simp only [hy]
        rw [Sem.bind_eq_wrap', Sem.bind_eq_wrap', Sem.wrap_wrap, Sem.wrap_wrap]
        have g9 := pe.run _ s9 σ8 H9 _ I9 q9
        rw [hA, hxe] at g9
        refine seg_wrap ?_
        rw [over_comp]
        refine wpAny_mono g9 (fun z s10 ⟨yv, H10, I10, r10, n', hn', hyd, hgo⟩ => ?_) fun _ _ z => z.elim
        subst hn'
        refine seg_at (seg_yield rfl rfl rfl ⟨yv, σ8, H10, cp, hcp, hh0, r10, I10.unpinned, hyd, fun hg s' cp' wk => ?_⟩)
        obtain ⟨m', hm, w'⟩ := hNx _ _ (hgo hg)
        have hcp' : cp'.map (·.1) = ws := by rw [wk.ad]; exact hcp
        have I11 := inv_woke (I10.unpinned (pins := cp)) hpn (by rw [hcp]; exact hws) wk
        have nws : ∀ b ∈ fp, b ∉ cp.map (·.1) := fun b hb => by rw [hcp]; exact (hex b hb).2
        refine seg_again rfl (ih m' hm (i + 1) n' n' s' s' H10 cp' (Nat.le_refl _) rfl hcp' wk.holds (hl hw8 I11) (T.keep _ _ _ st7 fun b hb o e => wk.keep b o (nws b hb) (keepfp I10 b hb o e).1) (fun b hb => ?_) w')
        obtain ⟨o, e, _⟩ := T.obj _ _ st7 b hb
        exact (keepfp I10 b hb o e).2
theorem seg_start (hA : G.A = A.deeper G.env) (hpn : G.pn = []) (hcalm : G.calm = true) (hco : G.env.scope.isCoroutine = false) (hex : ∀ b ∈ fp, b ∈ G.ex ∧ b ∉ ws) (hws : CpAt G ws) (T : Turn G.prog G.w G.K tg J fp it tn)
    (pg : PG G tg g) (pt : PTs G ifs tt) (pe : PE G elt te) (turn : Turns J g tt te vs σ₀ Yd Go Fin W) (hxe : G.xe = fun _ _ => False) {m n : Nat} {s₀ s : Shared} {H : Hp} {cp : Cps} (hcp : cp.map (·.1) = ws) (hh0 : Holds cp s₀.heap)
    (I : Inv G cp (wipe σ₀ vs) H s) (st : tn 0 s.heap) (nfp : ∀ b ∈ fp, H b = none) (w0 : W 0 m n H) :
      Seg (model G.prog G.w) A (GR G ws Fin) (GY G ws Yd Go) n s₀ (.compStart (gxe elt tg iter ifs scope pos) 0 (.ref it) .none G.env)
        ((model G.prog G.w).den (.compStart (gxe elt tg iter ifs scope pos) 0 (.ref it) .none G.env)) [] s := by
  have loop := seg_loop (iter := iter) (scope := scope) (pos := pos) hA hpn hcalm hco hex hws T pg pt pe turn hxe m 0 n n s₀ s H cp (Nat.le_refl _) rfl hcp hh0 I st nfp w0
  show Seg _ A _ _ _ s₀ _ ((compStart (gxe elt tg iter ifs scope pos) 0 (.ref it) .none G.env).onRaise (leaving G.env)) [] s
  unfold compStart
  rw [Sem.onRaise_eq_wrap]
  show Seg _ A _ _ _ s₀ _ ((ask >>= _).wrap _ _ _ _) [] s
  refine seg_bind_wrap (wpAny_askSetting ?_)
  split
  · exact seg_again rfl loop
  · first
      | exact seg_bind_wrap (wpAny_rule (seg_bind_wrap (wpAny_standAt (seg_bind_wrap (T.self _ 0 s _ _ st (seg_again rfl loop))))))
      | (refine seg_bind_wrap (wpAny_rule ?_); show Seg _ A _ _ _ s₀ _ ((standAt iter.pos >>= _).wrap _ _ _ _) [] s; exact seg_bind_wrap (wpAny_standAt (seg_bind_wrap (T.self _ 0 s _ _ st (seg_again rfl loop)))))
end
end HGx

set_option Elab.async false
set_option linter.all false
set_option maxRecDepth 100000
set_option maxHeartbeats 2000000
/-! Who draws on a generator expression: all, any, sum. -/
namespace HGx
open PySem PySem.Spec PyProof.Rows L2 GxR GenW

theorem Woke.refl {cp : Cps} {s : Shared} (hb : AllBare s.gens) (h : Holds cp s.heap) (n : ∀ p ∈ cp, ∀ v, p.2.data ≠ .cell v) : Woke cp cp s s := ⟨rfl, hb, fun _ _ _ e => e, rfl, h, n⟩
theorem Woke.trans {cp cp1 cp2 : Cps} {s s1 s2 : Shared} (a : Woke cp cp1 s s1) (b : Woke cp1 cp2 s1 s2) : Woke cp cp2 s s2 :=
  ⟨b.os.trans a.os, b.bare, fun x o hx e => b.keep x o (by rw [a.ad]; exact hx) (a.keep x o hx e), b.ad.trans a.ad, b.holds, b.nocell⟩
theorem cps_eq : ∀ {cp cp' : Cps} {h : Heap}, cp.map (·.1) = cp'.map (·.1) → Holds cp h → Holds cp' h → cp = cp'
  | [], [], _, _, _, _ => rfl
  | p :: cp, q :: cp', h, e, h1, h2 => by
    rw [List.map_cons, List.map_cons, List.cons.injEq] at e
    have e1 := h1 p List.mem_cons_self
    have e2 := h2 q List.mem_cons_self
    rw [e.1] at e1
    rw [e1] at e2
    have : p = q := Prod.ext e.1 (Option.some.inj e2)
    rw [this, cps_eq e.2 (fun x hx => h1 x (List.mem_cons_of_mem _ hx)) (fun x hx => h2 x (List.mem_cons_of_mem _ hx))]
  | [], _ :: _, _, e, _, _ => by simp at e
  | _ :: _, [], _, e, _, _ => by simp at e

/-- a generator that waits to be asked -/
structure Asl (G : Cx) (A : Around) (a : Addr) (gi : Nat) (Yd : Nat → V → Hp → Prop) (Go : Nat → Prop) (Fin : Hp → Prop) (n : Nat) (cp : Cps) (s : Shared) : Prop where
  gen : s.heap.IsGen a gi
  mem : a ∈ cp.map (·.1)
  lim : s.heap.NoLimit
  lims : cStatics ∉ cp.map (·.1)
  holds : Holds cp s.heap
  nocell : ∀ p ∈ cp, ∀ v, p.2.data ≠ .cell v
  bare : AllBare s.gens
  go : Go n
  pn : G.pn = []
  ats : CpAt G (cp.map (·.1))
  st : ∃ gs, s.gens[gi]? = some gs ∧ ∀ s' cp', Woke cp cp' s s' → gs.Goes (model G.prog G.w) A (GR G (cp.map (·.1)) Fin) (GY G (cp.map (·.1)) Yd Go) n (.send .none) s'
section
variable {G : Cx} {A : Around} {a : Addr} {gi n : Nat} {Yd : Nat → V → Hp → Prop} {Go : Nat → Prop} {Fin : Hp → Prop} {cp cp' : Cps} {s s' : Shared}
theorem Asl.move (h : Asl G A a gi Yd Go Fin n cp s) (w : Woke cp cp' s s') (hg : s'.gens = s.gens) (ha : ∀ o, (a, o) ∈ cp → (a, o) ∈ cp') : Asl G A a gi Yd Go Fin n cp' s' where
  gen := by
    obtain ⟨p, hp, e⟩ := List.mem_map.mp h.mem
    obtain ⟨o, nm, qn, h1, r⟩ := h.gen
    have hp1 := h.holds p hp
    rw [e, h1] at hp1
    have : p = (a, o) := Prod.ext e (Option.some.inj hp1).symm
    rw [this] at hp
    exact ⟨o, nm, qn, w.holds _ (ha o hp), r⟩
  mem := by rw [w.ad]; exact h.mem
  lim := let ⟨mc, hns, hnn⟩ := h.lim; ⟨mc, hns.at' fun o e => w.keep cStatics o h.lims e, hnn⟩
  lims := by rw [w.ad]; exact h.lims
  holds := w.holds
  nocell := w.nocell
  bare := w.bare
  go := h.go
  pn := h.pn
  ats := by rw [w.ad]; exact h.ats
  st := by
    obtain ⟨gs, h1, h2⟩ := h.st
    refine ⟨gs, by rw [hg]; exact h1, fun s2 cp2 w2 => ?_⟩
    rw [w.ad]
    exact h2 s2 cp2 (w.trans w2)
theorem Inv.grown {X : Cx} {pins : Cps} {σ : L2.St} {H : Hp} {s s' : Shared} (I : Inv X pins σ H s) (k : ∀ b o, s.heap.get? b = some o → s'.heap.get? b = some o) (ho : s'.os = s.os) (hg : AllBare s'.gens) : Inv X pins σ H s' := by
  obtain ⟨h', g', d', t', o'⟩ := s'
  have e : o' = s.os := ho
  subst e
  refine I.step (g' := g') (t' := t') (d' := d') (ch := []) (fun b hb => absurd hb (by simp)) (fun b o _ _ _ e _ => k b o e) (fun b o _ _ _ e _ => ⟨o.slots, k b o e⟩) (fun _ _ _ _ n => n) (fun b o _ e => ⟨o, k b o e⟩)
    (fun _ _ e => e) (fun _ _ _ e => e) (fun b ps e => ⟨#[], by rw [e]; simp⟩) (fun m hm => ?_) (fun b u e => ?_) hg
  · obtain ⟨ob, es, ep, ho, r⟩ := hm
    exact ⟨ob, es, ep, k _ _ ho, r⟩
  · exact (I.hok b u e).stay (fun d v hd q => k d v q) (fun d q => q) fun d xs q => q
/-- one draw -/
theorem draw {Ad : Around} {E : Value → Shared → Prop} {Q : Option Value → Shared → Prop} (hh : Ad.handled = none) (hroom : Ad.depth < recursionLimit) (h : Asl G Ad.in1 a gi Yd Go Fin n cp s)
    (hF : n = 0 → ∀ s' σ H, Inv G cp σ H s' → Fin H → Q none s')
    (hS : ∀ m v y σ H s', n = m + 1 → RelV y v → Inv G cp σ H s' → Yd m y H → (Go m → Asl G Ad.in1 a gi Yd Go Fin m cp s') → Q (some v) s') : wpAny (model G.prog G.w) Ad (pyNext (.ref a)) Q E s := by
  obtain ⟨gs, hgs, hgo⟩ := h.st
  have hgi : gi < s.gens.size := (Array.getElem?_eq_some_iff.mp hgs).1
  have wk : Woke cp cp s (s.setGen gi .running) := ⟨rfl, allBare_setGen h.bare rfl, fun _ _ _ e => e, rfl, h.holds, h.nocell⟩
  refine wpAny_gsz (n := gi + 1) hgi ?_
  have hgo' := hgo _ _ wk
  refine wpAny_pyNext_genexpQ (P := fun n s₀ s => n = 0 ∧ ∃ (σ : L2.St) (H : Hp) (cp' : Cps), cp'.map (·.1) = cp.map (·.1) ∧ Holds cp' s₀.heap ∧ Inv G cp' σ H s ∧ Fin H) hh h.lim hroom h.gen hgs hgo' (fun v s₁ gs' hb hv => ?_) (fun s₁ hp h' kp hsz => ?_)
  · obtain ⟨y, σ, H, cp', e1, e2, r, I, yd, kap⟩ := hv
    have ec : cp' = cp := cps_eq e1 e2 h.holds
    subst ec
    intro hsz
    rw [setGen_size] at hsz
    have hp := fun p (hp : p ∈ cp') => I.pin p (List.mem_append_right _ hp)
    have hold : Holds cp' s₁.heap := fun p q => (hp p q).1
    have wk1 : Woke cp' cp' s₁ (s₁.setGen gi gs') := ⟨rfl, allBare_setGen I.bare hb, fun _ _ _ e => e, rfl, hold, h.nocell⟩
    cases n with
    | zero => exact (kap h.go _ _ wk1).elim
    | succ m =>
      refine hS m v y σ H _ rfl r (inv_woke I h.pn h.ats wk1) yd fun hg => ?_
      have hgen : s₁.heap.IsGen a gi := by
        obtain ⟨p, q, e⟩ := List.mem_map.mp h.mem
        obtain ⟨o, nm, qn, h1, r⟩ := h.gen
        have q1 := h.holds p q
        rw [e, h1] at q1
        have : p = (a, o) := Prod.ext e (Option.some.inj q1).symm
        rw [this] at q
        exact ⟨o, nm, qn, hold _ q, r⟩
      exact ⟨hgen, h.mem, I.nolimit, h.lims, hold, h.nocell, allBare_setGen I.bare hb, hg, h.pn, h.ats, gs', setGen_at hsz, fun s' cp2 w2 => kap hg s' cp2 (wk1.trans w2)⟩
  · obtain ⟨hn, σ, H, cp', e1, e2, I, fin⟩ := hp
    have ec : cp' = cp := cps_eq e1 e2 h.holds
    subst ec
    exact hF hn _ σ H (Inv.grown I kp rfl (allBare_setGen I.bare rfl)) fin

/-! ### all, any, sum -/
variable {R : Result → Shared → Prop}
theorem all_loop (hh : A.handled = none) (hroom : A.depth < recursionLimit) {Qd : V → Hp → Prop} (hY : ∀ m y H, Yd m y H → (y = .bl true ∧ Go m) ∨ (y = .bl false ∧ Qd (.bl false) H)) (hF : ∀ H, Fin H → Qd (.bl true) H)
    (hR : ∀ v y σ H s', Inv G cp σ H s' → RelV y v → Qd y H → R (.ok (.ret v)) s') :
    ∀ (n : Nat) (s : Shared), Asl G A.in1.in1 a gi Yd Go Fin n cp s → codeAny (model G.prog G.w) A (.builtin "all.loop" ⟨[.ref a], []⟩) R s := by
  intro n
  induction n using Nat.strongRecOn with
  | ind n ih =>
    intro s h
    refine codeAny_builtin F.entry_all_loop ?_
    rw [Around.under_plainId F.plain_all_loop _]
    show wpAny _ A.in1 (pyNext (.ref a) >>= _) _ _ s
    refine wpAny_bind (draw (Ad := A.in1) hh hroom h (fun hn s' σ H I f => ?_) fun m v y σ H s' hn r I yd next => ?_)
    · exact wpAny_bind (wpAny_rule (wpAny_pure (hR _ (.bl true) σ H s' I rfl (hF H f))))
    · rcases hY m y H yd with ⟨rfl, hg⟩ | ⟨rfl, q⟩
      · cases r
        refine wpAny_bind (wpAny_holding (wpAny_truthy_bool ?_))
        refine wpAny_bind (wpAny_letGo ?_)
        simp only [if_true]
        exact wpAny_pure ⟨plainId_quiet F.plain_all_loop _, ih m (by omega) s' (next hg)⟩
      · cases r
        refine wpAny_bind (wpAny_holding (wpAny_truthy_bool ?_))
        refine wpAny_bind (wpAny_letGo ?_)
        simp only [Bool.false_eq_true, if_false]
        exact wpAny_bind (wpAny_rule (wpAny_pure (hR _ (.bl false) σ H s' I rfl q)))
theorem any_loop (hh : A.handled = none) (hroom : A.depth < recursionLimit) {Qd : V → Hp → Prop} (hY : ∀ m y H, Yd m y H → (y = .bl false ∧ Go m) ∨ (y = .bl true ∧ Qd (.bl true) H)) (hF : ∀ H, Fin H → Qd (.bl false) H)
    (hR : ∀ v y σ H s', Inv G cp σ H s' → RelV y v → Qd y H → R (.ok (.ret v)) s') :
    ∀ (n : Nat) (s : Shared), Asl G A.in1.in1 a gi Yd Go Fin n cp s → codeAny (model G.prog G.w) A (.builtin "any.loop" ⟨[.ref a], []⟩) R s := by
  intro n
  induction n using Nat.strongRecOn with
  | ind n ih =>
    intro s h
    refine codeAny_builtin F.entry_any_loop ?_
    rw [Around.under_plainId F.plain_any_loop _]
    show wpAny _ A.in1 (pyNext (.ref a) >>= _) _ _ s
    refine wpAny_bind (draw (Ad := A.in1) hh hroom h (fun hn s' σ H I f => ?_) fun m v y σ H s' hn r I yd next => ?_)
    · exact wpAny_bind (wpAny_rule (wpAny_pure (hR _ (.bl false) σ H s' I rfl (hF H f))))
    · rcases hY m y H yd with ⟨rfl, hg⟩ | ⟨rfl, q⟩
      · cases r
        refine wpAny_bind (wpAny_holding (wpAny_truthy_bool ?_))
        refine wpAny_bind (wpAny_letGo ?_)
        simp only [Bool.false_eq_true, if_false]
        exact wpAny_pure ⟨plainId_quiet F.plain_any_loop _, ih m (by omega) s' (next hg)⟩
      · cases r
        refine wpAny_bind (wpAny_holding (wpAny_truthy_bool ?_))
        refine wpAny_bind (wpAny_letGo ?_)
        simp only [if_true]
        exact wpAny_bind (wpAny_rule (wpAny_pure (hR _ (.bl true) σ H s' I rfl q)))
abbrev sumO (i : Int) (t : Tok) (c : Nat) : Obj := { cls := .type "list", dict := none, data := .seq #[.int i t] c, slots := #[] }
theorem sum_loop {go : Obj} {S : Addr} (hS : S ≠ a) (hh : A.handled = none) (hroom : A.depth < recursionLimit) {Qd : V → Hp → Prop} (acc : Nat → Int)
    (hY : ∀ m y H, Yd m y H → ∃ v, y = .int v ∧ InLong v ∧ InLong (acc (m + 1) + v) ∧ acc m = acc (m + 1) + v ∧ Go m) (hF : ∀ H, Fin H → Qd (.int (acc 0)) H)
    (hR : ∀ v y σ H s' cp, cp.map (·.1) = [a, S] → Inv G cp σ H s' → RelV y v → Qd y H → R (.ok (.ret v)) s') :
    ∀ (n : Nat) (s : Shared) (t : Tok) (c : Nat), Asl G A.in1.in1 a gi Yd Go Fin n [(a, go), (S, sumO (acc n) t c)] s → codeAny (model G.prog G.w) A (.builtin "sum.loop" ⟨[.ref a, .ref S, rawInt 0, rawInt 0], []⟩) R s := by
  intro n
  induction n using Nat.strongRecOn with
  | ind n ih =>
    intro s t c h
    refine codeAny_builtin F.entry_sum_loop ?_
    rw [Around.under_plainId F.plain_sum_loop _]
    show wpAny _ A.in1 (seqItems? (.ref S) >>= _) _ _ s
    refine wpAny_bind (wpAny_seqItems (h.holds (S, sumO (acc n) t c) (by simp)) rfl ?_)
    show wpAny _ A.in1 (tryCatch (pyNext (.ref a)) _ >>= _) _ _ s
    refine wpAny_bind (wpAny_tryCatch (draw (Ad := A.in1) hh hroom h (fun hn s' σ H I f => ?_) fun m v y σ H s' hn r I yd next => ?_))
    · subst hn
      exact wpAny_pure (hR _ (.int (acc 0)) σ H s' _ rfl I ⟨t, rfl⟩ (hF H f))
    · subst hn
      obtain ⟨i, rfl, ⟨f1, f2⟩, ⟨f3, f4⟩, e, hg⟩ := hY m y H yd
      obtain ⟨ti, rfl⟩ := _root_.id r
      have hS' := (next hg).holds (S, sumO (acc (m + 1)) t c) (by simp)
      have hc : ((decide (-(2 ^ 63) ≤ i) && decide (i < 2 ^ 63)) && (decide (-(2 ^ 63) ≤ acc (m + 1) + i) && decide (acc (m + 1) + i < 2 ^ 63))) = true := by
        simp only [Bool.and_eq_true, decide_eq_true_eq]
        exact ⟨⟨f1, f2⟩, f3, f4⟩
      show wpAny _ A.in1 (if (_ : Bool) = true then (mkInt (acc (m + 1) + i) >>= _) else _) _ _ _
      split
      · refine wpAny_bind (wpAny_mkInt ?_)
        show wpAny _ A.in1 (updateSeq S (fun _ => #[.int (acc (m + 1) + i) s'.toks]) >>= _) _ _ _
        refine wpAny_bind ?_
        refine wpAny_updateSeq hS' rfl ?_
        generalize hw : Heap.update _ _ _ = hp'
        obtain ⟨c', hself⟩ : ∃ c', hp'.get? S = some (sumO (acc m) s'.toks c') := ⟨_, by rw [← hw, e]; exact Heap.get?_update_self _ hS' rfl⟩
        have hoth : ∀ b o, S ≠ b → s'.heap.get? b = some o → hp'.get? b = some o := fun b o hb q => by rw [← hw]; exact (Heap.get?_update_other _ _ hb).trans q
        refine wpAny_pure ⟨plainId_quiet F.plain_sum_loop _, ih m (by omega) _ s'.toks c' ?_⟩
        refine (next hg).move ⟨rfl, (next hg).bare, fun b o hb q => ?_, rfl, fun p hp => ?_, fun p hp => ?_⟩ rfl fun o ho => ?_
        · exact hoth b o (fun h : S = b => hb (by rw [h]; simp)) q
        · simp only [List.mem_cons, List.not_mem_nil, or_false] at hp
          rcases hp with rfl | rfl
          · exact hoth _ _ hS ((next hg).holds (a, go) (by simp))
          · exact hself
        · simp only [List.mem_cons, List.not_mem_nil, or_false] at hp
          rcases hp with rfl | rfl
          · exact h.nocell (a, go) (by simp)
          · intro v z; cases z
        · simp only [List.mem_cons, List.not_mem_nil, or_false, Prod.mk.injEq] at ho ⊢
          rcases ho with ho | ho
          · exact .inl ho
          · exact absurd ho.1.symm hS
      · rename_i hneg
        exact absurd hc hneg
end
end HGx

set_option Elab.async false
set_option linter.all false
set_option maxRecDepth 100000
set_option maxHeartbeats 2000000
/-! Making a generator expression; all, any, sum of it. -/
namespace HGx
open PySem PySem.Spec PyProof.Rows L2 GxR GenW

/-- a generator just made, ready for the one who draws at A -/
def Made (X : Cx) (pins : Cps) (σ : L2.St) (A : Around) (H2 : Hp) (J : It) (g : TG) (tt : TT) (te : TE) (vs : List Nat) (a : Addr) (s5 : Shared) : Prop :=
  ∃ (s4 : Shared) (cenv : Env) (fp : List Addr) (gi : Nat) (go : Obj), cenv.locals < a ∧ s5.heap.get? a = some go ∧ (∀ v, go.data ≠ .cell v) ∧ Inv X pins σ H2 s5 ∧
    (∀ σ' H' s' cp, Inv (X.gx A s4 H2 cenv fp) cp σ' H' s' → Inv X pins σ H' s') ∧
    ∀ (W : Nat → Nat → Nat → Hp → Prop) (Yd : Nat → V → Hp → Prop) (Go : Nat → Prop) (Fin : Hp → Prop) (m n : Nat), Turns J g tt te vs σ Yd Go Fin W → W 0 m n H2 → Go n →
      ∀ s' cp, (∀ b o, s5.heap.get? b = some o → s'.heap.get? b = some o) → s'.gens = s5.gens → s'.os = s5.os → (a, go) ∈ cp → Holds cp s'.heap → (∀ p ∈ cp, cenv.locals < p.1) → (∀ p ∈ cp, ∀ v, p.2.data ≠ .cell v) →
        Asl (X.gx A s4 H2 cenv fp) A a gi Yd Go Fin n cp s'
section
variable {X : Cx} {pins : Cps} {σ : L2.St} {H : Hp} {s : Shared}
theorem gx_make {c P : Addr} {elt tg iter : Expr} {ifs : List Expr} {gpos : Pos} {scope : Scope} {own : List (Str × Nat)} {wi : TI} {g : TG} {tt : TT} {te : TE} {k : Nat} {A : Around} {Q' : Value → Shared → Prop} {R : It → Hp → Prop}
    (hr : Room k X.A) (hAh : A.handled = none) (hAf : A.frames = some X.stack) (hN : X.N.Nodup) (TB : TabB X.base X.mg c P) (hcode : X.env.code = .ref c) (hco : scope.isCoroutine = false) (hcell : ∀ y ∈ scope.names, y.2 ≠ .cell)
    (h0 : scope.names.lookup (".0" : Str) = some NameKind.local) (ok : BlkOk X.N X.env.scope scope own) (hi : PI X tg iter wi) (hs : ∀ v, genFold iter X.env v = pure v)
    (hg : ∀ (s : Shared) (H : Hp) (C : Addr) (cl : List (Str × Addr)) (cd : Value) (bi : Addr) (fp : List Addr), PG (X.gx A s H (genEnv scope cl C cd bi X.env) fp) tg g) (ht : ∀ (s : Shared) (H : Hp) (C : Addr) (cl : List (Str × Addr)) (cd : Value) (bi : Addr) (fp : List Addr), PTs (X.gx A s H (genEnv scope cl C cd bi X.env) fp) ifs tt)
    (he : ∀ (s : Shared) (H : Hp) (C : Addr) (cl : List (Str × Addr)) (cd : Value) (bi : Addr) (fp : List Addr), PE (X.gx A s H (genEnv scope cl C cd bi X.env) fp) elt te)
    (I : Inv X pins σ H s) (h : wi σ H fun J H1 => TabG H1 P ∧ R J H1) (hQ : ∀ J H1 H2 a s5, R J H1 → Tabbed P H1 H2 → Made X pins σ A H2 J g tt te (own.map (·.2)) a s5 → Q' (.ref a) s5) :
    wpAny (model X.prog X.w) X.A (eval (.GeneratorExp elt [⟨tg, iter, ifs, 0⟩] scope gpos) X.env) Q' X.xe s := by
  have hfree : ∀ y ∈ scope.names, y.2 = .free → ∃ c, X.env.cells.lookup y.1 = some c := fun y hy e => by
    rcases ok.free y hy e with k | k
    · exact I.ok.has _ (.inl k)
    · exact I.ok.has _ (.inr k)
  refine wpAny_GeneratorExp_make hco (closure_ok hfree) hcell h0 ok.kind (by have := hr.dp; omega) ?_ hs
  refine thn (hi.run pins s σ H _ I h) fun xv s1 hx => thn hx fun itv s2 h2 => ?_
  obtain ⟨it, fp, tn, J, H1, rfl, I1, T, st2, f2, ⟨ps, hP, htr⟩, q1⟩ := h2
  refine ⟨I1.nolimit, ?_⟩
  have hPs : s2.heap.get? P = some { cls := .none, data := .fields ps } := I1.hok P _ hP
  have cd : PySem.W.CodeHd s2.heap c P := TB.code.keeps fun b u e => I1.bk b u e
  have cont : ∀ (code : Value) (h3 : Heap) (tk : Nat) (ps' : Array Value), Heap.ExtBut P s2.heap h3 → s2.heap.objs.size ≤ h3.objs.size → h3.get? P = some { cls := .none, data := .fields ps' } → (∃ more, ps' = ps ++ more) → TriplesOk ps'.toList →
      wpAny (model X.prog X.w) X.A (builtinsFor X.env.globals X.env.builtins) (fun bi s₄ =>
        ∀ h', h'.Ns s₄.heap.objs.size (fun y => if y = ".0" then some (.ref it) else none) → Heap.SameBut s₄.heap.objs.size (s₄.heap.push { cls := .type "frame", data := .dict #[] }) h' →
          Q' (.ref h'.objs.size) { s₄ with
            gens := s₄.gens.push (.fresh (.compStart (.GeneratorExp elt [⟨tg, iter, ifs, 0⟩] scope gpos) 0 (.ref it) .none (genEnv scope (cloFrom X.env.cells scope.names []) s₄.heap.objs.size code bi X.env))),
            toks := s₄.toks + 1 + 1 + 1,
            heap := h'.push { cls := .type "generator", data := .fields #[.int s₄.gens.size 0, .str "<genexpr>" (s₄.toks + 1), .str (X.env.qual ++ "<genexpr>") (s₄.toks + 1 + 1)] } }) X.xe { s2 with heap := h3, toks := tk } := by
    intro code h3 tk ps' hx hsz hP3 ⟨more, em⟩ ht3
    obtain ⟨bm, ob, e1, e2, e3, e4, e5, e6, e7, e8⟩ := TB.bm
    have keep3 : ∀ b u, b ≠ P → s2.heap.get? b = some u → h3.get? b = some u := fun b u hb e => hx b u hb e
    refine wpAny_builtinsFor (m := X.mg) (by rw [I1.ok.glob]; exact (I1.mod.glob.keeps I1.bk).extBut hx TB.gP) e1 e2 (keep3 _ _ e4 (I1.bk _ _ e5)) e6 e7 e8 ?_
    intro h' hns hsb
    have I4 : Inv X pins σ (upd H1 P (.tbl (ps ++ more))) { s2 with heap := h3, toks := tk } := inv_tab (more := more) (h' := h3) (g' := s2.gens) (d' := s2.drawn) (t' := tk) I1 hP keep3 (by rw [← em]; exact hP3) I1.bare
    have tabd : Tabbed P H1 (upd H1 P (.tbl (ps ++ more))) := ⟨⟨ps ++ more, upd_same, by rw [← em]; exact ht3⟩, fun b hb => upd_ne hb⟩
    generalize hH2 : upd H1 P (.tbl (ps ++ more)) = H2 at I4 tabd
    refine hQ J H1 H2 _ _ q1 tabd ?_
    generalize hs4 : ({ s2 with heap := h3, toks := tk } : Shared) = s4 at I4 hns hsb ⊢
    have hs4h : s4.heap = h3 := by rw [← hs4]
    have hsz' : h'.objs.size = s4.heap.objs.size + 1 := by rw [hsb.1, Heap.size_push]
    generalize hgo : ({ cls := .type "generator", data := .fields #[.int s4.gens.size 0, .str "<genexpr>" (s4.toks + 1), .str (X.env.qual ++ "<genexpr>") (s4.toks + 1 + 1)] } : Obj) = go
    generalize ha : h'.objs.size = a at hsz' ⊢
    have hget : (h'.push go).get? a = some go := by rw [← ha]; exact Heap.get?_push_size _ (by rw [← hgo]; rfl)
    have hkh : ∀ b o, s4.heap.get? b = some o → h'.get? b = some o := fun b o e => (hsb.2 b (Nat.ne_of_lt (Heap.lt_size e))).trans (Heap.get?_push_of_some _ e)
    have hk5 : ∀ b o, s4.heap.get? b = some o → (h'.push go).get? b = some o := fun b o e => Heap.get?_push_of_some _ (hkh b o e)
    have hk2 : ∀ b o, b ≠ P → s2.heap.get? b = some o → (h'.push go).get? b = some o := fun b o hb e => hk5 b o (by rw [hs4h]; exact keep3 b o hb e)
    have fpP : ∀ b ∈ fp, b ≠ P := fun b hb z => by
      have := (f2 b hb).1
      rw [z, hP] at this
      cases this
    have f4 : ∀ b ∈ fp, FpOk X pins H2 b ∧ b < s4.heap.objs.size := fun b hb => by
      obtain ⟨o, e, _⟩ := T.obj _ _ st2 b hb
      refine ⟨⟨?_, (f2 b hb).2⟩, ?_⟩
      · rw [tabd.2 b (fpP b hb)]
        exact (f2 b hb).1
      · rw [hs4h]
        exact Heap.lt_size (keep3 b o (fpP b hb) e)
    have I5 : Inv X pins σ H2 { s4 with gens := s4.gens.push (.fresh (.compStart (.GeneratorExp elt [⟨tg, iter, ifs, 0⟩] scope gpos) 0 (.ref it) .none (genEnv scope (cloFrom X.env.cells scope.names []) s4.heap.objs.size code builtinsNs X.env))), toks := s4.toks + 1 + 1 + 1, heap := h'.push go } :=
      Inv.grown I4 hk5 rfl (I4.bare.push rfl)
    have IG := gx_start (scope := scope) (own := own) (fp := fp) (A := A) (code := code) (h1 := h'.push go) (g' := s4.gens.push (.fresh (.compStart (.GeneratorExp elt [⟨tg, iter, ifs, 0⟩] scope gpos) 0 (.ref it) .none (genEnv scope (cloFrom X.env.cells scope.names []) s4.heap.objs.size code builtinsNs X.env)))) (t' := s4.toks + 1 + 1 + 1)
      I4 ok hN hcell f4 hAh hAf (hns.push go) hk5 (I4.bare.push rfl)
    have pg := hg s4 H2 s4.heap.objs.size (cloFrom X.env.cells scope.names []) code builtinsNs fp
    have pt := ht s4 H2 s4.heap.objs.size (cloFrom X.env.cells scope.names []) code builtinsNs fp
    have pe := he s4 H2 s4.heap.objs.size (cloFrom X.env.cells scope.names []) code builtinsNs fp
    have hclo : ∀ y c, (cloFrom X.env.cells scope.names []).lookup y = some c → c < s4.heap.objs.size := fun y c e => by
      rcases cloFrom_mem (PySem.mem_of_lookup e) with hm | ⟨h1, rfl⟩
      · cases hm
      · obtain ⟨c, hc⟩ := hfree _ h1 rfl
        rw [hc]
        obtain ⟨w, z⟩ := I4.cell _ _ hc
        exact z.lt
    refine ⟨s4, genEnv scope (cloFrom X.env.cells scope.names []) s4.heap.objs.size code builtinsNs X.env, fp, s4.gens.size, go, by show s4.heap.objs.size < a; omega, hget, (fun v z => by rw [← hgo] at z; cases z), I5, fun σ' H' s' cp I6 => ?_, fun W Yd Go Fin m n turn w0 hgo' s' cp hk hge hos hmem hold hlt hnc => ?_⟩
    · exact I4.call' (ch := fp) I6.os I6.base I6.hok I6.bare fun b hb => ⟨(f4 b hb).1.2.2.2.1, (f4 b hb).1.2.1, (f4 b hb).1.2.2.2.2.1, (f4 b hb).1.2.2.2.2.2⟩
    · have big : ∀ b ∈ cp.map (·.1), s4.heap.objs.size < b := fun b hb => by
        obtain ⟨p, hp, rfl⟩ := List.mem_map.mp hb
        exact hlt p hp
      have fk : ∀ b ∈ cp.map (·.1), FpOk X pins H2 b := fun b hb => I4.fpOk (Nat.le_of_lt (big b hb)) (I4.hok.fresh (Nat.le_of_lt (big b hb)))
      have ats : CpAt (X.gx A s4 H2 (genEnv scope (cloFrom X.env.cells scope.names []) s4.heap.objs.size code builtinsNs X.env) fp) (cp.map (·.1)) := fun b hb =>
        ⟨Nat.le_of_lt (big b hb), Nat.ne_of_gt (big b hb), fun y c e z => Nat.lt_asymm (big b hb) (by rw [← z]; exact hclo y c e)⟩
      have I6 := Inv.grown IG (s' := s') hk hos (by rw [hge]; exact I5.bare)
      have I7 : Inv (X.gx A s4 H2 (genEnv scope (cloFrom X.env.cells scope.names []) s4.heap.objs.size code builtinsNs X.env) fp) cp (wipe σ (own.map (·.2))) H2 s' := I6.pins_of fun p hp => by
        have hb : p.1 ∈ cp.map (·.1) := List.mem_map.mpr ⟨p, hp, rfl⟩
        refine ⟨hold p hp, (fk _ hb).1, Nat.ne_of_gt (big _ hb), fun z => ?_, hnc p hp⟩
        rcases List.mem_cons.mp (I4.stkSub p.1 z) with z | z
        · exact (fk _ hb).2.1 z
        · exact (fk _ hb).2.2.1 z
      have hgen : s'.heap.IsGen a s4.gens.size := ⟨go, _, _, hk a go hget, by rw [← hgo], by rw [← hgo], by rw [← hgo]⟩
      have cst : cStatics ∉ cp.map (·.1) := fun z => by
        obtain ⟨_, hns', _⟩ := I4.nolimit
        exact Nat.lt_asymm (big _ z) hns'.lt
      have hgs : s'.gens[s4.gens.size]? = some (.fresh (.compStart (.GeneratorExp elt [⟨tg, iter, ifs, 0⟩] scope gpos) 0 (.ref it) .none (genEnv scope (cloFrom X.env.cells scope.names []) s4.heap.objs.size code builtinsNs X.env))) := by rw [hge]; exact Array.getElem?_push_size
      refine ⟨hgen, List.mem_map.mpr ⟨_, hmem, rfl⟩, I6.nolimit, cst, hold, hnc, by rw [hge]; exact I5.bare, hgo', rfl, ats, _, hgs, fun s'' cp' wk => And.intro rfl ?_⟩
      refine seg_start (G := X.gx A s4 H2 (genEnv scope (cloFrom X.env.cells scope.names []) s4.heap.objs.size code builtinsNs X.env) fp) (fp := fp) (tn := tn) (J := J) (W := W) (m := m) (H := H2) (cp := cp') rfl rfl rfl hco (fun b hb => ⟨hb, fun z => ?_⟩) ats T pg pt pe turn rfl wk.ad wk.holds (inv_woke I7 rfl ats wk) ?_ (fun b hb => (f4 b hb).1.1) w0
      · exact Nat.lt_asymm (big b z) (f4 b hb).2
      · refine T.keep _ _ _ st2 fun b hb o e => wk.keep b o (fun z => Nat.lt_asymm (big b z) (f4 b hb).2) (hk b o (hk2 b o (fpP b hb) e))
  cases hf : codeAmong gpos ps.toList with
  | none =>
    refine wpAny_genexprCodeX hcode (cd.code hPs htr) (cd.tab hPs) hf fun c' h' tk hx hge hlt hco' _ htab' _ => ?_
    obtain ⟨o1, vs, f1, tf, fl, tg, inF, tx, tt, op, _, _, _, _, _, _, _, _, _, htr', _⟩ := hco'
    exact cont _ h' tk _ hx (Nat.le_trans hge (Nat.le_of_lt hlt)) htab'.2 ⟨_, rfl⟩ htr'
  | some cv =>
    refine wpAny_genexprCode_hit hcode (cd.code hPs htr) hf ?_
    exact cont cv s2.heap s2.toks ps (Heap.ExtBut.refl _ _) (Nat.le_refl _) hPs ⟨#[], by simp⟩ htr
end
end HGx

set_option Elab.async false
set_option linter.all false
set_option maxRecDepth 100000
set_option maxHeartbeats 2000000
/-! all, any, sum of a generator expression, as readings. -/
namespace HGx
open PySem PySem.Spec PyProof.Rows L2 GxR GenW

abbrev Cns := (Nat → V → Hp → Prop) → (Nat → Prop) → (Hp → Prop) → Nat → VK → Prop
def tGx (P : Addr) (wi : TI) (g : TG) (tt : TT) (te : TE) (vs : List Nat) (cons : Cns) : TE := fun σ H Q => wi σ H fun J H1 => TabG H1 P ∧ ∀ H2, Tabbed P H1 H2 →
  ∃ (W : Nat → Nat → Nat → Hp → Prop) (Yd : Nat → V → Hp → Prop) (Go : Nat → Prop) (Fin : Hp → Prop) (m n : Nat), Turns J g tt te vs σ Yd Go Fin W ∧ W 0 m n H2 ∧ Go n ∧ cons Yd Go Fin n Q
def cAll : Cns := fun Yd Go Fin n Q => (∀ m y H, Yd m y H → (y = .bl true ∧ Go m) ∨ (y = .bl false ∧ Q (.bl false) H)) ∧ ∀ H, Fin H → Q (.bl true) H
def cAny : Cns := fun Yd Go Fin n Q => (∀ m y H, Yd m y H → (y = .bl false ∧ Go m) ∨ (y = .bl true ∧ Q (.bl true) H)) ∧ ∀ H, Fin H → Q (.bl false) H
def cSum : Cns := fun Yd Go Fin n Q => ∃ acc : Nat → Int, acc n = 0 ∧ (∀ m y H, Yd m y H → ∃ v, y = .int v ∧ InLong v ∧ InLong (acc (m + 1) + v) ∧ acc m = acc (m + 1) + v ∧ Go m) ∧ ∀ H, Fin H → Q (.int (acc 0)) H
section
variable {X : Cx} {c P : Addr} {elt tg iter : Expr} {ifs : List Expr} {gpos p pos : Pos} {scope : Scope} {own : List (Str × Nat)} {wi : TI} {g : TG} {tt : TT} {te : TE} {k : Nat}
theorem room_draw (hr : Room (k + 4) X.A) : X.A.in1.in1.handled = none ∧ X.A.in1.depth < recursionLimit :=
  ⟨hr.hd, by have := hr.dp; show X.A.depth < _; omega⟩
theorem pe_allG (hr : Room (k + 4) X.A) (hgl : Gl X "all") (hm : X.mg "all" = none) (hN : X.N.Nodup) (TB : TabB X.base X.mg c P) (hcode : X.env.code = .ref c) (hco : scope.isCoroutine = false) (hcell : ∀ y ∈ scope.names, y.2 ≠ .cell)
    (h0 : scope.names.lookup (".0" : Str) = some NameKind.local) (ok : BlkOk X.N X.env.scope scope own) (hi : PI X tg iter wi) (hs : ∀ v, genFold iter X.env v = pure v)
    (hg : ∀ (s : Shared) (H : Hp) (C : Addr) (cl : List (Str × Addr)) (cd : Value) (bi : Addr) (fp : List Addr), PG (X.gx X.A.in1.in1 s H (genEnv scope cl C cd bi X.env) fp) tg g) (ht : ∀ (s : Shared) (H : Hp) (C : Addr) (cl : List (Str × Addr)) (cd : Value) (bi : Addr) (fp : List Addr), PTs (X.gx X.A.in1.in1 s H (genEnv scope cl C cd bi X.env) fp) ifs tt)
    (he : ∀ (s : Shared) (H : Hp) (C : Addr) (cl : List (Str × Addr)) (cd : Value) (bi : Addr) (fp : List Addr), PE (X.gx X.A.in1.in1 s H (genEnv scope cl C cd bi X.env) fp) elt te)
    (hst : starEach [gxe elt tg iter ifs scope gpos] X.env = (false, eval (gxe elt tg iter ifs scope gpos) X.env) :: starEach [] X.env := by rfl) :
    PE X (.Call (.Name "all" p) [gxe elt tg iter ifs scope gpos] [] pos) (tGx P wi g tt te (own.map (·.2)) cAll) := by
  refine ⟨fun pins s σ H Q I h => ?_⟩
  refine wpAny_Call_Name_kw (ld_blt I hgl hm boot_all ?_)
  refine PyProof.Rows.callWith_builtin1 ?_ hst (by rfl)
  rw [hst]
  show wpAny _ _ (spliced ((false, eval (gxe elt tg iter ifs scope gpos) X.env) :: backTo pos (starEach [] X.env))) _ _ s
  refine Calls.spliced_cons (gx_make (A := X.A.in1.in1) (R := fun J H1 => ∀ H2, Tabbed P H1 H2 → _) hr hr.hd I.ok.frames hN TB hcode hco hcell h0 ok hi hs hg ht he I h fun J H1 H2 a s5 hR hT hM => ?_)
  obtain ⟨W, Yd, Go, Fin, m, n, turn, w0, hg0, hY, hF⟩ := hR H2 hT
  obtain ⟨s4, cenv, fp, gi, go, hlt, hget, hnc, I5, back, asl⟩ := hM
  have a0 := asl W Yd Go Fin m n turn w0 hg0 s5 [(a, go)] (fun _ _ e => e) rfl rfl (by simp) (fun p hp => by simp at hp; subst hp; exact hget) (fun p hp => by simp at hp; subst hp; exact hlt) (fun p hp => by simp at hp; subst hp; exact hnc)
  refine Calls.spliced_nil ?_
  refine call_function_tree F.kind_all F.plain_all F.entry_all (F.args_all1 _) ?_
  unfold Builtin.«all»
  refine wpAny_bind (m := oneArg "all" _) (wpAny_pure ?_)
  refine wpAny_bind (wpAny_pyIter_gen a0.gen ?_)
  exact wpAny_pure ⟨plainId_quiet F.plain_all_loop _, all_loop (G := X.gx X.A.in1.in1 s4 H2 cenv fp) (A := X.A) (Qd := Q) hr.hd (by have := hr.dp; show X.A.depth < _; omega) hY hF (fun v y σ' H' s' I' r q => ⟨y, H', back _ _ _ _ I', r, q⟩) n s5 a0⟩
theorem pe_anyG (hr : Room (k + 4) X.A) (hgl : Gl X "any") (hm : X.mg "any" = none) (hN : X.N.Nodup) (TB : TabB X.base X.mg c P) (hcode : X.env.code = .ref c) (hco : scope.isCoroutine = false) (hcell : ∀ y ∈ scope.names, y.2 ≠ .cell)
    (h0 : scope.names.lookup (".0" : Str) = some NameKind.local) (ok : BlkOk X.N X.env.scope scope own) (hi : PI X tg iter wi) (hs : ∀ v, genFold iter X.env v = pure v)
    (hg : ∀ (s : Shared) (H : Hp) (C : Addr) (cl : List (Str × Addr)) (cd : Value) (bi : Addr) (fp : List Addr), PG (X.gx X.A.in1.in1 s H (genEnv scope cl C cd bi X.env) fp) tg g) (ht : ∀ (s : Shared) (H : Hp) (C : Addr) (cl : List (Str × Addr)) (cd : Value) (bi : Addr) (fp : List Addr), PTs (X.gx X.A.in1.in1 s H (genEnv scope cl C cd bi X.env) fp) ifs tt)
    (he : ∀ (s : Shared) (H : Hp) (C : Addr) (cl : List (Str × Addr)) (cd : Value) (bi : Addr) (fp : List Addr), PE (X.gx X.A.in1.in1 s H (genEnv scope cl C cd bi X.env) fp) elt te)
    (hst : starEach [gxe elt tg iter ifs scope gpos] X.env = (false, eval (gxe elt tg iter ifs scope gpos) X.env) :: starEach [] X.env := by rfl) :
    PE X (.Call (.Name "any" p) [gxe elt tg iter ifs scope gpos] [] pos) (tGx P wi g tt te (own.map (·.2)) cAny) := by
  refine ⟨fun pins s σ H Q I h => ?_⟩
  refine wpAny_Call_Name_kw (ld_blt I hgl hm boot_any ?_)
  refine PyProof.Rows.callWith_builtin1 ?_ hst (by rfl)
  rw [hst]
  show wpAny _ _ (spliced ((false, eval (gxe elt tg iter ifs scope gpos) X.env) :: backTo pos (starEach [] X.env))) _ _ s
  refine Calls.spliced_cons (gx_make (A := X.A.in1.in1) (R := fun J H1 => ∀ H2, Tabbed P H1 H2 → _) hr hr.hd I.ok.frames hN TB hcode hco hcell h0 ok hi hs hg ht he I h fun J H1 H2 a s5 hR hT hM => ?_)
  obtain ⟨W, Yd, Go, Fin, m, n, turn, w0, hg0, hY, hF⟩ := hR H2 hT
  obtain ⟨s4, cenv, fp, gi, go, hlt, hget, hnc, I5, back, asl⟩ := hM
  have a0 := asl W Yd Go Fin m n turn w0 hg0 s5 [(a, go)] (fun _ _ e => e) rfl rfl (by simp) (fun p hp => by simp at hp; subst hp; exact hget) (fun p hp => by simp at hp; subst hp; exact hlt) (fun p hp => by simp at hp; subst hp; exact hnc)
  refine Calls.spliced_nil ?_
  refine call_function_tree F.kind_any F.plain_any F.entry_any (F.args_any1 _) ?_
  unfold Builtin.«any»
  refine wpAny_bind (m := oneArg "any" _) (wpAny_pure ?_)
  refine wpAny_bind (wpAny_pyIter_gen a0.gen ?_)
  exact wpAny_pure ⟨plainId_quiet F.plain_any_loop _, any_loop (G := X.gx X.A.in1.in1 s4 H2 cenv fp) (A := X.A) (Qd := Q) hr.hd (by have := hr.dp; show X.A.depth < _; omega) hY hF (fun v y σ' H' s' I' r q => ⟨y, H', back _ _ _ _ I', r, q⟩) n s5 a0⟩
theorem pe_sumG (hr : Room (k + 4) X.A) (hgl : Gl X "sum") (hm : X.mg "sum" = none) (hN : X.N.Nodup) (TB : TabB X.base X.mg c P) (hcode : X.env.code = .ref c) (hco : scope.isCoroutine = false) (hcell : ∀ y ∈ scope.names, y.2 ≠ .cell)
    (h0 : scope.names.lookup (".0" : Str) = some NameKind.local) (ok : BlkOk X.N X.env.scope scope own) (hi : PI X tg iter wi) (hs : ∀ v, genFold iter X.env v = pure v)
    (hg : ∀ (s : Shared) (H : Hp) (C : Addr) (cl : List (Str × Addr)) (cd : Value) (bi : Addr) (fp : List Addr), PG (X.gx X.A.in1.in1 s H (genEnv scope cl C cd bi X.env) fp) tg g) (ht : ∀ (s : Shared) (H : Hp) (C : Addr) (cl : List (Str × Addr)) (cd : Value) (bi : Addr) (fp : List Addr), PTs (X.gx X.A.in1.in1 s H (genEnv scope cl C cd bi X.env) fp) ifs tt)
    (he : ∀ (s : Shared) (H : Hp) (C : Addr) (cl : List (Str × Addr)) (cd : Value) (bi : Addr) (fp : List Addr), PE (X.gx X.A.in1.in1 s H (genEnv scope cl C cd bi X.env) fp) elt te)
    (hst : starEach [gxe elt tg iter ifs scope gpos] X.env = (false, eval (gxe elt tg iter ifs scope gpos) X.env) :: starEach [] X.env := by rfl) :
    PE X (.Call (.Name "sum" p) [gxe elt tg iter ifs scope gpos] [] pos) (tGx P wi g tt te (own.map (·.2)) cSum) := by
  refine ⟨fun pins s σ H Q I h => ?_⟩
  refine wpAny_Call_Name_kw (ld_blt I hgl hm boot_sum ?_)
  refine PyProof.Rows.callWith_builtin1 ?_ hst (by rfl)
  rw [hst]
  show wpAny _ _ (spliced ((false, eval (gxe elt tg iter ifs scope gpos) X.env) :: backTo pos (starEach [] X.env))) _ _ s
  refine Calls.spliced_cons (gx_make (A := X.A.in1.in1) (R := fun J H1 => ∀ H2, Tabbed P H1 H2 → _) hr hr.hd I.ok.frames hN TB hcode hco hcell h0 ok hi hs hg ht he I h fun J H1 H2 a s5 hR hT hM => ?_)
  obtain ⟨W, Yd, Go, Fin, m, n, turn, w0, hg0, acc, hn0, hY, hF⟩ := hR H2 hT
  obtain ⟨s4, cenv, fp, gi, go, hlt, hget, hnc, I5, back, asl⟩ := hM
  have a0 := asl W Yd Go Fin m n turn w0 hg0 s5 [(a, go)] (fun _ _ e => e) rfl rfl (by simp) (fun p hp => by simp at hp; subst hp; exact hget) (fun p hp => by simp at hp; subst hp; exact hlt) (fun p hp => by simp at hp; subst hp; exact hnc)
  refine Calls.spliced_nil ?_
  refine call_function_tree F.kind_sum F.plain_sum F.entry_sum (F.args_sum1 _) ?_
  unfold Builtin.«sum»
  simp only [List.length_cons, List.length_nil]
  rw [if_neg (by decide)]
  refine wpAny_bind (wpAny_of_eq (show Builtin.Builtins.bindParams "sum" ["start"] 0 { } = pure [none] from rfl) ?_)
  refine wpAny_bind (wpAny_pyIter_gen a0.gen ?_)
  refine wpAny_bind (wpAny_mkInt ?_)
  refine wpAny_bind (wpAny_pure ?_)
  simp only [List.forIn_cons, List.forIn_nil]
  refine wpAny_bind (wpAny_bind (wpAny_bind (wpAny_isInstance (T := "int") (b := false) (typeIs_int _ _ _) PySem.sub_int_str ?_)))
  simp only [Bool.false_eq_true, if_false]
  refine wpAny_pure (wpAny_bind (wpAny_bind (wpAny_isInstance (T := "int") (b := false) (typeIs_int _ _ _) PySem.sub_int_bytes ?_)))
  simp only [Bool.false_eq_true, if_false]
  refine wpAny_pure (wpAny_bind (wpAny_bind (wpAny_isInstance (T := "int") (b := false) (typeIs_int _ _ _) PySem.sub_int_bytearray ?_)))
  simp only [Bool.false_eq_true, if_false]
  refine wpAny_pure (wpAny_pure ?_)
  refine wpAny_bind (wpAny_newObj_type ?_)
  have hSlt : cenv.locals < s5.heap.objs.size := Nat.lt_trans hlt (Heap.lt_size hget)
  have hSa : s5.heap.objs.size ≠ a := Nat.ne_of_gt (Heap.lt_size hget)
  refine wpAny_pure ⟨plainId_quiet F.plain_sum_loop _, sum_loop (gi := gi) (G := X.gx X.A.in1.in1 s4 H2 cenv fp) (A := X.A) (S := s5.heap.objs.size) (go := go) (Qd := Q) hSa hr.hd (by have := hr.dp; show X.A.depth < _; omega) acc hY hF (fun v y σ' H' s' cp' _ I' r q => ⟨y, H', back _ _ _ _ I', r, q⟩) n _ s5.toks 0 ?_⟩
  refine asl W Yd Go Fin m n turn w0 hg0 _ _ (fun _ _ e => Heap.get?_push_of_some _ e) rfl rfl (by simp) (fun p hp => ?_) (fun p hp => ?_) (fun p hp => ?_)
  all_goals simp only [List.mem_cons, List.not_mem_nil, or_false] at hp
  all_goals rcases hp with rfl | rfl
  · exact Heap.get?_push_of_some _ hget
  · rw [hn0]; exact Heap.get?_push_size _ rfl
  · exact hlt
  · exact hSlt
  · exact hnc
  · intro v z; cases z
end
end HGx

set_option Elab.async false
set_option linter.all false
set_option maxRecDepth 100000
set_option maxHeartbeats 1000000
/-! Comprehensions, generator expressions: told over data. -/
namespace PD
open PySem L2 GxR HGx

def wipeS (ρ : List Sl) : List Nat → List Sl
  | [] => ρ
  | v :: vs => (wipeS ρ vs).set v .un
def toB : Sl → Sl
  | .own ds => .brw ds
  | s => s
/-- how the slots stand at the beginning of a block's turn -/
def blkS (vs : List Nat) (ρ : List Sl) : List Sl := (wipeS ρ vs).map toB
/-- these lists are known for good from here on -/
def frzL : List Nat → List Sl → List Sl
  | [], ρ => ρ
  | i :: is, ρ => match ρ[i]? with
    | some (.own ds) => frzL is (ρ.set i (.v (.list ds)))
    | _ => frzL is ρ
def blockB (N H : Hp) (σ : St) (ρ : List Sl) : Bs := ⟨fun b => ∃ j : Nat, ρ[j]? = some .src ∧ σ[j]? = some (some (.ref b)), fun b => ∃ (j : Nat) (ds : List PyData), (ρ[j]? = some (.own ds) ∨ ρ[j]? = some (.brw ds)) ∧ σ[j]? = some (some (.ref b)), N, H, N⟩
section
variable {K : PySem.W.Frag} {S : Src} {B : Bs} {N H N' H' : Hp} {σ : St} {ρ : List Sl}
theorem Rel.wiped (R : Rel K S B N H σ ρ) : ∀ vs : List Nat, Rel K S B N H (wipe σ vs) (wipeS ρ vs)
  | [] => R
  | v :: vs => (R.wiped vs).setU
theorem wipeS_out {i : Nat} : ∀ {vs : List Nat}, i ∉ vs → (wipeS ρ vs)[i]? = ρ[i]?
  | [], _ => rfl
  | v :: vs, h => by
    have h1 : v ≠ i := fun e => h (by rw [e]; exact List.mem_cons_self)
    unfold wipeS
    rw [List.getElem?_set_ne h1]
    exact wipeS_out fun m => h (List.mem_cons_of_mem _ m)
theorem wipeS_mut {i : Nat} {s : Sl} (m : s.mut = true) : ∀ {vs : List Nat}, (wipeS ρ vs)[i]? = some s → ρ[i]? = some s ∧ i ∉ vs
  | [], h => ⟨h, by simp⟩
  | v :: vs, h => by
    unfold wipeS at h
    rcases get_set_cases h with ⟨rfl, rfl, _⟩ | ⟨ne, h⟩
    · cases m
    · obtain ⟨h1, h2⟩ := wipeS_mut m h
      exact ⟨h1, by simp only [List.mem_cons, not_or]; exact ⟨ne, h2⟩⟩
theorem wipe_set {i : Nat} {x : Option V} : ∀ {vs : List Nat}, i ∈ vs → wipe (σ.set i x) vs = wipe σ vs
  | v :: vs, h => by
    unfold wipe
    by_cases hv : i ∈ vs
    · rw [wipe_set hv]
    · have e : v = i := by
        rcases List.mem_cons.mp h with h | h
        · exact h.symm
        · exact absurd h hv
      subst e
      have : wipe (σ.set v x) vs = (wipe σ vs).set v x := by
        clear h
        induction vs with
        | nil => rfl
        | cons w vs ih =>
          have hw : v ≠ w := fun z => hv (by rw [z]; exact List.mem_cons_self)
          unfold wipe
          rw [ih fun m => hv (List.mem_cons_of_mem _ m), List.set_comm _ _ hw]
      rw [this, List.set_set]
theorem Rel.block (R : Rel K S B N H σ ρ) : Rel K S (blockB N H σ ρ) N H σ (ρ.map toB) := by
  have zat : ∀ b, (blockB N H σ ρ).z b → ∃ o, H b = some o ∧ S.ok N o ∧ N b = none := fun b ⟨j, g1, g2⟩ => by
    obtain ⟨x, ex, a, o, e, h1, h2, h3, _⟩ := R.ok j _ g1
    rw [g2] at ex
    cases ex
    cases e
    exact ⟨o, h1, h2, h3⟩
  have yat : ∀ b, (blockB N H σ ρ).y b → ∃ vs, H b = some (.lst vs) ∧ N b = none := fun b ⟨j, ds, g1, g2⟩ => by
    rcases g1 with g1 | g1
    · obtain ⟨x, ex, a, vs, e, h1, h2, h3, _⟩ := R.ok j _ g1
      rw [g2] at ex
      cases ex
      cases e
      exact ⟨vs, h1, h3⟩
    · obtain ⟨x, ex, a, vs, e, h1, h2, h3, _⟩ := R.ok j _ g1
      rw [g2] at ex
      cases ex
      cases e
      exact ⟨vs, h1, h3⟩
  have ok : (blockB N H σ ρ).Ok S := ⟨R.sub, fun b hb => (zat b hb).elim fun _ z => z.2.2, fun b hb => (yat b hb).elim fun _ z => z.2, fun b hb => (yat b hb).elim fun vs z => ⟨vs, z.1⟩, fun b hb => (zat b hb).elim fun o z => ⟨o, z.1, z.2.1⟩, fun b hb hy => by
    obtain ⟨j, g1, g2⟩ := hb
    obtain ⟨i, ds, q1, q2⟩ := hy
    have ne : j ≠ i := fun z => by
      subst z
      rw [g1] at q1
      rcases q1 with q1 | q1 <;> cases q1
    rcases q1 with q1 | q1
    · exact R.sep j i _ _ b ne g1 q1 rfl rfl g2 q2
    · exact R.sep j i _ _ b ne g1 q1 rfl rfl g2 q2, fun b hb => R.tN hb, R.ext.tab⟩
  have back : ∀ {j : Nat} {s : Sl}, (ρ.map toB)[j]? = some s → ∃ t, ρ[j]? = some t ∧ s = toB t := fun {j s} h => by
    rw [List.getElem?_map] at h
    cases q : ρ[j]? with
    | none => rw [q] at h; cases h
    | some t => rw [q] at h; exact ⟨t, rfl, (Option.some.inj h).symm⟩
  refine ⟨ok, Ext.refl ok (Ex.refl _), by rw [List.length_map]; exact R.len, fun i s h => ?_, fun i j s t a ne h1 h2 m1 m2 e1 e2 => ?_⟩
  · obtain ⟨t, ht, rfl⟩ := back h
    obtain ⟨x, ex, q⟩ := R.ok i t ht
    refine ⟨x, ex, ?_⟩
    cases t with
    | un => trivial
    | v d => exact q
    | own ds =>
      obtain ⟨a, vs, e, h1, h2, h3, h4⟩ := q
      exact ⟨a, vs, e, h1, h2, h3, i, ds, .inl ht, by rw [ex, e]⟩
    | brw ds =>
      obtain ⟨a, vs, e, h1, h2, h3, h4⟩ := q
      exact ⟨a, vs, e, h1, h2, h3, i, ds, .inr ht, by rw [ex, e]⟩
    | src =>
      obtain ⟨a, o, e, h1, h2, h3, h4⟩ := q
      exact ⟨a, o, e, h1, h2, h3, .inl ⟨i, ht, by rw [ex, e]⟩⟩
    | exc a c => exact q
    | fz ds => exact q
  · obtain ⟨u, hu, rfl⟩ := back h1
    obtain ⟨w, hw, rfl⟩ := back h2
    exact R.sep i j u w a ne hu hw (by cases u <;> first | exact m1 | rfl) (by cases w <;> first | exact m2 | rfl) e1 e2
/-- back from a block -/
theorem Rel.unblock {vs : List Nat} {N2 H2 : Hp} (R : Rel K S B N H σ ρ) (Rb : Rel K S (blockB N H (wipe σ vs) (wipeS ρ vs)) N2 H2 (wipe σ vs) (blkS vs ρ)) : Rel K S B N2 H2 σ ρ := by
  have x := Rb.ext
  have zs : ∀ b, (blockB N H (wipe σ vs) (wipeS ρ vs)).z b → ∃ j : Nat, j ∉ vs ∧ ρ[j]? = some .src ∧ σ[j]? = some (some (.ref b)) := fun b ⟨j, g1, g2⟩ => by
    obtain ⟨h1, h2⟩ := wipeS_mut rfl g1
    exact ⟨j, h2, h1, (wipe_some g2).1⟩
  have ys : ∀ b, (blockB N H (wipe σ vs) (wipeS ρ vs)).y b → ∃ (j : Nat) (ds : List PyData), j ∉ vs ∧ (ρ[j]? = some (.own ds) ∨ ρ[j]? = some (.brw ds)) ∧ σ[j]? = some (some (.ref b)) := fun b ⟨j, ds, g1, g2⟩ => by
    rcases g1 with g1 | g1
    · obtain ⟨h1, h2⟩ := wipeS_mut rfl g1
      exact ⟨j, ds, h2, .inl h1, (wipe_some g2).1⟩
    · obtain ⟨h1, h2⟩ := wipeS_mut rfl g1
      exact ⟨j, ds, h2, .inr h1, (wipe_some g2).1⟩
  have hz : ∀ b, (blockB N H (wipe σ vs) (wipeS ρ vs)).z b → B.z b ∨ B.H b = none := fun b hb => by
    obtain ⟨j, _, g1, g2⟩ := zs b hb
    obtain ⟨y, ey, a, o, e, _, _, _, h4⟩ := R.ok j _ g1
    rw [g2] at ey
    cases ey
    cases e
    exact h4
  have hy : ∀ b, (blockB N H (wipe σ vs) (wipeS ρ vs)).y b → B.y b ∨ B.H b = none := fun b hb => by
    obtain ⟨j, ds, _, g1, g2⟩ := ys b hb
    rcases g1 with g1 | g1
    · obtain ⟨y, ey, a, o, e, _, _, _, h4⟩ := R.ok j _ g1
      rw [g2] at ey
      cases ey
      cases e
      exact .inr h4
    · obtain ⟨y, ey, a, o, e, _, _, _, h4⟩ := R.ok j _ g1
      rw [g2] at ey
      cases ey
      cases e
      exact .inl h4
  refine ⟨R.b, Ext.trans R.b R.ext hz hy x, R.len, fun j s hs => ?_, R.sep⟩
  obtain ⟨y, ey, q⟩ := R.ok j s hs
  refine ⟨y, ey, ?_⟩
  -- a slot that the block does not reach
  have off : j ∈ vs → s.mut = true → ∀ a, y = some (.ref a) → ¬ (blockB N H (wipe σ vs) (wipeS ρ vs)).z a ∧ ¬ (blockB N H (wipe σ vs) (wipeS ρ vs)).y a := fun hj m a hya => by
    subst hya
    refine ⟨fun hb => ?_, fun hb => ?_⟩
    · obtain ⟨i, g0, g1, g2⟩ := zs a hb
      exact R.sep j i s _ a (fun z => g0 (z ▸ hj)) hs g1 m rfl ey g2
    · obtain ⟨i, ds, g0, g1, g2⟩ := ys a hb
      rcases g1 with g1 | g1 <;> exact R.sep j i s _ a (fun z => g0 (z ▸ hj)) hs g1 m rfl ey g2
  have on : j ∉ vs → ∃ z, σ[j]? = some z ∧ SlOk K S (blockB N H (wipe σ vs) (wipeS ρ vs)) N2 H2 (toB s) z := fun hj => by
    have h1 : (blkS vs ρ)[j]? = some (toB s) := by
      unfold blkS
      rw [List.getElem?_map, wipeS_out hj, hs]
      rfl
    obtain ⟨z, ez, q⟩ := Rb.ok j _ h1
    rw [wipe_out hj] at ez
    exact ⟨z, ez, q⟩
  cases s with
  | un => trivial
  | v d => obtain ⟨v, e, r⟩ := q; exact ⟨v, e, r.up x.ex⟩
  | exc a c => exact q
  | fz ds => obtain ⟨a, vs, e, h1, h2⟩ := q; exact ⟨a, vs, e, ex_l x.ex h1, h2.up x.ex⟩
  | own ds =>
    obtain ⟨a, ws, e, h1, h2, h3, h4⟩ := q
    by_cases hj : j ∈ vs
    · obtain ⟨n1, n2⟩ := off hj rfl a e
      exact ⟨a, ws, e, x.keep a _ h1 n1 n2 (fun ht => tab_not (R.ext.tab a ht) h1 (fun ps z => by cases z)), h2.up x.ex, x.fr a h3 (by show H a ≠ none; rw [h1]; exact nofun), h4⟩
    · obtain ⟨z, ez, a', ws', e', g1, g2, g3, _⟩ := on hj
      rw [ey, e] at ez
      cases ez
      cases e'
      exact ⟨a, ws', e, g1, g2, g3, h4⟩
  | brw ds =>
    obtain ⟨a, ws, e, h1, h2, h3, h4⟩ := q
    by_cases hj : j ∈ vs
    · obtain ⟨n1, n2⟩ := off hj rfl a e
      exact ⟨a, ws, e, x.keep a _ h1 n1 n2 (fun ht => tab_not (R.ext.tab a ht) h1 (fun ps z => by cases z)), h2.up x.ex, x.fr a h3 (by show H a ≠ none; rw [h1]; exact nofun), h4⟩
    · obtain ⟨z, ez, a', ws', e', g1, g2, g3, _⟩ := on hj
      rw [ey, e] at ez
      cases ez
      cases e'
      exact ⟨a, ws', e, g1, g2, g3, h4⟩
  | src =>
    obtain ⟨a, o, e, h1, h2, h3, h4⟩ := q
    by_cases hj : j ∈ vs
    · obtain ⟨n1, n2⟩ := off hj rfl a e
      exact ⟨a, o, e, x.keep a _ h1 n1 n2 (fun ht => tab_nots (R.ext.tab a ht) h1 h2), S.mono _ _ _ x.ex h2, x.fr a h3 (by show H a ≠ none; rw [h1]; exact nofun), h4⟩
    · obtain ⟨z, ez, a', o', e', g1, g2, g3, _⟩ := on hj
      rw [ey, e] at ez
      cases ez
      cases e'
      exact ⟨a, o', e, g1, g2, g3, h4⟩
theorem Rel.freezeAll : ∀ (is : List Nat) {N : Hp} {ρ : List Sl}, Rel K S B N H σ ρ → ∃ N', Ex N N' ∧ Rel K S B N' H σ (frzL is ρ)
  | [], N, ρ, R => ⟨N, Ex.refl _, R⟩
  | i :: is, N, ρ, R => by
    unfold frzL
    split
    · rename_i ds h
      obtain ⟨a, vs, _, _, _, e1, _, R2⟩ := R.freeze h
      obtain ⟨N', e2, R3⟩ := R2.freezeAll is
      exact ⟨N', e1.trans e2, R3⟩
    · exact R.freezeAll is
/-- an object that no slot of ours holds -/
theorem Rel.poke {D : Addr} {o : HO} (R : Rel K S B N H σ ρ) (hN : N D = none) (hB : B.H D = none) (aw : Away σ ρ D) : Rel K S B N (upd H D o) σ ρ where
  b := R.b
  len := R.len
  sep := R.sep
  ext := ⟨R.ext.ex, fun b u q => by rw [upd_ne (fun z => by rw [z, hN] at q; cases q)]; exact R.sub b u q, R.ext.fr, fun b u e nz ny nt => by rw [upd_ne (fun z => by rw [z, hB] at e; cases e)]; exact R.ext.keep b u e nz ny nt, fun b n => by
    rw [upd_ne (fun z => n (by rw [z]; exact hB))]
    exact R.ext.dom b n, fun b q => by
    obtain ⟨u, g1, g2⟩ := R.ext.src b q
    obtain ⟨u0, g0, _⟩ := R.b.zs b q
    exact ⟨u, by rw [upd_ne (fun z => by rw [z, hB] at g0; cases g0)]; exact g1, g2⟩, R.ext.fl, fun b q => by
    obtain ⟨ps, g1, g2⟩ := R.ext.tab b q
    obtain ⟨ps0, g0, _⟩ := R.b.tH b q
    exact ⟨ps, by rw [upd_ne (fun z => by rw [z, hB] at g0; cases g0)]; exact g1, g2⟩⟩
  ok := fun i s h => by
    obtain ⟨x, e, q⟩ := R.ok i s h
    refine ⟨x, e, ?_⟩
    cases s with
    | un => trivial
    | v d => exact q
    | exc a c => exact q
    | fz ds => exact q
    | own ds =>
      obtain ⟨a, vs, e', h1, h2⟩ := q
      exact ⟨a, vs, e', by rw [upd_ne (fun z => aw i _ h rfl (by rw [e, e', z]))]; exact h1, h2⟩
    | brw ds =>
      obtain ⟨a, vs, e', h1, h2⟩ := q
      exact ⟨a, vs, e', by rw [upd_ne (fun z => aw i _ h rfl (by rw [e, e', z]))]; exact h1, h2⟩
    | src =>
      obtain ⟨a, u, e', h1, h2⟩ := q
      exact ⟨a, u, e', by rw [upd_ne (fun z => aw i _ h rfl (by rw [e, e', z]))]; exact h1, h2⟩
end

/-! ### readings that any context of the same slots shares -/
def F0 : WX := fun _ _ _ _ => False
def w0 : PWh := fun _ _ => False
theorem wok0 {K : PySem.W.Frag} {S : Src} {B : Bs} {σ : St} : WOk K S B σ F0 w0 := fun _ _ _ _ _ z => z
def cE (K : PySem.W.Frag) (S : Src) (p : PTE) : TE := fun σ H Q => ∃ (B : Bs) (N : Hp) (ρ : List Sl) (Q' : PKe), Rel K S B N H σ ρ ∧ p w0 ρ Q' ∧ ∀ N' H' v d ρ', Rel K S B N' H' σ ρ' → Ex N N' → Rp K N' v d → Q' d ρ' → Q v H'
def cT (K : PySem.W.Frag) (S : Src) (p : PTT) : TT := fun σ H Q => ∃ (B : Bs) (N : Hp) (ρ : List Sl) (Q' : Bool → List Sl → Prop), Rel K S B N H σ ρ ∧ p w0 ρ Q' ∧ ∀ N' H' b ρ', Rel K S B N' H' σ ρ' → Ex N N' → Q' b ρ' → Q b H'
def cG (K : PySem.W.Frag) (S : Src) (vs : List Nat) (p : PTG) : TG := fun v σ H Q => ∃ (B : Bs) (N : Hp) (ρ : List Sl) (d : PyData) (Q' : List Sl → Prop), Rel K S B N H σ ρ ∧ Rp K N v d ∧ p d ρ Q' ∧ ∀ N' H' σ' ρ', Rel K S B N' H' σ' ρ' → Ex N N' → wipe σ' vs = wipe σ vs → Q' ρ' → Q σ' H'
section
variable {S : Src} {X : Cx} {e a b c : Expr} {es : List Expr} {pos : Pos} {pa pb : PTE} {qa : PTT} {pg : PTG} {pgs : PTGs} {vs : List Nat}
theorem je_c0 (h : JE S X e pa) : PE X e (cE X.K S pa) := by
  obtain ⟨te, h1, h2⟩ := h
  have tk : Takes X F0 := fun u s' ⟨a, B, sI, pins, σ, H, cls, d, e, I, nb, up, sky, na, os, ag, w⟩ => w.elim
  exact ⟨fun pins s σ H Q I ⟨B, N, ρ, Q', R, q, k⟩ => (h1 F0 tk).run pins s σ H Q I (h2 F0 w0 B N H σ ρ Q Q' R wok0 q k)⟩
theorem jt_c0 (h : JT S X e qa) : PT X e (cT X.K S qa) := by
  obtain ⟨te, h1, h2⟩ := h
  have tk : Takes X F0 := fun u s' ⟨a, B, sI, pins, σ, H, cls, d, e, I, nb, up, sky, na, os, ag, w⟩ => w.elim
  exact ⟨fun pins s σ H Q I ⟨B, N, ρ, Q', R, q, k⟩ => (h1 F0 tk).run pins s σ H Q I (h2 F0 w0 B N H σ ρ Q Q' R wok0 q k)⟩
/-- tests of a clause -/
def JF (S : Src) (X : Cx) (ifs : List Expr) (p : PTT) : Prop := PTs X ifs (cT X.K S p)
def ptYes : PTT := fun _ ρ Q => Q true ρ
theorem jf_nil : JF S X [] ptYes := ⟨fun pins s σ H Q I ⟨B, N, ρ, Q', R, q, k⟩ => pts_nil.run pins s σ H Q I (k N H true ρ R (Ex.refl _) q)⟩
theorem jf_one (h : JT S X e qa) : JF S X [e] qa := pts_one (jt_c0 h)
/-- targets whose names are the block's -/
def SimGw (K : PySem.W.Frag) (S : Src) (vs : List Nat) (g : TG) (p : PTG) : Prop := ∀ (B : Bs) (N H : Hp) (σ : St) (ρ : List Sl) (v : V) (d : PyData) (Q : St → Hp → Prop) (Q' : List Sl → Prop), Rel K S B N H σ ρ → Rp K N v d → p d ρ Q' →
  (∀ N' H' σ' ρ', Rel K S B N' H' σ' ρ' → Ex N N' → wipe σ' vs = wipe σ vs → Q' ρ' → Q σ' H') → g v σ H Q
def JGw (S : Src) (X : Cx) (vs : List Nat) (tg : Expr) (p : PTG) : Prop := ∃ g, PG X tg g ∧ SimGw X.K S vs g p
def SimGsw (K : PySem.W.Frag) (S : Src) (vs : List Nat) (g : TGs) (p : PTGs) : Prop := ∀ (B : Bs) (N H : Hp) (σ : St) (ρ : List Sl) (ws : List V) (ds : List PyData) (Q : St → Hp → Prop) (Q' : List Sl → Prop), Rel K S B N H σ ρ → RpAll K N ws ds → p ds ρ Q' →
  (∀ N' H' σ' ρ', Rel K S B N' H' σ' ρ' → Ex N N' → wipe σ' vs = wipe σ vs → Q' ρ' → Q σ' H') → g ws σ H Q
def JGsw (S : Src) (X : Cx) (vs : List Nat) (tgs : List Expr) (p : PTGs) : Prop := ∃ g, PGs X tgs g ∧ SimGsw X.K S vs g p
theorem jgw_name (i : Nat) {x : Str} (hN : X.N.Nodup) (hv : i ∈ vs := by simp) (hi : X.N[i]? = some x := by rfl) (hx : Loc X.env.scope x := by first | exact Or.inl rfl | exact Or.inr rfl) (hf : X.fn x = true ∨ X.env.scope.names.lookup x = some .local := by first | exact .inl rfl | exact .inr rfl | assumption) :
    JGw S X vs (.Name x pos) (gtName i) := ⟨gName i, pg_name hN hi hx hf, fun B N H σ ρ v d Q Q' R r q k => k N H _ _ (R.setV r) (Ex.refl _) (wipe_set hv) q⟩
theorem jgsw_nil : JGsw S X vs [] gtNil := ⟨gNil, pgs_nil, fun B N H σ ρ ws ds Q Q' R r q k => by
  obtain ⟨e, q⟩ := q
  subst e
  cases r
  exact ⟨rfl, k N H σ ρ R (Ex.refl _) rfl q⟩⟩
theorem jgsw_cons (h1 : JGw S X vs e pg) (h2 : JGsw S X vs es pgs) (hs : (assignEach (e :: es) X.env).map (·.2) = assign e X.env :: (assignEach es X.env).map (·.2) := by rfl) : JGsw S X vs (e :: es) (gtCons pg pgs) := by
  obtain ⟨g, a1, a2⟩ := h1
  obtain ⟨u, b1, b2⟩ := h2
  refine ⟨gCons g u, pgs_cons a1 b1 hs, fun B N H σ ρ ws ds Q Q' R r q k => ?_⟩
  cases r with
  | nil => exact q.elim
  | cons h t => exact ⟨_, _, rfl, a2 B N H σ ρ _ _ _ _ R h q fun N1 H1 σ1 ρ1 R1 e1 w1 q1 => b2 B N1 H1 σ1 ρ1 _ _ _ _ R1 (t.up e1) q1 fun N2 H2 σ2 ρ2 R2 e2 w2 q2 => k N2 H2 σ2 ρ2 R2 (e1.trans e2) (w2.trans w1) q2⟩
theorem jgw_tup {k n : Nat} (hc : X.calm = true) (h : JGsw S X vs es pgs) (hn : (assignEach es X.env).length = n := by rfl) (hst : (assignEach es X.env).findIdx? (·.1) = none := by rfl) : JGw S X vs (.Tuple es k pos) (gtTup n pgs) := by
  obtain ⟨g, a1, a2⟩ := h
  refine ⟨fun v σ H Q => gTup X.K n g v σ H Q ∨ gLst X.K n g v σ H Q, pg_or (pg_tup hc a1 hn hst) (pg_lst hc a1 hn hst), fun B N H σ ρ v d Q Q' R r q k => ?_⟩
  cases r with
  | tup h1 h2 => exact .inl ⟨_, _, rfl, ex_t R.sub h1, by rw [h2.length]; exact q.1, a2 B N H σ ρ _ _ _ _ R h2 q.2 k⟩
  | lst h1 h2 => exact .inr ⟨_, _, rfl, .inl (.inl (R.sub _ _ h1)), by rw [h2.length]; exact q.1, a2 B N H σ ρ _ _ _ _ R h2 q.2 k⟩
  | _ => exact q.elim
theorem jg_c0 {tg : Expr} (h : JGw S X vs tg pg) : PG X tg (cG X.K S vs pg) := by
  obtain ⟨g, h1, h2⟩ := h
  exact ⟨fun pins s σ H v u Q I r ⟨B, N, ρ, d, Q', R, rp, q, k⟩ => h1.run pins s σ H v u Q I r (h2 B N H σ ρ v d Q Q' R rp q k)⟩
end
end PD

set_option Elab.async false
set_option linter.all false
set_option maxRecDepth 100000
set_option maxHeartbeats 1000000
/-! List comprehensions; all, any, sum of a generator expression: told over data. -/
namespace PD
open PySem L2 GxR HGx

theorem wipe_sub {σ : St} {vs : List Nat} : ∀ {ws : List Nat}, (∀ i ∈ ws, i ∈ vs) → wipe (wipe σ ws) vs = wipe σ vs
  | [], _ => rfl
  | w :: ws, h => by
    show wipe ((wipe σ ws).set w none) vs = _
    rw [wipe_set (h w List.mem_cons_self)]
    exact wipe_sub fun i hi => h i (List.mem_cons_of_mem _ hi)
theorem wipe_wipe {σ : St} {vs : List Nat} : wipe (wipe σ vs) vs = wipe σ vs := wipe_sub fun _ h => h
theorem blkOk_at (N : List Str) (sc : Scope) {scope : Scope} {own : List (Str × Nat)} (h : blkC N sc scope own = true) : BlkOk N sc scope own := blkOk_by h
/-- [elt for tg in iter if ..]; I by the turn and what has come -/
def pLc (frz vs : List Nat) (pi : PTI) (pg : PTG) (pt : PTT) (pe : PTE) : PTR := fun wp ρ Q => pi wp ρ fun ds ρ1 => ∃ I : Nat → List PyData → Prop, I 0 [] ∧
  (∀ i d acc, ds[i]? = some d → I i acc → pg d (blkS vs (frzL frz ρ1)) fun ρ3 => pt w0 ρ3 fun b ρ4 => if b = true then pe w0 ρ4 fun y ρ5 => acc.length < sizeLine ∧ I (i + 1) (acc ++ [y]) ∧ wipeS ρ5 vs = blkS vs (frzL frz ρ1) else I (i + 1) acc ∧ wipeS ρ4 vs = blkS vs (frzL frz ρ1)) ∧
  ∀ acc, I ds.length acc → Q (.own acc) (frzL frz ρ1)
def tLcC (K : PySem.W.Frag) (S : Src) (vs : List Nat) (wi : TI) (pg : PTG) (pt : PTT) (pe : PTE) : TE := tLc wi (cG K S vs pg) (cT K S pt) (cE K S pe) vs
theorem sim_lc {K : PySem.W.Frag} {S : Src} {frz vs : List Nat} {ti : WX → TI} {pi : PTI} {pg : PTG} {pt : PTT} {pe : PTE} (hi : SimI K S ti pi) : SimR K S (fun W => tLcC K S vs (ti W) pg pt pe) (pLc frz vs pi pg pt pe) := by
  intro W wp B N H σ ρ Q Q' R hw q k
  refine hi W wp B N H σ ρ _ _ R hw q fun N1 H1 J ds ρ1 R1 e1 it q1 => ?_
  obtain ⟨I, h0, hstep, hend⟩ := q1
  intro D hD
  obtain ⟨Nf, ef, Rf⟩ := R1.freezeAll frz
  have hBD : B.H D = none := R1.fresh hD
  have aw : Away σ (frzL frz ρ1) D := Rf.away hD
  have R0 := Rf.newH (o := .lst []) hD
  refine ⟨fun i m H' => m = ds.length - i ∧ i ≤ ds.length ∧ ∃ N' xs acc, Rel K S B N' H' σ (frzL frz ρ1) ∧ Ex Nf N' ∧ H' D = some (.lst xs) ∧ N' D = none ∧ RpAll K N' xs acc ∧ I i acc, ⟨ds.length, by simp, Nat.zero_le _, Nf, [], [], R0, Ex.refl _, upd_same, Rf.sub.none hD, .nil, h0⟩, ?_⟩
  rintro i m H' ⟨rfl, hle, N', xs, acc, R', e', hHD, hND, rx, hI⟩
  obtain ⟨h1, h2⟩ := it N' H' (ef.trans e') R'.sub i
  by_cases hi : i < ds.length
  · obtain ⟨go, yl⟩ := h1 ds[i] (List.getElem?_eq_getElem hi)
    refine .inr ⟨go, fun H2 => ∃ N' xs acc, Rel K S B N' H2 σ (frzL frz ρ1) ∧ Ex Nf N' ∧ H2 D = some (.lst xs) ∧ N' D = none ∧ RpAll K N' xs acc ∧ I (i + 1) acc, fun H2 z => ⟨ds.length - (i + 1), by omega, rfl, hi, z⟩, fun x H2 y => ?_⟩
    have st := hstep i ds[i] acc (List.getElem?_eq_getElem hi) hI
    have go_on : ∀ N2 H2, Rel K S B N2 H2 σ (frzL frz ρ1) → Ex N' N2 → H2 D = some (.lst xs) → N2 D = none → Rp K N2 x ds[i] → cG K S vs pg x (wipe σ vs) H2 fun σ2 H2 => wipe σ2 vs = wipe σ vs ∧ cT K S pt σ2 H2 fun b H3 =>
        if b = true then cE K S pe σ2 H3 fun y H4 => ∃ acc, H4 D = some (.lst acc) ∧ acc.length < sizeLine ∧ ∃ N' xs acc', Rel K S B N' (upd H4 D (.lst (acc ++ [y]))) σ (frzL frz ρ1) ∧ Ex Nf N' ∧ (upd H4 D (.lst (acc ++ [y]))) D = some (.lst xs) ∧ N' D = none ∧ RpAll K N' xs acc' ∧ I (i + 1) acc'
        else ∃ N' xs acc, Rel K S B N' H3 σ (frzL frz ρ1) ∧ Ex Nf N' ∧ H3 D = some (.lst xs) ∧ N' D = none ∧ RpAll K N' xs acc ∧ I (i + 1) acc := by
      intro N2 H2 R2 e2 hD2 hN2 rp
      have Rb := (R2.wiped vs).block
      have nz : ∀ {N3 H3 : Hp}, Ext S (blockB N2 H2 (wipe σ vs) (wipeS (frzL frz ρ1) vs)) N3 H3 → H3 D = some (.lst xs) ∧ N3 D = none := fun {N3 H3} x => by
        refine ⟨x.keep D _ hD2 (fun hb => ?_) (fun hb => ?_) (fun ht => tab_not (R2.ext.tab D ht) hD2 (fun ps z => by cases z)), x.fr D hN2 (by show H2 D ≠ none; rw [hD2]; exact nofun)⟩
        · obtain ⟨j, g1, g2⟩ := hb
          exact aw j _ (wipeS_mut rfl g1).1 rfl (wipe_some g2).1
        · obtain ⟨j, es, g1, g2⟩ := hb
          rcases g1 with g1 | g1 <;> exact aw j _ (wipeS_mut rfl g1).1 rfl (wipe_some g2).1
      have fin : ∀ {N3 H3 : Hp} {σ3 : St} {ρ3 : List Sl}, Rel K S (blockB N2 H2 (wipe σ vs) (wipeS (frzL frz ρ1) vs)) N3 H3 σ3 ρ3 → wipe σ3 vs = wipe σ vs → wipeS ρ3 vs = blkS vs (frzL frz ρ1) → Rel K S B N3 H3 σ (frzL frz ρ1) := fun {N3 H3 σ3 ρ3} R3 hs hr => by
        have R4 := R3.wiped vs
        rw [hs, hr] at R4
        exact R2.unblock R4
      refine ⟨_, N2, _, ds[i], _, Rb, rp, st, fun N3 H3 σ3 ρ3 R3 e3 hs3 q3 => ⟨hs3.trans wipe_wipe, _, N3, ρ3, _, R3, q3, fun N4 H4 b ρ4 R4 e4 q4 => ?_⟩⟩
      cases b with
      | false =>
        rw [if_neg Bool.false_ne_true] at q4 ⊢
        obtain ⟨g1, g2⟩ := nz R4.ext
        exact ⟨N4, xs, acc, fin R4 (hs3.trans wipe_wipe) q4.2, ((e'.trans e2).trans e3).trans e4, g1, g2, rx.up ((e2.trans e3).trans e4), q4.1⟩
      | true =>
        rw [if_pos rfl] at q4 ⊢
        refine ⟨_, N4, ρ4, _, R4, q4, fun N5 H5 v d ρ5 R5 e5 rv q5 => ?_⟩
        obtain ⟨g1, g2⟩ := nz R5.ext
        obtain ⟨q5, q6, q7⟩ := q5
        have e25 := ((e2.trans e3).trans e4).trans e5
        refine ⟨xs, g1, by rw [rx.length]; exact q5, N5, xs ++ [v], acc ++ [d], (fin R5 (hs3.trans wipe_wipe) q7).poke g2 hBD aw, e'.trans e25, upd_same, g2, (rx.up e25).append (.cons rv .nil), q6⟩
    rcases yl x H2 y with ⟨rfl, rp⟩ | ⟨T, o, hT, rfl, rp⟩
    · exact go_on N' H2 R' (Ex.refl _) hHD hND rp
    · have hTD : D ≠ T := fun z => by rw [z, hT] at hHD; cases hHD
      exact go_on _ _ (R'.newM hT) (Ex.new (R'.sub.none hT)) (by rw [upd_ne hTD]; exact hHD) (by rw [upd_ne hTD]; exact hND) rp
  · have e : i = ds.length := by omega
    subst e
    exact .inl ⟨h2 (Nat.le_refl _), k N' H' (.ref D) (.own acc) _ R' (e1.trans (ef.trans e')) ⟨D, xs, rfl, hHD, rx, hND, hBD, aw⟩ (hend acc hI)⟩
section
variable {S : Src} {X : Cx} {elt tg iter : Expr} {ifs : List Expr} {scope : Scope} {own : List (Str × Nat)} {pos : Pos} {pi : PTI} {pg : PTG} {pt : PTT} {pe : PTE}
theorem jr_lc (frz : List Nat) (own : List (Str × Nat)) (hc : X.calm = true) (hN : X.N.Nodup) (hi : JI S X tg iter pi) (ok : BlkOk X.N X.env.scope scope own)
    (hg : ∀ (s : Shared) (H : Hp) (C : Addr) (cl : List (Str × Addr)) (fp : List Addr), JGw S (X.blk s H scope (compEnvC scope cl C X.env) fp) (own.map (·.2)) tg pg)
    (ht : ∀ (s : Shared) (H : Hp) (C : Addr) (cl : List (Str × Addr)) (fp : List Addr), JF S (X.blk s H scope (compEnvC scope cl C X.env) fp) ifs pt)
    (he : ∀ (s : Shared) (H : Hp) (C : Addr) (cl : List (Str × Addr)) (fp : List Addr), JE S (X.blk s H scope (compEnvC scope cl C X.env) fp) elt pe) (hs : ∀ x, foldedSetIterable iter X.env x = pure x := by intro _; rfl) :
    JR S X (.ListComp elt [⟨tg, iter, ifs, 0⟩] scope pos) (pLc frz (own.map (·.2)) pi pg pt pe) := by
  obtain ⟨ti, i1, i2⟩ := hi
  exact ⟨fun W => tLcC X.K S (own.map (·.2)) (ti W) pg pt pe, fun W tk => pe_lc (own := own) (g := cG X.K S (own.map (·.2)) pg) (tt := cT X.K S pt) (te := cE X.K S pe) hc hN (i1 W tk) ok (fun s H C cl fp => jg_c0 (hg s H C cl fp)) (fun s H C cl fp => ht s H C cl fp) (fun s H C cl fp => je_c0 (he s H C cl fp)) hs, sim_lc i2⟩
theorem js_setLc (frz : List Nat) (own : List (Str × Nat)) (i : Nat) {y : Str} {py spos : Pos} (hc : X.calm = true) (hN : X.N.Nodup) (hi : JI S X tg iter pi) (ok : BlkOk X.N X.env.scope scope own)
    (hg : ∀ (s : Shared) (H : Hp) (C : Addr) (cl : List (Str × Addr)) (fp : List Addr), JGw S (X.blk s H scope (compEnvC scope cl C X.env) fp) (own.map (·.2)) tg pg)
    (ht : ∀ (s : Shared) (H : Hp) (C : Addr) (cl : List (Str × Addr)) (fp : List Addr), JF S (X.blk s H scope (compEnvC scope cl C X.env) fp) ifs pt)
    (he : ∀ (s : Shared) (H : Hp) (C : Addr) (cl : List (Str × Addr)) (fp : List Addr), JE S (X.blk s H scope (compEnvC scope cl C X.env) fp) elt pe)
    (hy : X.N[i]? = some y := by rfl) (hyl : X.env.scope.names.lookup y = some .local := by rfl) (hsw : swapsWith (.ListComp elt [⟨tg, iter, ifs, 0⟩] scope pos) (some (.Name y py)) spos.line X.env = pure true := by rfl)
    (hs : ∀ x, foldedSetIterable iter X.env x = pure x := by intro _; rfl) :
    JS S X (.Assign [.Name y py] (.ListComp elt [⟨tg, iter, ifs, 0⟩] scope pos) spos) (qSet i (pLc frz (own.map (·.2)) pi pg pt pe)) := by
  obtain ⟨ti, i1, i2⟩ := hi
  refine ⟨fun W => tAsg (tLcC X.K S (own.map fun z : Str × Nat => z.2) (ti W) pg pt pe) (gName i), fun W tk _ => ps_setLc (own := own) (g := cG X.K S (own.map fun z : Str × Nat => z.2) pg) (tt := cT X.K S pt) (te := cE X.K S pe) hc hN hy hyl hsw (i1 W tk) ok (fun s H C cl fp => jg_c0 (hg s H C cl fp)) (fun s H C cl fp => ht s H C cl fp) (fun s H C cl fp => je_c0 (he s H C cl fp)) hs, fun W D P B N H σ ρ R C q => ?_⟩
  exact sim_lc i2 W P.ex B N H σ ρ _ _ R C.w q fun N1 H1 v r ρ1 R1 _ ok q1 => C.nx N1 H1 _ _ (R1.put ok) q1

/-! ### generator expressions -/
/-- outs: what comes, in order; ks i: how many came ahead of item i; cont: whoever draws asks again behind this one -/
def GenOut (cont : PyData → Prop) (ds outs : List PyData) (ρb : List Sl) (vs : List Nat) (pg : PTG) (pt : PTT) (pe : PTE) : Prop := ∃ ks : Nat → Nat, ks 0 = 0 ∧ ks ds.length = outs.length ∧ (∀ i, i < ds.length → ks i ≤ ks (i + 1)) ∧
  ∀ i d, ds[i]? = some d → (∀ j o, j < ks i → outs[j]? = some o → cont o) → pg d ρb fun ρ3 => pt w0 ρ3 fun b ρ4 =>
    if b = true then pe w0 ρ4 fun y ρ5 => outs[ks i]? = some y ∧ ks (i + 1) = ks i + 1 ∧ wipeS ρ5 vs = ρb else ks (i + 1) = ks i ∧ wipeS ρ4 vs = ρb
def pGx (cont : PyData → Prop) (fin : List PyData → (PyData → Prop) → Prop) (frz vs : List Nat) (pi : PTI) (pg : PTG) (pt : PTT) (pe : PTE) : PTE := fun wp ρ Q => pi wp ρ fun ds ρ1 => ∃ outs, GenOut cont ds outs (blkS vs (frzL frz ρ1)) vs pg pt pe ∧ fin outs fun d => Q d (frzL frz ρ1)
/-- what the one who draws is told -/
def CnsOk (K : PySem.W.Frag) (S : Src) (cons : Cns) (cont : PyData → Prop) (fin : List PyData → (PyData → Prop) → Prop) : Prop := ∀ (B : Bs) (σ : St) (ρ : List Sl) (N0 : Hp) (outs : List PyData) (Q : VK) (Q' : PyData → Prop), fin outs Q' →
  (∀ N' H' v d, Rel K S B N' H' σ ρ → Ex N0 N' → Rp K N' v d → Q' d → Q v H') →
  cons (fun n' y H4 => ∃ N' d, Rel K S B N' H4 σ ρ ∧ Ex N0 N' ∧ Rp K N' y d ∧ n' < outs.length ∧ outs[outs.length - 1 - n']? = some d ∧ ∀ j o, j < outs.length - 1 - n' → outs[j]? = some o → cont o)
    (fun n' => ∀ j o, j < outs.length - n' → outs[j]? = some o → cont o) (fun H4 => ∃ N', Rel K S B N' H4 σ ρ ∧ Ex N0 N' ∧ ∀ o ∈ outs, cont o) outs.length Q
theorem sim_gx {K : PySem.W.Frag} {S : Src} {P : Addr} {cons : Cns} {cont : PyData → Prop} {fin : List PyData → (PyData → Prop) → Prop} {frz vs : List Nat} {ti : WX → TI} {pi : PTI} {pg : PTG} {pt : PTT} {pe : PTE} (hP : S.tb P) (hc : CnsOk K S cons cont fin) (hi : SimI K S ti pi) :
    SimE K S (fun W => tGx P (ti W) (cG K S vs pg) (cT K S pt) (cE K S pe) vs cons) (pGx cont fin frz vs pi pg pt pe) := by
  intro W wp B N H σ ρ Q Q' R hw q k
  refine hi W wp B N H σ ρ _ _ R hw q fun N1 H1 J ds ρ1 R1 e1 it q1 => ?_
  refine ⟨R1.ext.tab P hP, fun Ht hT => ?_⟩
  obtain ⟨outs, ⟨ks, k0, kl, kmono, hstep⟩, hfin⟩ := q1
  have Rt := R1.tabbed hP hT
  obtain ⟨Nf, ef, Rf⟩ := Rt.freezeAll frz
  refine ⟨fun i m n H' => m = ds.length - i ∧ i ≤ ds.length ∧ n + ks i = outs.length ∧ (∀ j o, j < ks i → outs[j]? = some o → cont o) ∧ ∃ N', Rel K S B N' H' σ (frzL frz ρ1) ∧ Ex Nf N', _, _, _, ds.length, outs.length, ?_, ⟨by simp, Nat.zero_le _, by rw [k0]; rfl, fun j o hj => absurd hj (by rw [k0]; exact Nat.not_lt_zero _), Nf, Rf, Ex.refl _⟩, fun j o hj => absurd hj (by simp),
    hc B σ (frzL frz ρ1) Nf outs Q (fun d => Q' d (frzL frz ρ1)) hfin fun N' H' v d R' e' r q' => k N' H' v d _ R' (e1.trans (ef.trans e')) r q'⟩
  rintro i m n H' ⟨rfl, hle, hn, hgo, N', R', e'⟩
  obtain ⟨h1, h2⟩ := it N' H' (ef.trans e') R'.sub i
  by_cases hi : i < ds.length
  · obtain ⟨go, yl⟩ := h1 ds[i] (List.getElem?_eq_getElem hi)
    refine .inr ⟨go, fun n' H2 => n' + ks (i + 1) = outs.length ∧ (∀ j o, j < ks (i + 1) → outs[j]? = some o → cont o) ∧ ∃ N', Rel K S B N' H2 σ (frzL frz ρ1) ∧ Ex Nf N', fun n' H2 z => ⟨ds.length - (i + 1), by omega, rfl, hi, z⟩, fun x H2 y => ?_⟩
    have st := hstep i ds[i] (List.getElem?_eq_getElem hi) hgo
    have go_on : ∀ N2 H2, Rel K S B N2 H2 σ (frzL frz ρ1) → Ex N' N2 → Rp K N2 x ds[i] → cG K S vs pg x (wipe σ vs) H2 fun σ2 H2 => wipe σ2 vs = wipe σ vs ∧ cT K S pt σ2 H2 fun b H3 =>
        if b = true then cE K S pe σ2 H3 fun y H4 => ∃ n', n = n' + 1 ∧ (∃ N' d, Rel K S B N' H4 σ (frzL frz ρ1) ∧ Ex Nf N' ∧ Rp K N' y d ∧ n' < outs.length ∧ outs[outs.length - 1 - n']? = some d ∧ ∀ j o, j < outs.length - 1 - n' → outs[j]? = some o → cont o) ∧
          ((∀ j o, j < outs.length - n' → outs[j]? = some o → cont o) → n' + ks (i + 1) = outs.length ∧ (∀ j o, j < ks (i + 1) → outs[j]? = some o → cont o) ∧ ∃ N', Rel K S B N' H4 σ (frzL frz ρ1) ∧ Ex Nf N')
        else n + ks (i + 1) = outs.length ∧ (∀ j o, j < ks (i + 1) → outs[j]? = some o → cont o) ∧ ∃ N', Rel K S B N' H3 σ (frzL frz ρ1) ∧ Ex Nf N' := by
      intro N2 H2 R2 e2 rp
      have Rb := (R2.wiped vs).block
      have fin : ∀ {N3 H3 : Hp} {σ3 : St} {ρ3 : List Sl}, Rel K S (blockB N2 H2 (wipe σ vs) (wipeS (frzL frz ρ1) vs)) N3 H3 σ3 ρ3 → wipe σ3 vs = wipe σ vs → wipeS ρ3 vs = blkS vs (frzL frz ρ1) → Rel K S B N3 H3 σ (frzL frz ρ1) := fun {N3 H3 σ3 ρ3} R3 hs hr => by
        have R4 := R3.wiped vs
        rw [hs, hr] at R4
        exact R2.unblock R4
      refine ⟨_, N2, _, ds[i], _, Rb, rp, st, fun N3 H3 σ3 ρ3 R3 e3 hs3 q3 => ⟨hs3.trans wipe_wipe, _, N3, ρ3, _, R3, q3, fun N4 H4 b ρ4 R4 e4 q4 => ?_⟩⟩
      cases b with
      | false =>
        rw [if_neg Bool.false_ne_true] at q4 ⊢
        exact ⟨by rw [q4.1]; exact hn, by rw [q4.1]; exact hgo, N4, fin R4 (hs3.trans wipe_wipe) q4.2, ((e'.trans e2).trans e3).trans e4⟩
      | true =>
        rw [if_pos rfl] at q4 ⊢
        refine ⟨_, N4, ρ4, _, R4, q4, fun N5 H5 v d ρ5 R5 e5 rv q5 => ?_⟩
        obtain ⟨q5, q6, q7⟩ := q5
        have hlt := (List.getElem?_eq_some_iff.mp q5).1
        have Rn := fin R5 (hs3.trans wipe_wipe) q7
        have en := (((e'.trans e2).trans e3).trans e4).trans e5
        have ei : outs.length - 1 - (outs.length - 1 - ks i) = ks i := by omega
        refine ⟨outs.length - 1 - ks i, by omega, ⟨N5, d, Rn, en, rv, by omega, by rw [ei]; exact q5, by rw [ei]; exact hgo⟩, fun hg => ⟨by omega, fun j o hj => hg j o (by omega), N5, Rn, en⟩⟩
    rcases yl x H2 y with ⟨rfl, rp⟩ | ⟨T, o, hT, rfl, rp⟩
    · exact go_on N' H2 R' (Ex.refl _) rp
    · exact go_on _ _ (R'.newM hT) (Ex.new (R'.sub.none hT)) rp
  · have e : i = ds.length := by omega
    subst e
    refine .inl ⟨h2 (Nat.le_refl _), by omega, N', R', e', fun o ho => ?_⟩
    obtain ⟨j, hj, ej⟩ := List.getElem_of_mem ho
    exact hgo j o (by rw [kl]; exact hj) (by rw [List.getElem?_eq_getElem hj, ej])

/-! ### all, any, sum -/
def isTru (d : PyData) : Bool := match d with | .bool b => b | _ => false
def fAll (outs : List PyData) (Q : PyData → Prop) : Prop := (∀ o ∈ outs, ∃ b, o = .bool b) ∧ Q (.bool (outs.all isTru))
def fAny (outs : List PyData) (Q : PyData → Prop) : Prop := (∀ o ∈ outs, ∃ b, o = .bool b) ∧ Q (.bool (outs.any isTru))
theorem cns_all {K : PySem.W.Frag} {S : Src} : CnsOk K S cAll (fun d => d = .bool true) fAll := by
  intro B σ ρ N0 outs Q Q' ⟨hb, q⟩ k
  refine ⟨fun m y H ⟨N', d, R, e, r, hm, hd, hc⟩ => ?_, fun H ⟨N', R, e, hc⟩ => ?_⟩
  · obtain ⟨b, rfl⟩ := hb d (List.mem_of_getElem? hd)
    cases r with
    | bl b =>
      cases b with
      | true =>
        refine .inl ⟨rfl, fun j o hj ho => ?_⟩
        by_cases h : j < outs.length - 1 - m
        · exact hc j o h ho
        · have : j = outs.length - 1 - m := by omega
          rw [this, hd] at ho
          exact (Option.some.inj ho).symm
      | false =>
        refine .inr ⟨rfl, k N' H (.bl false) (.bool false) R e (.bl false) ?_⟩
        have : outs.all isTru = false := by
          rw [List.all_eq_false]
          exact ⟨_, List.mem_of_getElem? hd, by simp [isTru]⟩
        rw [this] at q
        exact q
  · refine k N' H (.bl true) (.bool true) R e (.bl true) ?_
    have : outs.all isTru = true := by
      rw [List.all_eq_true]
      intro o ho
      rw [hc o ho]
      rfl
    rw [this] at q
    exact q
theorem cns_any {K : PySem.W.Frag} {S : Src} : CnsOk K S cAny (fun d => d = .bool false) fAny := by
  intro B σ ρ N0 outs Q Q' ⟨hb, q⟩ k
  refine ⟨fun m y H ⟨N', d, R, e, r, hm, hd, hc⟩ => ?_, fun H ⟨N', R, e, hc⟩ => ?_⟩
  · obtain ⟨b, rfl⟩ := hb d (List.mem_of_getElem? hd)
    cases r with
    | bl b =>
      cases b with
      | false =>
        refine .inl ⟨rfl, fun j o hj ho => ?_⟩
        by_cases h : j < outs.length - 1 - m
        · exact hc j o h ho
        · have : j = outs.length - 1 - m := by omega
          rw [this, hd] at ho
          exact (Option.some.inj ho).symm
      | true =>
        refine .inr ⟨rfl, k N' H (.bl true) (.bool true) R e (.bl true) ?_⟩
        have : outs.any isTru = true := by
          rw [List.any_eq_true]
          exact ⟨_, List.mem_of_getElem? hd, by simp [isTru]⟩
        rw [this] at q
        exact q
  · refine k N' H (.bl false) (.bool false) R e (.bl false) ?_
    have : outs.any isTru = false := by
      rw [List.any_eq_false]
      intro o ho
      rw [hc o ho]
      simp [isTru]
    rw [this] at q
    exact q
def sumD : List PyData → Int
  | [] => 0
  | .int i :: r => i + sumD r
  | _ :: r => sumD r
theorem sumD_append : ∀ (l r : List PyData), sumD (l ++ r) = sumD l + sumD r
  | [], r => by simp [sumD]
  | d :: l, r => by
    have := sumD_append l r
    cases d <;> simp [sumD, this] <;> omega
def fSum (outs : List PyData) (Q : PyData → Prop) : Prop := (∀ o ∈ outs, ∃ i, o = .int i ∧ InLong i) ∧ (∀ k, k ≤ outs.length → InLong (sumD (outs.take k))) ∧ Q (.int (sumD outs))
theorem cns_sum {K : PySem.W.Frag} {S : Src} : CnsOk K S cSum (fun _ => True) fSum := by
  intro B σ ρ N0 outs Q Q' ⟨hb, hs, q⟩ k
  refine ⟨fun n => sumD (outs.take (outs.length - n)), by simp [sumD], fun m y H ⟨N', d, R, e, r, hm, hd, hc⟩ => ?_, fun H ⟨N', R, e, hc⟩ => ?_⟩
  · obtain ⟨i, rfl, hi⟩ := hb d (List.mem_of_getElem? hd)
    cases r
    have e1 : outs.length - m = outs.length - (m + 1) + 1 := by omega
    have e2 : outs.length - 1 - m = outs.length - (m + 1) := by omega
    have e3 : sumD (outs.take (outs.length - m)) = sumD (outs.take (outs.length - (m + 1))) + i := by
      rw [e1, List.take_add_one, sumD_append, ← e2, hd]
      simp [sumD]
    refine ⟨i, rfl, hi, ?_, e3, fun _ _ _ _ => trivial⟩
    show InLong (sumD (outs.take (outs.length - (m + 1))) + i)
    rw [← e3]
    exact hs _ (by omega)
  · refine k N' H (.int _) (.int _) R e (.int _) ?_
    show Q' (.int (sumD (outs.take (outs.length - 0))))
    rw [Nat.sub_zero, List.take_length]
    exact q
variable {c P : Addr} {gpos p : Pos} {k : Nat}
theorem je_allG (frz : List Nat) (own : List (Str × Nat)) (hP : S.tb P) (hr : Room (k + 4) X.A) (hgl : Gl X "all") (hm : X.mg "all" = none) (hN : X.N.Nodup) (TB : TabB X.base X.mg c P) (hcode : X.env.code = .ref c) (hco : scope.isCoroutine = false) (hcell : ∀ y ∈ scope.names, y.2 ≠ .cell)
    (h0 : scope.names.lookup (".0" : Str) = some NameKind.local) (ok : BlkOk X.N X.env.scope scope own) (hi : JI S X tg iter pi)
    (hg : ∀ (s : Shared) (H : Hp) (C : Addr) (cl : List (Str × Addr)) (cd : Value) (bi : Addr) (fp : List Addr), JGw S (X.gx X.A.in1.in1 s H (genEnv scope cl C cd bi X.env) fp) (own.map (·.2)) tg pg) (ht : ∀ (s : Shared) (H : Hp) (C : Addr) (cl : List (Str × Addr)) (cd : Value) (bi : Addr) (fp : List Addr), JF S (X.gx X.A.in1.in1 s H (genEnv scope cl C cd bi X.env) fp) ifs pt)
    (he : ∀ (s : Shared) (H : Hp) (C : Addr) (cl : List (Str × Addr)) (cd : Value) (bi : Addr) (fp : List Addr), JE S (X.gx X.A.in1.in1 s H (genEnv scope cl C cd bi X.env) fp) elt pe) (hs : ∀ v, genFold iter X.env v = pure v := by intro _; rfl)
    (hst : starEach [gxe elt tg iter ifs scope gpos] X.env = (false, eval (gxe elt tg iter ifs scope gpos) X.env) :: starEach [] X.env := by rfl) :
    JE S X (.Call (.Name "all" p) [gxe elt tg iter ifs scope gpos] [] pos) (pGx (fun d => d = .bool true) fAll frz (own.map (·.2)) pi pg pt pe) := by
  obtain ⟨ti, i1, i2⟩ := hi
  exact ⟨fun W => tGx P (ti W) (cG X.K S (own.map (·.2)) pg) (cT X.K S pt) (cE X.K S pe) (own.map (·.2)) cAll, fun W tk => pe_allG (own := own) (g := cG X.K S (own.map (·.2)) pg) (tt := cT X.K S pt) (te := cE X.K S pe) hr hgl hm hN TB hcode hco hcell h0 ok (i1 W tk) hs (fun s H C cl cd bi fp => jg_c0 (hg s H C cl cd bi fp)) (fun s H C cl cd bi fp => ht s H C cl cd bi fp) (fun s H C cl cd bi fp => je_c0 (he s H C cl cd bi fp)) hst, sim_gx hP cns_all i2⟩
theorem je_anyG (frz : List Nat) (own : List (Str × Nat)) (hP : S.tb P) (hr : Room (k + 4) X.A) (hgl : Gl X "any") (hm : X.mg "any" = none) (hN : X.N.Nodup) (TB : TabB X.base X.mg c P) (hcode : X.env.code = .ref c) (hco : scope.isCoroutine = false) (hcell : ∀ y ∈ scope.names, y.2 ≠ .cell)
    (h0 : scope.names.lookup (".0" : Str) = some NameKind.local) (ok : BlkOk X.N X.env.scope scope own) (hi : JI S X tg iter pi)
    (hg : ∀ (s : Shared) (H : Hp) (C : Addr) (cl : List (Str × Addr)) (cd : Value) (bi : Addr) (fp : List Addr), JGw S (X.gx X.A.in1.in1 s H (genEnv scope cl C cd bi X.env) fp) (own.map (·.2)) tg pg) (ht : ∀ (s : Shared) (H : Hp) (C : Addr) (cl : List (Str × Addr)) (cd : Value) (bi : Addr) (fp : List Addr), JF S (X.gx X.A.in1.in1 s H (genEnv scope cl C cd bi X.env) fp) ifs pt)
    (he : ∀ (s : Shared) (H : Hp) (C : Addr) (cl : List (Str × Addr)) (cd : Value) (bi : Addr) (fp : List Addr), JE S (X.gx X.A.in1.in1 s H (genEnv scope cl C cd bi X.env) fp) elt pe) (hs : ∀ v, genFold iter X.env v = pure v := by intro _; rfl)
    (hst : starEach [gxe elt tg iter ifs scope gpos] X.env = (false, eval (gxe elt tg iter ifs scope gpos) X.env) :: starEach [] X.env := by rfl) :
    JE S X (.Call (.Name "any" p) [gxe elt tg iter ifs scope gpos] [] pos) (pGx (fun d => d = .bool false) fAny frz (own.map (·.2)) pi pg pt pe) := by
  obtain ⟨ti, i1, i2⟩ := hi
  exact ⟨fun W => tGx P (ti W) (cG X.K S (own.map (·.2)) pg) (cT X.K S pt) (cE X.K S pe) (own.map (·.2)) cAny, fun W tk => pe_anyG (own := own) (g := cG X.K S (own.map (·.2)) pg) (tt := cT X.K S pt) (te := cE X.K S pe) hr hgl hm hN TB hcode hco hcell h0 ok (i1 W tk) hs (fun s H C cl cd bi fp => jg_c0 (hg s H C cl cd bi fp)) (fun s H C cl cd bi fp => ht s H C cl cd bi fp) (fun s H C cl cd bi fp => je_c0 (he s H C cl cd bi fp)) hst, sim_gx hP cns_any i2⟩
theorem je_sumG (frz : List Nat) (own : List (Str × Nat)) (hP : S.tb P) (hr : Room (k + 4) X.A) (hgl : Gl X "sum") (hm : X.mg "sum" = none) (hN : X.N.Nodup) (TB : TabB X.base X.mg c P) (hcode : X.env.code = .ref c) (hco : scope.isCoroutine = false) (hcell : ∀ y ∈ scope.names, y.2 ≠ .cell)
    (h0 : scope.names.lookup (".0" : Str) = some NameKind.local) (ok : BlkOk X.N X.env.scope scope own) (hi : JI S X tg iter pi)
    (hg : ∀ (s : Shared) (H : Hp) (C : Addr) (cl : List (Str × Addr)) (cd : Value) (bi : Addr) (fp : List Addr), JGw S (X.gx X.A.in1.in1 s H (genEnv scope cl C cd bi X.env) fp) (own.map (·.2)) tg pg) (ht : ∀ (s : Shared) (H : Hp) (C : Addr) (cl : List (Str × Addr)) (cd : Value) (bi : Addr) (fp : List Addr), JF S (X.gx X.A.in1.in1 s H (genEnv scope cl C cd bi X.env) fp) ifs pt)
    (he : ∀ (s : Shared) (H : Hp) (C : Addr) (cl : List (Str × Addr)) (cd : Value) (bi : Addr) (fp : List Addr), JE S (X.gx X.A.in1.in1 s H (genEnv scope cl C cd bi X.env) fp) elt pe) (hs : ∀ v, genFold iter X.env v = pure v := by intro _; rfl)
    (hst : starEach [gxe elt tg iter ifs scope gpos] X.env = (false, eval (gxe elt tg iter ifs scope gpos) X.env) :: starEach [] X.env := by rfl) :
    JE S X (.Call (.Name "sum" p) [gxe elt tg iter ifs scope gpos] [] pos) (pGx (fun _ => True) fSum frz (own.map (·.2)) pi pg pt pe) := by
  obtain ⟨ti, i1, i2⟩ := hi
  exact ⟨fun W => tGx P (ti W) (cG X.K S (own.map (·.2)) pg) (cT X.K S pt) (cE X.K S pe) (own.map (·.2)) cSum, fun W tk => pe_sumG (own := own) (g := cG X.K S (own.map (·.2)) pg) (tt := cT X.K S pt) (te := cE X.K S pe) hr hgl hm hN TB hcode hco hcell h0 ok (i1 W tk) hs (fun s H C cl cd bi fp => jg_c0 (hg s H C cl cd bi fp)) (fun s H C cl cd bi fp => ht s H C cl cd bi fp) (fun s H C cl cd bi fp => je_c0 (he s H C cl cd bi fp)) hst, sim_gx hP cns_sum i2⟩
end
end PD

set_option Elab.async false
set_option linter.all false
set_option maxRecDepth 100000
set_option maxHeartbeats 1000000
/-! list(reversed(a list)). -/
namespace HGx
open PySem PySem.Spec PyProof.Rows RT
section
variable {prog : Program} {w : World} {A : Around} {E : Value → Shared → Prop} {s : Shared} {R : Result → Shared → Prop}
theorem list_init_rev {S it l : Addr} {items : Array Value} (hh : A.handled = none) (hit : s.heap.IsRevIter it l ((items.size : Int) - 1)) (hl : s.heap.IsList l items) (hne : l ≠ it) (hn : items.size ≤ sizeLine) (hSi : S ≠ it) (hSl : S ≠ l)
    (hS : s.heap.get? S = some { cls := .type "list", data := .seq #[] })
    (hR : ∀ (h' : Heap) (tk : Nat) (acc : Array Value) (c : Nat), (∀ b o, b ≠ it → b ≠ S → s.heap.get? b = some o → h'.get? b = some o) → h'.get? S = some { cls := .type "list", dict := none, data := .seq acc c, slots := #[] } → ItemsOf (fun i v => items[items.size - 1 - i]? = some v) acc items.size →
      R (.ok (.ret .none)) { s with heap := h', toks := tk }) :
    wpAny (model prog w) A.in1 (Builtin.«list.__init__» ⟨[.ref S, .ref it], []⟩)
      (fun fin s' => match fin with | .done f => R (.ok f) s' | .again c' => c'.quiet = true ∧ codeAny (model prog w) A c' R s') (fun e s' => R (.error e) s') s := by
  have W := (Walks.listRev (prog := prog) (w := w) (A := A.in1) hh it l hne items).toS
  have hSf : S ∉ [it, l] := by simp only [List.mem_cons, List.not_mem_nil, or_false, not_or]; exact ⟨hSi, hSl⟩
  show wpAny _ A.in1 (do let old ← Builtin.List.listItems (.ref S); Builtin.List.listUpdate (.ref S) (fun _ => #[]); letGo old.toList.reverse; Builtin.List.listExtendWith (.ref S) (.ref it) .none) _ _ s
  refine wpAny_bind ?_
  unfold Builtin.List.listItems
  refine wpAny_bind (wpAny_seqItems hS rfl (wpAny_pure ?_))
  show wpAny _ A.in1 (updateSeq S (fun _ => #[]) >>= fun _ => letGo (#[] : Array Value).toList.reverse >>= fun _ => Builtin.List.listExtendWith (.ref S) (.ref it) .none) _ _ s
  refine wpAny_bind (wpAny_updateSeq hS rfl ?_)
  have hS₁ := Heap.get?_update_self (Obj.mapSeq (fun _ => (#[] : Array Value))) hS rfl
  have oth : ∀ b o, b ≠ S → s.heap.get? b = some o → (s.heap.update S (Obj.mapSeq (fun _ => (#[] : Array Value)))).get? b = some o :=
    fun b o hb e => (Heap.get?_update_other _ _ (Ne.symm hb)).trans e
  refine wpAny_bind (wpAny_letGo ?_)
  generalize hs1 : s.heap.update S (Obj.mapSeq (fun _ => (#[] : Array Value))) = h1 at hS₁ oth ⊢
  have hit1 : h1.IsRevIter it l ((items.size : Int) - 1) := hit.at fun o e => oth _ _ (Ne.symm hSi) e
  have hl1 : h1.IsList l items := let ⟨o, ho, r⟩ := hl; ⟨o, oth _ _ (Ne.symm hSl) ho, r⟩
  have hT : ({ s with heap := h1 } : Shared).TypeIs (.ref it) "list_reverseiterator" := Heap.IsRevIter.typeIs (s := { s with heap := h1 }) hit1
  have hsr : Builtin.List.listSameRef (.ref S) (.ref it) = false := by simp [Builtin.List.listSameRef, hSi]
  unfold Builtin.List.listExtendWith
  refine wpAny_bind (wpAny_typeOf hT ?_)
  rw [if_neg (by rw [hsr]; decide)]
  refine wpAny_bind (wpAny_pyIter_revIter (s := { s with heap := h1 }) hit1 ?_)
  refine wpAny_bind (wpAny_holding ?_)
  unfold Builtin.List.listLengthHint
  refine wpAny_bind (wpAny_specialOf hT nolen_lri ?_)
  show wpAny _ A.in1 (specialOf (Value.ref it) (Str.ofString "__length_hint__") >>= _) _ _ _
  refine wpAny_bind (wpAny_specialOf hT hint_lri ?_)
  generalize hid : ("list_reverseiterator.__length_hint__" : String) = id0
  wp_delta
  rw [show splitId id0 = some ("list_reverseiterator", "__length_hint__") from by subst hid; decide +kernel]
  subst hid
  refine wpAny_bind (wpAny_isInstance (b := true) hT (by rw [isSubtype_type]; kernel_rfl) ?_)
  refine wpAny_pure ?_
  rw [if_neg (by decide)]
  have e0 : ((items.size : Nat) : Int) - 1 - ((0 : Nat) : Int) = (items.size : Int) - 1 := by omega
  refine wpAny_pure ⟨plainId_quiet F.plain_extend_loop _, codeAny_extend_loopS W hn _ hSf _ items.size 0 _ _ _ rfl (Nat.zero_le _) ⟨Nat.zero_le _, by rw [e0]; exact hit1, hl1⟩ hS₁ (ItemsOf.nil _) fun s' acc' c' hm hS' hacc => ?_⟩
  rw [Moved.eq_with hm]
  refine hR s'.heap s'.toks acc' c' (fun b o hb hb2 e => hm.heap b o (fun hmem => ?_) (oth b o hb2 e)) hS' hacc
  rcases List.mem_cons.mp hmem with e' | hmem
  · exact hb2 e'
  · exact hb (List.mem_singleton.mp hmem)
theorem call_list_rev {it l : Addr} {items : Array Value} {Q : Value → Shared → Prop} (hh : A.handled = none) (hit : s.heap.IsRevIter it l ((items.size : Int) - 1)) (hl : s.heap.IsList l items) (hne : l ≠ it) (hn : items.size ≤ sizeLine)
    (hQ : ∀ (h' : Heap) (tk : Nat) (acc : Array Value) (c : Nat), (∀ b o, b ≠ it → s.heap.get? b = some o → h'.get? b = some o) → h'.get? s.heap.objs.size = some { cls := .type "list", dict := none, data := .seq acc c, slots := #[] } →
      ItemsOf (fun i v => items[items.size - 1 - i]? = some v) acc items.size → Q (.ref s.heap.objs.size) { s with heap := h', toks := tk }) : wpAny (model prog w) A (call (.type "list") [.ref it]) Q E s := by
  obtain ⟨oi, hoi, _⟩ := id hit
  obtain ⟨ol, hol, _⟩ := id hl
  have hSi : s.heap.objs.size ≠ it := Nat.ne_of_gt (Heap.lt_size hoi)
  have hSl : s.heap.objs.size ≠ l := Nat.ne_of_gt (Heap.lt_size hol)
  refine callType_codes (Q₁ := fun obj s₁ => obj = .ref s.heap.objs.size ∧ s₁ = { s with heap := s.heap.push { cls := .type "list", data := .seq #[] } }) F.called_list (F.typeCall_list_1 _) F.entry_list_init
    (code_list_new _ ⟨rfl, rfl⟩) fun obj s₁ h₁ => ?_
  obtain ⟨rfl, rfl⟩ := h₁
  have hS : (s.heap.push { cls := .type "list", data := .seq #[] }).get? s.heap.objs.size = some { cls := .type "list", data := .seq #[] } := Heap.get?_push_size _ rfl
  refine ⟨⟨_, hS, rfl⟩, F.args_list_init_2 _ _, list_init_rev (s := { s with heap := s.heap.push { cls := .type "list", data := .seq #[] } }) hh (hit.at fun o e => Heap.get?_push_of_some _ e) (hl.push _) hne hn hSi hSl hS fun h' tk acc c hk hS' hi => ⟨rfl, ?_⟩⟩
  exact hQ h' tk acc c (fun b o hb e => hk b o hb (Nat.ne_of_lt (Heap.lt_size e)) (Heap.get?_push_of_some _ e)) hS' hi
end
open L2
/-- list(reversed(x)), x a list: a new list -/
def tLstRev (K : PySem.W.Frag) (te : TE) : TE := fun σ H Q => te σ H fun v H1 => ∃ (a : Addr) (xs : List V), v = .ref a ∧ SqL K H1 a xs ∧ ∀ q, H1 q = none → Q (.ref q) (upd H1 q (.lst xs.reverse))
theorem pe_lstRev {X : Cx} {e : Expr} {te : TE} {p p2 pos pos2 : Pos} (hc : X.calm = true) (hg : Gl X "list") (hm : X.mg "list" = none) (hg2 : Gl X "reversed") (hm2 : X.mg "reversed" = none) (he : PE X e te)
    (hs : starEach [e] X.env = (false, eval e X.env) :: starEach [] X.env := by rfl)
    (hs2 : starEach [.Call (.Name "reversed" p2) [e] [] pos2] X.env = (false, eval (.Call (.Name "reversed" p2) [e] [] pos2) X.env) :: starEach [] X.env := by rfl) :
    PE X (.Call (.Name "list" p) [.Call (.Name "reversed" p2) [e] [] pos2] [] pos) (tLstRev X.K te) := by
  refine ⟨fun pins s σ H Q I h => ?_⟩
  refine Call_ (ld_blt I hg hm boot_list (PyProof.Rows.callWith_type1 (args_cons (Call_ (ld_blt I hg2 hm2 PyProof.Rows.boot_reversed (PyProof.Rows.callWith_type1 (args_cons (thn (he.run pins s σ H _ I h) fun u s1 ⟨v, H1, I1, r1, q1⟩ => args_nil ?_) hs) hs rfl))) hs2) hs2 rfl))
  obtain ⟨a, xs, ev, hq, q⟩ := q1
  subst ev
  obtain rfl : u = Value.ref a := r1
  obtain ⟨its, rv, p', hz⟩ := I1.list hq
  refine call_reversed_list p'.isList (args_nil ?_)
  have k0 : ∀ b o, s1.heap.get? b = some o → (s1.heap.push (revObj a ((its.toArray.size : Int) - 1))).get? b = some o := fun b o e => Heap.get?_push_of_some _ e
  obtain ⟨f0, f1, f2, f3, f4, f5⟩ := I1.fpOk (H' := H1) (b := s1.heap.objs.size) (Nat.le_refl _) (I1.hok.fresh (Nat.le_refl _))
  have hl := p'.isList
  obtain ⟨ol, hol, _⟩ := id hl
  have hne : a ≠ s1.heap.objs.size := Nat.ne_of_lt (Heap.lt_size hol)
  have hn : its.toArray.size ≤ sizeLine := by rw [List.size_toArray, ← rv.length]; exact hz
  have sz : (s1.heap.push (revObj a ((its.toArray.size : Int) - 1))).objs.size = s1.heap.objs.size + 1 := Heap.size_push ..
  refine call_list_rev (s := { s1 with heap := s1.heap.push (revObj a ((its.toArray.size : Int) - 1)) }) (I1.ok.hd hc) ⟨_, Heap.get?_push_size _ rfl, rfl, rfl⟩ (hl.push _) hne hn fun h' tk acc c hk hS hi => ?_
  have hge : s1.heap.objs.size ≤ (s1.heap.push (revObj a ((its.toArray.size : Int) - 1))).objs.size := by rw [sz]; exact Nat.le_succ _
  refine ⟨.ref (s1.heap.push (revObj a ((its.toArray.size : Int) - 1))).objs.size, upd H1 (s1.heap.push (revObj a ((its.toArray.size : Int) - 1))).objs.size (.lst xs.reverse), I1.laid (t' := tk) (fun b o e => hk b o (Nat.ne_of_lt (Heap.lt_size e)) (k0 b o e)) hge (show ObjOk X.prog X.w _ _ _ (.lst xs.reverse) from ⟨by rw [List.length_reverse]; exact hz, acc.toList, c, vals_rev rv hi, ?_⟩), rfl, q _ (I1.hok.fresh hge)⟩
  rw [Array.toArray_toList]
  exact hS
end HGx

set_option Elab.async false
set_option linter.all false
set_option maxRecDepth 100000
set_option maxHeartbeats 1000000
/-! What the laws' texts share: draws, the end. -/
namespace PD
open PySem L2 GxR HGx

/-- the sources: lists of ints; tb: the tables of code objects -/
def drw (tb : Addr → Prop) : Src where
  ok := fun _ o => ∃ ns : List Int, o = .lst (ns.map V.int)
  mono := fun _ _ _ _ h => h
  tb := tb
  nt := fun _ _ h => by
    obtain ⟨ns, e⟩ := h
    cases e
section
variable {tb : Addr → Prop} {S : Src} {X : Cx} {e a b c : Expr} {es : List Expr} {pos p p2 pos2 : Pos} {pa pb : PTE} {pr : PTR}
/-- list(reversed(x)) -/
def pLstRev (q : PTE) : PTR := fun wp ρ Q => q wp ρ fun d ρ1 => match d with
  | .list ds => Q (.own ds.reverse) ρ1
  | _ => False
theorem jr_lstRev (hc : X.calm = true) (hg : Gl X "list") (hm : X.mg "list" = none) (hg2 : Gl X "reversed") (hm2 : X.mg "reversed" = none) (ha : JE S X e pa)
    (hs : starEach [e] X.env = (false, eval e X.env) :: starEach [] X.env := by rfl)
    (hs2 : starEach [.Call (.Name "reversed" p2) [e] [] pos2] X.env = (false, eval (.Call (.Name "reversed" p2) [e] [] pos2) X.env) :: starEach [] X.env := by rfl) :
    JR S X (.Call (.Name "list" p) [.Call (.Name "reversed" p2) [e] [] pos2] [] pos) (pLstRev pa) := by
  obtain ⟨t, a1, a2⟩ := ha
  refine ⟨fun W => tLstRev X.K (t W), fun W k => pe_lstRev hc hg hm hg2 hm2 (a1 W k) hs hs2, fun W wp B N H σ ρ Q Q' R hw q k => a2 W wp B N H σ ρ _ _ R hw q fun N1 H1 v d ρ1 R1 e1 r q1 => ?_⟩
  cases r with
  | lst h1 h2 =>
    refine ⟨_, _, rfl, .inl (.inl (R1.sub _ _ h1)), fun l hl => ?_⟩
    exact k N1 _ (.ref l) (.own _) ρ1 (R1.newH hl) e1 ⟨l, _, rfl, upd_same, h2.reverse, R1.sub.none hl, R1.fresh hl, R1.away hl⟩ q1
  | _ => exact q1.elim
/-- list(x), x a list or a tuple -/
def pLst1 (q : PTE) : PTR := fun wp ρ Q => q wp ρ fun d ρ1 => match d with
  | .list ds => Q (.own ds) ρ1
  | .tuple ds => Q (.own ds) ρ1
  | _ => False
theorem jr_lst1 (hg : Gl X "list") (hm : X.mg "list" = none) (ha : JE S X e pa) (hs : starEach [e] X.env = (false, eval e X.env) :: starEach [] X.env := by rfl) :
    JR S X (.Call (.Name "list" p) [e] [] pos) (pLst1 pa) := by
  obtain ⟨t, a1, a2⟩ := ha
  refine ⟨fun W => tCB (fun xs H Q => ∃ p ys, xs = [.ref p] ∧ (SqL X.K H p ys ∨ SqT X.K H p ys) ∧ ∀ l, H l = none → Q (.ref l) (upd H l (.lst ys))) (tCons (t W) tNil), fun W k => pe_callTy call_list_of hg hm PyProof.Rows.boot_list (pa_cons (a1 W k) pa_nil hs) (by decide) (by decide) hs (by rfl),
    fun W wp B N H σ ρ Q Q' R hw q k => a2 W wp B N H σ ρ _ _ R hw q fun N1 H1 v d ρ1 R1 e1 r q1 => ?_⟩
  cases r with
  | lst h1 h2 => exact ⟨_, _, rfl, .inl (.inl (.inl (R1.sub _ _ h1))), fun l hl => k N1 _ (.ref l) (.own _) ρ1 (R1.newH hl) e1 ⟨l, _, rfl, upd_same, h2, R1.sub.none hl, R1.fresh hl, R1.away hl⟩ q1⟩
  | tup h1 h2 => exact ⟨_, _, rfl, .inr (ex_t R1.sub h1), fun l hl => k N1 _ (.ref l) (.own _) ρ1 (R1.newH hl) e1 ⟨l, _, rfl, upd_same, h2, R1.sub.none hl, R1.fresh hl, R1.away hl⟩ q1⟩
  | _ => exact q1.elim
/-- len(x), x a name: x is only looked at -/
def pLenN (i : Nat) : PTE := fun _ ρ Q => match seqAt ρ i with
  | some ds => Q (.int ds.length) ρ
  | none => False
theorem je_lenN (i : Nat) {x : Str} {px : Pos} (hg : Gl X "len") (hm : X.mg "len" = none) (hN : X.N[i]? = some x := by rfl) (hv : Vis X.env.scope x := by first | exact Or.inl rfl | exact Or.inr (Or.inl rfl) | exact Or.inr (Or.inr rfl)) (hd : (x == ("__debug__" : Str)) = false := by decide)
    (hcd : (x == ("__classdict__" : Str)) = false := by decide) (hs : starEach [.Name x px] X.env = (false, eval (.Name x px) X.env) :: starEach [] X.env := by rfl) : JE S X (.Call (.Name "len" p) [.Name x px] [] pos) (pLenN i) := by
  refine ⟨fun _ => tCB _ (tCons (tVar i) tNil), fun W k => pe_callB call_len hg hm PySem.boot_len (pa_cons (pv i hN hv hd hcd) pa_nil hs) (by decide) (by decide) hs (by rfl), fun W wp B N H σ ρ Q Q' R hw q k => ?_⟩
  unfold pLenN at q
  cases h : PD.seqAt ρ i with
  | none => rw [h] at q; exact q.elim
  | some ds =>
    rw [h] at q
    obtain ⟨a, vs, ex, hq, hr⟩ := R.seqAt h
    refine ⟨.ref a, ex, .ref a, ds.length, rfl, ?_, k N H _ _ ρ R (Ex.refl _) (.int _) q⟩
    rcases hq with hq | hq
    · exact .inl ⟨vs, hq, hr.length.symm⟩
    · exact .inr ⟨vs, hq, hr.length.symm⟩
/-- x = e, e a new list of ints: a source from here on -/
def qSetSrc (i : Nat) (p : PTR) : PTS := fun P ρ => p P.ex ρ fun r ρ1 => (∃ ns : List Int, r = .own (ns.map PyData.int)) ∧ P.nx (ρ1.set i .src)
theorem js_setSrc (i : Nat) {x : Str} {pos' : Pos} (hN : X.N.Nodup) (h : JR (drw tb) X e pr) (hi : X.N[i]? = some x := by rfl) (hx : Loc X.env.scope x := by first | exact Or.inl rfl | exact Or.inr rfl) (hs : swapsWith e (some (.Name x pos')) pos.line X.env = pure false := by rfl)
    (hf : X.fn x = true ∨ X.env.scope.names.lookup x = some .local := by first | exact .inl rfl | exact .inr rfl | assumption) : JS (drw tb) X (.Assign [.Name x pos'] e pos) (qSetSrc i pr) := by
  obtain ⟨t, a1, a2⟩ := h
  refine ⟨fun W => tAsg (t W) (gName i), fun W k _ => ps_set hN hi hx (a1 W k) hs hf, fun W D P B N H σ ρ R C q => a2 W P.ex B N H σ ρ _ _ R C.w q fun N1 H1 v r ρ1 R1 _ ok q1 => ?_⟩
  obtain ⟨⟨ns, rfl⟩, q1⟩ := q1
  obtain ⟨a, vs, rfl, h1, h2, h3, h4, h5⟩ := ok
  have e := h2.of_ints
  subst e
  exact C.nx N1 H1 _ _ (R1.set (x := some (.ref a)) (s := .src) ⟨a, _, rfl, h1, ⟨ns, rfl⟩, h3, .inr h4⟩ fun _ c hc j s ne hj hm hh => by
    cases hc
    exact h5 j s hj hm hh) q1
/-- the body of the laws' draw -/
def qTake (i j : Nat) : PTS := fun P ρ => ρ[i]? = some .src ∧ ∃ b : Int, ρ[j]? = some (.v (.int b)) ∧ 0 < b ∧ ∀ r : Int, 0 ≤ r → r < b → P.rt (.v (.int r))
theorem jss_take (i j : Nat) {x y : Str} {p1 p3 p4 p5 p6 p7 p8 p9 p10 p11 p12 p13 p14 px px2 py : Pos} {k0 k1 : Nat} (hgl : Gl X "len") (hml : X.mg "len" = none) (hgi : Gl X "int") (hmi : X.mg "int" = none)
    (hN : X.N[i]? = some x := by rfl) (hv : Vis X.env.scope x := by first | exact Or.inl rfl | exact Or.inr (Or.inl rfl) | exact Or.inr (Or.inr rfl)) (hNy : X.N[j]? = some y := by rfl) (hvy : Vis X.env.scope y := by first | exact Or.inl rfl | exact Or.inr (Or.inl rfl) | exact Or.inr (Or.inr rfl))
    (hd : (x == ("__debug__" : Str)) = false := by decide) (hcd : (x == ("__classdict__" : Str)) = false := by decide) (hdy : (y == ("__debug__" : Str)) = false := by decide) (hcdy : (y == ("__classdict__" : Str)) = false := by decide)
    (hs : starEach [.Name x px] X.env = (false, eval (.Name x px) X.env) :: starEach [] X.env := by rfl)
    (hs2 : starEach [.Call (.Attribute (.Name x px2) "pop" p9) [] [] p10] X.env = (false, eval (.Call (.Attribute (.Name x px2) "pop" p9) [] [] p10) X.env) :: starEach [] X.env := by rfl)
    (hbase : attributeBase (.Name x px2) "pop" X.env (eval (.Name x px2) X.env) = eval (.Name x px2) X.env := by rfl) (hline : (p9.endLine == p10.line) = true := by rfl) (hb0 : behindInMarks .Eq (.Constant (.int 0) k0 p4) = false := by rfl) :
    JSs (drw tb) X [.If (.Compare (.Call (.Name "len" p1) [.Name x px] [] p3) [.Eq] [.Constant (.int 0) k0 p4] p5) [.Return (some (.Constant (.int 0) k1 p6)) p7] [] p8, .Return (some (.BinOp (.Call (.Name "int" p11) [.Call (.Attribute (.Name x px2) "pop" p9) [] [] p10] [] p12) .Mod (.Name y py) p13)) p14] (qTake i j) := by
  refine ⟨fun _ => tSeq (tIfS (tTest (tOp rEq (tCB _ (tCons (tVar i) tNil)) (tC (.int 0)))) (tRet (tC (.int 0))) tNext) (tRet (tOp _ (tCB _ (tCons (tBM0 X.K "list" rPop (tVar i)) tNil)) (tVar j))), fun W k o =>
    pss_cons (ps_if (pt_cmpR op_eq (pe_callB call_len hgl hml PySem.boot_len (pa_cons (pv i hN hv hd hcd) pa_nil hs) (by decide) (by decide) hs (by rfl)) pe_int hb0) (pss_one (ps_ret pe_int)) pss_nil)
      (pss_one (ps_ret (pe_op op_mod (pe_callTy call_int1 hgi hmi PyProof.Rows.boot_int (pa_cons (pe_bm0 PySem.F.plainAttrs_list PySem.F.slot_list_pop PySem.F.type_list_pop mt_pop (pv i hN hv hd hcd) hbase hline) pa_nil hs2) (by decide) (by decide) hs2 (by rfl)) (pv j hNy hvy hdy hcdy)))), fun W D P B N H σ ρ R C q => ?_⟩
  obtain ⟨hi, b, hj, hb, q⟩ := q
  obtain ⟨x1, ex, a, o, rfl, h1, ⟨ns, rfl⟩, h3, h4⟩ := R.ok i _ hi
  obtain ⟨y1, ey, v, rfl, ry⟩ := R.ok j _ hj
  cases ry
  refine ⟨.ref a, ex, .ref a, _, rfl, .inl ⟨_, .inl (.inl h1), rfl⟩, rfl, _, rfl, ite2 (fun _ => ?_) (fun hne => ?_)⟩
  · exact C.rt N H (.int 0) (.v (.int 0)) R.ext (.int 0) (q 0 (Int.le_refl _) hb)
  · have hlen : (ns.map V.int).length ≠ 0 := fun z => hne (by rw [z]; rfl)
    obtain ⟨n, hn⟩ : ∃ n, ns[ns.length - 1]? = some n := by
      rw [List.length_map] at hlen
      exact ⟨ns[ns.length - 1], List.getElem?_eq_getElem (by omega)⟩
    have hlast : (ns.map V.int)[(ns.map V.int).length - 1]? = some (.int n) := by
      rw [List.length_map, List.getElem?_map, hn]
      rfl
    refine ⟨.ref a, ex, .inl ⟨rfl, _, .inl (.inl h1)⟩, a, _, .int n, rfl, rfl, h1, hlast, .inl ⟨n, rfl, .int b, ey, n, b, rfl, rfl, hb, ?_⟩⟩
    have hdl : (ns.map V.int).dropLast = (ns.dropLast).map V.int := by simp
    have hBz : ∀ c, B.H c ≠ none → ¬ B.z c → c ≠ a := fun c n nz z => by
      subst z
      exact h4.elim nz n
    refine C.rt N _ (.int (n % b)) (.v (.int (n % b))) ⟨R.ext.ex, fun c u q => ?_, R.ext.fr, fun c u e nz ny nt => ?_, fun c n => ?_, fun c hc => ?_, R.ext.fl, fun c hc => ?_⟩ (.int _) (q _ (Int.emod_nonneg _ (by omega)) (Int.emod_lt_of_pos _ hb))
    · rw [upd_ne (fun z => by rw [z, h3] at q; cases q)]
      exact R.sub c u q
    · rw [upd_ne (hBz c (by rw [e]; exact nofun) nz)]
      exact R.ext.keep c u e nz ny nt
    · by_cases hc : c = a
      · rw [hc, upd_same]; exact nofun
      · rw [upd_ne hc]; exact R.ext.dom c n
    · by_cases h : c = a
      · rw [h, upd_same]
        exact ⟨_, rfl, ns.dropLast, by rw [hdl]⟩
      · rw [upd_ne h]
        exact R.ext.src c hc
    · obtain ⟨ps, g1, g2⟩ := R.ext.tab c hc
      exact ⟨ps, by rw [upd_ne (fun z => by rw [z, h1] at g1; cases g1)]; exact g1, g2⟩
end
end PD

set_option Elab.async false
set_option linter.all false
set_option maxRecDepth 100000
set_option maxHeartbeats 1000000
/-! A def whose code object is known; the end of a law. -/
namespace PD
open PySem L2 GxR HGx
section
variable {P : Program} {w : World} {K : PySem.W.Frag} {mg : Str → Option Value} {base : Heap} {S : Src}
theorem okDC {x qual : Str} {st : Stmt} {f : Addr} {fd : FuncData} {N ps : List Str} {k : Nat} {P' : PSpec} {p : PTS} (F : Fun K x qual st f fd) (sc : FnScope N ps (defScope st)) (hl : ∀ as Qr Qe, P' as Qr Qe → as.length = ps.length)
    (body : ∀ (cdv : Value) (A : Around) (outer : List Env) (s : Shared) (H : Hp) (E : XK), cdv = fd.code → Room k (A.deeper (PyProof.Rows.envOfC qual (defScope st) s.heap.objs.size f cdv)) → JSs S (cxOf (L2.CX P w) P w K mg base N qual (defScope st) f cdv A outer s H E) (defBody st) p)
    (h : ∀ as Qr Qe, P' as Qr Qe → p (enOf Qr Qe) (begin_ N.length as)) : FnOk P w K mg base (L2.CX P w) (k + 1) f fd ps (spOf K S P') := by
  obtain ⟨oc, od, kV, doc, pm, an, cdv, ct, osl, rfl, lk, hcd⟩ := F.ex
  refine fn_of lk hcd sc (fun vs H Q E hs => ?_) fun A outer s H vs Q E hr hs => ?_
  · obtain ⟨B, as, Qr, Qe, _, R, hp, _⟩ := hs
    have := R.len
    rw [List.length_map] at this
    rw [this]
    exact hl as Qr Qe hp
  · obtain ⟨B, as, Qr, Qe, rfl, R, hp, kr, ke⟩ := hs
    obtain ⟨ts, b1, b2⟩ := body cdv A outer s B.H E rfl hr
    refine ⟨ts _, b1 (fun cls d _ H => E cls d H) (takes_of rfl rfl rfl rfl) (passes_of rfl), ?_⟩
    have hlen : vs.length = as.length := by
      have := R.len
      rw [List.length_map] at this
      exact this
    have R2 := R.start (N.length - vs.length)
    rw [show List.replicate (N.length - vs.length) Sl.un = List.replicate (N.length - as.length) Sl.un by rw [hlen]] at R2
    exact b2 _ _ (enOf Qr Qe) B B.M B.H _ _ R2 ⟨fun N1 H1 σ ρ R1 q => kr N1 H1 _ (.v .none) R1.ext .non q, fun N1 H1 v r x ok q => kr N1 H1 v r x ok q, fun _ _ _ _ _ z => z.elim, fun _ _ _ _ _ z => z.elim, fun c N1 H1 σ ρ R1 q => ke c N1 H1 R1.ext q⟩ (h as Qr Qe hp)
end

/-- the law's own promise -/
def pLaw : PSpec := fun as Qr _ => ∃ ns : List Int, as = [.fz (ns.map PyData.int)] ∧ ns.length ≤ 63 ∧ Qr (.v (.bool true))
theorem law_sp {K : PySem.W.Frag} {cs : List (Addr × Addr)} {H : Hp} {a : Addr} {ns : List Int} (hl : ns.length ≤ 63) (hT : ∀ p ∈ cs, H p.2 = some (.tbl #[])) (hS : SqL K H a (ns.map V.int)) :
    spOf K (drw fun b => b ∈ cs.map (·.2)) pLaw [.ref a] H (fun v _ => v = .bl true) fun _ _ _ => False := by
  have tbl : ∀ b, b ∈ cs.map (·.2) → H b = some (.tbl #[]) := fun b hb => by
    obtain ⟨p, hp, rfl⟩ := List.mem_map.mp hb
    exact hT p hp
  let M : Hp := fun b => if b ∈ cs.map (·.2) then none else if b = a then H a else none
  have hM : Ex M H := fun b o e => by
    show H b = some o
    have e : (if b ∈ cs.map (·.2) then none else if b = a then H a else none) = some o := e
    split at e
    · cases e
    · split at e
      · rename_i h
        rw [h]
        exact e
      · cases e
  have Ma : a ∉ cs.map (·.2) → M a = H a := fun h => by
    show (if a ∈ cs.map (·.2) then none else if a = a then H a else none) = H a
    rw [if_neg h, if_pos rfl]
  have hSM : SqL K M a (ns.map V.int) := by
    rcases hS with (h | ⟨o, h⟩) | h
    · exact .inl (.inl (by rw [Ma fun z => by rw [tbl a z] at h; cases h]; exact h))
    · exact .inl (.inr ⟨o, by rw [Ma fun z => by rw [tbl a z] at h; cases h]; exact h⟩)
    · exact .inr h
  let B : Bs := ⟨fun _ => False, fun _ => False, M, H, M⟩
  have ok : B.Ok (drw fun b => b ∈ cs.map (·.2)) := ⟨hM, fun _ z => z.elim, fun _ z => z.elim, fun _ z => z.elim, fun _ z => z.elim, fun _ z => z.elim, fun b hb => if_pos hb, fun b hb => ⟨#[], tbl b hb, by
    first
      | exact TriplesOk.nil
      | (simp [TriplesOk])
      | (unfold TriplesOk; trivial)⟩⟩
  refine ⟨B, [.fz (ns.map PyData.int)], fun r => r = .v (.bool true), fun _ => False, rfl, ⟨ok, Ext.refl ok (Ex.refl _), rfl, fun i s h => ?_, fun i j s t b ne h1 h2 m1 m2 e1 e2 => ?_⟩, ⟨ns, rfl, hl, rfl⟩, fun N H' v r x hr q => ?_, fun c N H' x z => z⟩
  · cases i with
    | zero =>
      simp at h
      subst h
      exact ⟨some (.ref a), rfl, a, _, rfl, hSM, RpAll.ints⟩
    | succ i => simp at h
  · cases i with
    | zero =>
      simp at h1
      subst h1
      cases m1
    | succ i => simp at h1
  · subst q
    cases hr
    rfl

open PySem.Spec PyProof.Rows in
/-- the tables of the defs at the top are empty when the law is called -/
def Tabs (q : Program) (K : PySem.W.Frag) (h : Heap) : Prop := ∀ (x : Str) (c P : Addr) (d : DefRec), (PyProof.Rows.recsOf q).find? (fun e => e.name == x) = some d → PySem.W.tabIn K x = some (c, P) → PySem.W.CodeHd h c P ∧ h.get? P = some { cls := .none, data := .fields #[] }
open PySem.Spec PyProof.Rows LamX in
theorem walk_ofAll {l : PySem.W.OpenLaw} {n k : Nat} {q : Program} {loose : List Str} {XP : (Str → Option Value) → Heap → Prop} {YP : World → Heap → Prop} {d : DefRec} {K : Params → PySem.W.Frag} {CX : World → CXT} {x : Str}
    (hn : l.most = some n) (hn2 : n ≤ sizeLine) (hdf : d.params.defaults = []) (hr : Room k callerA) (hY : ∀ (w : World) (h : Heap), YP w h → (K w.params).In h)
    (F : ∀ (w : World) (mg : Str → Option Value) (fa : Addr) (h : Heap), YP w h → (K w.params).In h → h.Ns mainGlobals mg → mg d.name = some (.ref fa) → Tabs q (K w.params) h → LawAtS l w (K w.params) (CX w) k n x mg fa h)
    (hCX : ∀ (w : World) (H : Hp) (s : Shared) (e : Value) (s' : Shared), CX w [] H s (fun _ _ _ => False) e s' → False) :
    PySem.W.WalkO q loose XP YP l.row.toRowW d [] (fun f vs => PySem.call f vs) := by
  refine Att.attach_callB hn hdf fun w s₀ s₁ mg mb fa o pm cd doc a vs ns G Y ho hd hcd hmg hobj hints hlen hbits hg => ?_
  have KX := hY w _ Y
  have tabs : Tabs q (K w.params) s₁.heap := fun x c P d hr ht => PySem.W.tab_of G.T KX hr ht
  obtain ⟨fd, cs, sp, hT, nT, C, hb, hsp, hF⟩ := F w mg fa _ Y KX G.T.g hmg tabs
  exact law_callTs KX G.T.g G.T.b G.T.builtins G.T.nolimit hg hT nT C G.T.bmain hobj hints (Nat.le_trans hlen hn2) hr hF hb (fun H hH hS => hsp H a ns hlen hbits hH hS) fun H e s' => hCX w H s₁ e s'
end PD

set_option Elab.async false
set_option linter.all false
set_option maxRecDepth 100000
set_option maxHeartbeats 1000000
/-! More: slices, <= of tuples of ints, a, b, c = x, y, z. -/
namespace PD
open PySem L2 GxR HGx
/-- the items of a slice -/
def cutD (ds : List PyData) (lo hi : Option Int) : List PyData := (ds.drop (HT.sIx ds.length 0 lo)).take (HT.sIx ds.length ds.length hi - HT.sIx ds.length 0 lo)
theorem cut_rp {K : PySem.W.Frag} {M : Hp} {vs : List V} {ds : List PyData} (h : RpAll K M vs ds) (lo hi : Option Int) : RpAll K M (cutV vs lo hi) (cutD ds lo hi) := by
  unfold cutV cutD
  rw [h.length]
  exact (h.drop _).take _
abbrev PTO := PWh → List Sl → (Option Int → List Sl → Prop) → Prop
def SimO (K : PySem.W.Frag) (S : Src) (te : WX → TO) (p : PTO) : Prop := ∀ (W : WX) (wp : PWh) (B : Bs) (N H : Hp) (σ : St) (ρ : List Sl) (Q : Option Int → Hp → Prop) (Q' : Option Int → List Sl → Prop), Rel K S B N H σ ρ → WOk K S B σ W wp → p wp ρ Q' →
  (∀ N' H' v ρ', Rel K S B N' H' σ ρ' → Ex N N' → Q' v ρ' → Q v H') → te W σ H Q
def JO (S : Src) (X : Cx) (e : Option Expr) (p : PTO) : Prop := ∃ te : WX → TO, (∀ W, Takes X W → PO X e (te W)) ∧ SimO X.K S te p
def poNone : PTO := fun _ ρ Q => Q none ρ
def poSome (p : PTE) : PTO := fun wp ρ Q => p wp ρ fun d ρ1 => match d with
  | .int i => Q (some i) ρ1
  | _ => False
section
variable {S : Src} {X : Cx} {e a b c : Expr} {lo hi : Option Expr} {es : List Expr} {pos p2 : Pos} {pa pb : PTE} {pl ph : PTO}
theorem jo_none : JO S X none poNone := ⟨fun _ => tNoPart, fun _ _ => po_none, fun W wp B N H σ ρ Q Q' R hw q k => k N H none ρ R (Ex.refl _) q⟩
theorem jo_some (ha : JE S X e pa) : JO S X (some e) (poSome pa) := by
  obtain ⟨t, a1, a2⟩ := ha
  refine ⟨fun W => tPart (t W), fun W k => po_some (a1 W k), fun W wp B N H σ ρ Q Q' R hw q k => a2 W wp B N H σ ρ _ _ R hw q fun N1 H1 v d ρ1 R1 e1 r q1 => ?_⟩
  cases r with
  | int i => exact ⟨i, rfl, k N1 H1 (some i) ρ1 R1 e1 q1⟩
  | _ => exact q1.elim
def pSlice (p : PTE) (lo hi : PTO) : PTE := fun wp ρ Q => p wp ρ fun d ρ1 => lo wp ρ1 fun l ρ2 => hi wp ρ2 fun u ρ3 => match d with
  | .list ds => Q (.list (cutD ds l u)) ρ3
  | .tuple ds => Q (.tuple (cutD ds l u)) ρ3
  | _ => False
theorem cut_all {ds : List PyData} {lo hi : Option Int} (h : HT.sIx ds.length 0 lo = 0 ∧ HT.sIx ds.length ds.length hi = ds.length) : cutD ds lo hi = ds := by
  unfold cutD
  rw [h.1, h.2]
  simp
theorem je_slice (ha : JE S X e pa) (hl : JO S X lo pl) (hu : JO S X hi ph) : JE S X (.Subscript e (.Slice lo hi none p2) pos) (pSlice pa pl ph) := by
  obtain ⟨t, a1, a2⟩ := ha
  obtain ⟨tl, b1, b2⟩ := hl
  obtain ⟨th, c1, c2⟩ := hu
  refine ⟨fun W => tSl (fun x lo hi H Q => rSlL X.K x lo hi H Q ∨ rSlA X.K x lo hi H Q) (t W) (tl W) (th W), fun W k => pe_slice (sl_list.or sl_tupA) (a1 W k) (b1 W k) (c1 W k), fun W wp B N H σ ρ Q Q' R hw q k => a2 W wp B N H σ ρ _ _ R hw q fun N1 H1 v d ρ1 R1 e1 r q1 => b2 W wp B N1 H1 σ ρ1 _ _ R1 hw q1 fun N2 H2 l ρ2 R2 e2 q2 => c2 W wp B N2 H2 σ ρ2 _ _ R2 hw q2 fun N3 H3 u ρ3 R3 e3 q3 => ?_⟩
  have r3 := (r.up e2).up e3
  cases d with
  | list ds =>
    cases r3 with
    | lst h1 h2 =>
      refine .inl ⟨_, _, rfl, .inl (.inl (R3.sub _ _ h1)), fun p hp => ?_⟩
      exact k _ _ _ _ ρ3 (R3.newM hp) (((e1.trans e2).trans e3).trans (Ex.new (R3.sub.none hp))) (.lst upd_same ((cut_rp h2 l u).up (Ex.new (R3.sub.none hp)))) q3
  | tuple ds =>
    cases r3 with
    | tup h1 h2 =>
      refine .inr ⟨_, _, rfl, ex_t R3.sub h1, fun hw => ?_, fun _ p hp => ?_⟩
      · rw [h2.length] at hw
        have q3 : Q' (.tuple (cutD ds l u)) ρ3 := q3
        rw [cut_all hw] at q3
        exact k N3 H3 _ _ ρ3 R3 ((e1.trans e2).trans e3) (.tup h1 h2) q3
      · exact k _ _ _ _ ρ3 (R3.newM hp) (((e1.trans e2).trans e3).trans (Ex.new (R3.sub.none hp))) (.tup (.inl (.inl upd_same)) ((cut_rp h2 l u).up (Ex.new (R3.sub.none hp)))) q3
  | _ => exact q3.elim
def leT (ns ms : List Int) : Bool := Ob.lexAt (fun j => decide (ns.getD j 0 = ms.getD j 0)) (fun j => decide (ns.getD j 0 ≤ ms.getD j 0)) (decide (ns.length ≤ ms.length)) 0 (min ns.length ms.length)
/-- <= of tuples of ints -/
def gLeT : G2 := fun dx dy Q => match dx, dy with
  | .tuple xs, .tuple ys => ∃ ns ms : List Int, xs = ns.map PyData.int ∧ ys = ms.map PyData.int ∧ Q (.bool (leT ns ms))
  | _, _ => False
theorem s_leT {K : PySem.W.Frag} : R2S K S (rLeT K) gLeT := fun B N H σ ρ x y dx dy Q Q' R rx ry q k => by
  cases rx with
  | tup h1 h2 =>
    cases ry with
    | tup g1 g2 =>
      obtain ⟨ns, ms, e1, e2, q⟩ := q
      subst e1
      subst e2
      have f1 := h2.of_ints
      have f2 := g2.of_ints
      subst f1
      subst f2
      exact ⟨_, _, ns, ms, rfl, rfl, ex_t R.sub h1, ex_t R.sub g1, k N H _ _ R (Ex.refl _) (.bl _) q⟩
    | _ => exact q.elim
  | _ => first | exact q.elim | (cases ry <;> exact q.elim)
theorem c_leT {k : Nat} (hr : Room k X.A) : Cm S X .LtE gLeT := ⟨_, op_leT hr.units0, s_leT⟩
/-- a, b, c = x, y, z with plain local names -/
def qPar3 (i j l : Nat) (q : PTA) : PTS := fun P ρ => q P.ex ρ fun ds ρ1 => match ds with
  | [d, e, f] => P.nx (((ρ1.set i (.v d)).set j (.v e)).set l (.v f))
  | _ => False
theorem js_par3 (i j l : Nat) {x y z : Str} {px py pz pt : Pos} {kt k2 : Nat} {pt2 : Pos} {qs : PTA} (hc : X.calm = true) (hN : X.N.Nodup) (ha : JA S X [a, b, c] qs) (hi : X.N[i]? = some x := by rfl) (hj : X.N[j]? = some y := by rfl) (hl : X.N[l]? = some z := by rfl) (hij : i ≠ j := by decide) (hil : i ≠ l := by decide) (hjl : j ≠ l := by decide)
    (hx : X.env.scope.names.lookup x = some .local := by rfl) (hy : X.env.scope.names.lookup y = some .local := by rfl) (hz : X.env.scope.names.lookup z = some .local := by rfl)
    (hw : swappedStores [.Tuple [.Name x px, .Name y py, .Name z pz] kt pt] (.Tuple [a, b, c] k2 pt2) X.env = pure (some [x, y, z]) := by rfl)
    (hs : swapsWithSole [.Tuple [.Name x px, .Name y py, .Name z pz] kt pt] (.Tuple [a, b, c] k2 pt2) pos.line X.env = pure false := by rfl) :
    JS S X (.Assign [.Tuple [.Name x px, .Name y py, .Name z pz] kt pt] (.Tuple [a, b, c] k2 pt2) pos) (qPar3 i j l qs) := by
  obtain ⟨t, a1, a2⟩ := ha
  refine ⟨fun W => tPar3 i j l (t W), fun W k _ => ps_par3 hc hN hi hj hl hij hil hjl hx hy hz (a1 W k) hw hs, fun W D P B N H σ ρ R C q => a2 W P.ex B N H σ ρ _ _ R C.w q fun N1 H1 vs ds ρ1 R1 _ r q1 => ?_⟩
  unfold qPar3 at q
  match vs, ds, r, q1 with
  | _, [d, e, f], .cons r1 (.cons r2 (.cons r3 .nil)), q1 => exact ⟨_, _, _, rfl, C.nx N1 H1 _ _ (((R1.setV r1).setV r2).setV r3) q1⟩
end
end PD

set_option linter.all false
set_option linter.unusedVariables false
/-! Days and dates: the plain law. -/
namespace Cal
def lp (y : Int) : Int := if (y % 4 = 0 ∧ (y % 100 ≠ 0 ∨ y % 400 = 0)) then 1 else 0
def leap (y : Int) : Bool := decide (y % 4 = 0 ∧ (y % 100 ≠ 0 ∨ y % 400 = 0))
def ml (y m : Int) : Int := if m = 2 then 28 + lp y else if m = 4 ∨ m = 6 ∨ m = 9 ∨ m = 11 then 30 else 31
def bt (m : Int) : Int := if m = 3 then 59 else if m = 4 then 90 else if m = 5 then 120 else if m = 6 then 151 else if m = 7 then 181 else if m = 8 then 212 else if m = 9 then 243 else if m = 10 then 273 else if m = 11 then 304 else if m = 12 then 334 else 365
def bf (y m : Int) : Int := if m ≤ 1 then 0 else if m = 2 then 31 else bt m + lp y
def ny (y : Int) : Int := 365 * y + (y + 3) / 4 - (y + 99) / 100 + (y + 399) / 400
def da (y m d : Int) : Int := ny y + bf y m + d - 1
theorem lp01 (y : Int) : lp y = 0 ∨ lp y = 1 := by unfold lp; split <;> simp
theorem lp_leap (y : Int) : lp y = if leap y = true then 1 else 0 := by
  unfold lp leap
  by_cases h : (y % 4 = 0 ∧ (y % 100 ≠ 0 ∨ y % 400 = 0)) <;> simp [h]
theorem ny_succ (y : Int) : ny (y + 1) = ny y + 365 + lp y := by
  unfold ny lp
  split <;> omega
theorem ny_add (y : Int) : ∀ n : Nat, ny y + 365 * n ≤ ny (y + n)
  | 0 => by simp
  | n + 1 => by
    have ih := ny_add y n
    have h := ny_succ (y + n)
    have e : y + ((n + 1 : Nat) : Int) = y + n + 1 := by omega
    rw [e, h]
    rcases lp01 (y + n) with z | z <;> rw [z] <;> omega
theorem ny_le {y z : Int} (h : y ≤ z) : ny y + 365 * (z - y) ≤ ny z := by
  have := ny_add y (z - y).toNat
  have e : y + ((z - y).toNat : Int) = z := by omega
  rw [e] at this
  omega
theorem ny0 : ny 0 = 0 := by decide
theorem m12 {m : Int} (h1 : 1 ≤ m) (h2 : m ≤ 12) : m = 1 ∨ m = 2 ∨ m = 3 ∨ m = 4 ∨ m = 5 ∨ m = 6 ∨ m = 7 ∨ m = 8 ∨ m = 9 ∨ m = 10 ∨ m = 11 ∨ m = 12 := by omega
theorem bf_succ {y m : Int} (h1 : 1 ≤ m) (h2 : m ≤ 12) : bf y (m + 1) = bf y m + ml y m := by
  rcases m12 h1 h2 with h | h | h | h | h | h | h | h | h | h | h | h <;> subst h <;> simp [bf, ml, bt] <;> omega
theorem bf1 (y : Int) : bf y 1 = 0 := by simp [bf]
theorem bf13 (y : Int) : bf y 13 = 365 + lp y := by simp [bf, bt]
theorem ml_pos (y m : Int) : 28 ≤ ml y m ∧ ml y m ≤ 31 := by
  unfold ml
  have := lp01 y
  split
  · omega
  · split <;> omega
theorem bf_mono {y m : Int} (h1 : 1 ≤ m) : ∀ n : Nat, m + n ≤ 13 → bf y m ≤ bf y (m + n)
  | 0, _ => by simp
  | n + 1, h => by
    have ih := bf_mono (y := y) h1 n (by omega)
    have e : m + ((n + 1 : Nat) : Int) = m + n + 1 := by omega
    rw [e, bf_succ (by omega) (by omega)]
    have := ml_pos y (m + n)
    omega
theorem bf_le {y m k : Int} (h1 : 1 ≤ m) (h : m ≤ k) (h2 : k ≤ 13) : bf y m ≤ bf y k := by
  have := bf_mono (y := y) h1 (k - m).toNat (by omega)
  have e : m + ((k - m).toNat : Int) = k := by omega
  rw [e] at this
  exact this
/-- a date of the calendar -/
def Vd (y m d : Int) : Prop := 0 ≤ y ∧ 1 ≤ m ∧ m ≤ 12 ∧ 1 ≤ d ∧ d ≤ ml y m
theorem Vd.lo {y m d : Int} (h : Vd y m d) : ny y ≤ da y m d := by
  obtain ⟨h0, h1, h2, h3, h4⟩ := h
  have := bf_le (y := y) (m := 1) (k := m) (by omega) h1 (by omega)
  rw [bf1] at this
  unfold da
  omega
theorem Vd.hi {y m d : Int} (h : Vd y m d) : da y m d < ny (y + 1) := by
  obtain ⟨h0, h1, h2, h3, h4⟩ := h
  have e := bf_succ (y := y) h1 h2
  have := bf_le (y := y) (m := m + 1) (k := 13) (by omega) (by omega) (by omega)
  rw [bf13] at this
  have z := ny_succ y
  unfold da
  omega
theorem Vd.uniq {y m d y' m' d' : Int} (h : Vd y m d) (h' : Vd y' m' d') (e : da y m d = da y' m' d') : y = y' ∧ m = m' ∧ d = d' := by
  have a1 := h.lo
  have a2 := h.hi
  have b1 := h'.lo
  have b2 := h'.hi
  have ey : y = y' := by
    rcases Int.lt_trichotomy y y' with z | z | z
    · have := ny_le (y := y + 1) (z := y') (by omega)
      omega
    · exact z
    · have := ny_le (y := y' + 1) (z := y) (by omega)
      omega
  subst ey
  obtain ⟨h0, h1, h2, h3, h4⟩ := h
  obtain ⟨g0, g1, g2, g3, g4⟩ := h'
  unfold da at e
  have em : m = m' := by
    rcases Int.lt_trichotomy m m' with z | z | z
    · have := bf_le (y := y) (m := m + 1) (k := m') (by omega) (by omega) (by omega)
      have := bf_succ (y := y) h1 h2
      omega
    · exact z
    · have := bf_le (y := y) (m := m' + 1) (k := m) (by omega) (by omega) (by omega)
      have := bf_succ (y := y) g1 g2
      omega
  subst em
  exact ⟨rfl, rfl, by omega⟩
/-- the day after -/
theorem Vd.next {y m d : Int} (h : Vd y m d) : (d ≠ ml y m → Vd y m (d + 1) ∧ da y m (d + 1) = da y m d + 1) ∧ (d = ml y m → m ≠ 12 → Vd y (m + 1) 1 ∧ da y (m + 1) 1 = da y m d + 1) ∧ (d = ml y m → m = 12 → Vd (y + 1) 1 1 ∧ da (y + 1) 1 1 = da y m d + 1) := by
  obtain ⟨h0, h1, h2, h3, h4⟩ := h
  refine ⟨fun n => ⟨⟨h0, h1, h2, by omega, by omega⟩, by unfold da; omega⟩, fun e n => ⟨⟨h0, by omega, by omega, by omega, ?_⟩, ?_⟩, fun e n => ⟨⟨by omega, by omega, by omega, by omega, ?_⟩, ?_⟩⟩
  · have := ml_pos y (m + 1); omega
  · unfold da; rw [bf_succ h1 h2]; omega
  · have := ml_pos (y + 1) 1; omega
  · subst n
    have e2 := bf_succ (y := y) h1 h2
    have e3 := bf13 y
    have e4 := ny_succ y
    have e5 := bf1 (y + 1)
    have e2 : bf y 13 = bf y 12 + ml y 12 := e2
    unfold da
    omega
/-- how many of 0, 4, .. are leap years -/
def cn : Nat → Nat
  | 0 => 0
  | i + 1 => cn i + if leap (4 * (i : Int)) = true then 1 else 0
theorem cn_eq : ∀ i : Nat, (cn i : Int) = i - (i + 24) / 25 + (i + 99) / 100
  | 0 => by decide
  | i + 1 => by
    have ih := cn_eq i
    have e : (cn (i + 1) : Int) = cn i + if leap (4 * (i : Int)) = true then 1 else 0 := by
      show ((cn i + if leap (4 * (i : Int)) = true then 1 else 0 : Nat) : Int) = _
      split <;> simp
    rw [e, ih]
    have hb : leap (4 * (i : Int)) = decide (i % 25 ≠ 0 ∨ i % 100 = 0) := by
      unfold leap
      rw [decide_eq_decide]
      omega
    rw [hb]
    have e25 : (i + 1 + 24) / 25 = (i + 24) / 25 + if i % 25 = 0 then 1 else 0 := by split <;> omega
    have e100 : (i + 1 + 99) / 100 = (i + 99) / 100 + if i % 100 = 0 then 1 else 0 := by split <;> omega
    have f25 : (((i + 1 : Nat) : Int) + 24) / 25 = ((i : Int) + 24) / 25 + if i % 25 = 0 then 1 else 0 := by
      have : (((i + 1 + 24) / 25 : Nat) : Int) = (((i + 24) / 25 + if i % 25 = 0 then 1 else 0 : Nat) : Int) := by rw [e25]
      split at this <;> simp_all <;> omega
    have f100 : (((i + 1 : Nat) : Int) + 99) / 100 = ((i : Int) + 99) / 100 + if i % 100 = 0 then 1 else 0 := by
      have : (((i + 1 + 99) / 100 : Nat) : Int) = (((i + 99) / 100 + if i % 100 = 0 then 1 else 0 : Nat) : Int) := by rw [e100]
      split at this <;> simp_all <;> omega
    rw [f25, f100]
    by_cases h : i % 25 = 0
    · by_cases h2 : i % 100 = 0
      · simp [h, h2]; omega
      · simp [h, h2]; omega
    · have h2 : ¬ i % 100 = 0 := by omega
      simp [h, h2]; omega
theorem ny_cn {y : Int} (h : 0 ≤ y) : ny y = 365 * y + cn ((y + 3) / 4).toNat := by
  rw [cn_eq]
  have e : (((y + 3) / 4).toNat : Int) = (y + 3) / 4 := by omega
  rw [e]
  unfold ny
  omega
end Cal

set_option linter.all false
/-! Months and Easter: the plain law. -/
namespace Cal
theorem ny_up (y : Int) (h : 0 ≤ y) : ny y ≤ 366 * y := by
  have key : ∀ n : Nat, ny (n : Int) ≤ 366 * (n : Int) := by
    intro n
    induction n with
    | zero => decide
    | succ n ih =>
      have e : ((n + 1 : Nat) : Int) = (n : Int) + 1 := by omega
      rw [e, ny_succ]
      rcases lp01 (n : Int) with z | z <;> omega
  have := key y.toNat
  have e : ((y.toNat : Nat) : Int) = y := by omega
  rw [e] at this
  exact this
theorem ex_date : ∀ i : Nat, ∃ y m d, Vd y m d ∧ da y m d = (i : Int)
  | 0 => ⟨0, 1, 1, ⟨by decide, by decide, by decide, by decide, by decide⟩, by decide⟩
  | i + 1 => by
    obtain ⟨y, m, d, v, e⟩ := ex_date i
    obtain ⟨n1, n2, n3⟩ := v.next
    by_cases h : d = ml y m
    · by_cases h2 : m = 12
      · exact ⟨_, _, _, (n3 h h2).1, by rw [(n3 h h2).2, e]; omega⟩
      · exact ⟨_, _, _, (n2 h h2).1, by rw [(n2 h h2).2, e]; omega⟩
    · exact ⟨_, _, _, (n1 h).1, by rw [(n1 h).2, e]; omega⟩
theorem ex_date' {i : Int} (h : 0 ≤ i) : ∃ y m d, Vd y m d ∧ da y m d = i := by
  obtain ⟨y, m, d, v, e⟩ := ex_date i.toNat
  exact ⟨y, m, d, v, by rw [e]; omega⟩
/-- the first day of a month, counted from the year 0 -/
def fm (t : Int) : Int := ny (t / 12) + bf (t / 12) (t % 12 + 1)
def mt (t : Int) : Int := ml (t / 12) (t % 12 + 1)
theorem mt_pos (t : Int) : 28 ≤ mt t ∧ mt t ≤ 31 := ml_pos _ _
theorem fm_succ (t : Int) : fm (t + 1) = fm t + mt t := by
  unfold fm mt
  by_cases h : t % 12 = 11
  · have e1 : (t + 1) / 12 = t / 12 + 1 := by omega
    have e2 : (t + 1) % 12 = 0 := by omega
    rw [e1, e2, h]
    have e3 := ny_succ (t / 12)
    have e4 := bf13 (t / 12)
    have e5 := bf_succ (y := t / 12) (m := 12) (by omega) (by omega)
    have e6 := bf1 (t / 12 + 1)
    have e5 : bf (t / 12) 13 = bf (t / 12) 12 + ml (t / 12) 12 := e5
    show ny (t / 12 + 1) + bf (t / 12 + 1) 1 = ny (t / 12) + bf (t / 12) 12 + ml (t / 12) 12
    omega
  · have e1 : (t + 1) / 12 = t / 12 := by omega
    have e2 : (t + 1) % 12 + 1 = t % 12 + 1 + 1 := by omega
    rw [e1, e2, bf_succ (by omega) (by omega)]
    omega
theorem fm_add (t : Int) : ∀ n : Nat, fm t + 28 * n ≤ fm (t + n)
  | 0 => by simp
  | n + 1 => by
    have ih := fm_add t n
    have e : t + ((n + 1 : Nat) : Int) = t + n + 1 := by omega
    have := mt_pos (t + n)
    rw [e, fm_succ]
    omega
theorem fm_le {t u : Int} (h : t ≤ u) : fm t + 28 * (u - t) ≤ fm u := by
  have := fm_add t (u - t).toNat
  have e : t + ((u - t).toNat : Int) = u := by omega
  rw [e] at this
  omega
theorem da_fm {y m d : Int} (h1 : 1 ≤ m) (h2 : m ≤ 12) : da y m d = fm (12 * y + m - 1) + d - 1 ∧ ml y m = mt (12 * y + m - 1) := by
  have e1 : (12 * y + m - 1) / 12 = y := by omega
  have e2 : (12 * y + m - 1) % 12 + 1 = m := by omega
  unfold da fm mt
  rw [e1, e2]
  exact ⟨rfl, rfl⟩
def mn (d l : Int) : Int := if l < d then l else d
def lat (t d : Int) : Int := fm t + mn d (mt t) - 1
theorem lat_da (t d : Int) : da (t / 12) (t % 12 + 1) (mn d (ml (t / 12) (t % 12 + 1))) = lat t d := rfl
theorem lat_vd {t d : Int} (h : 0 ≤ t) (hd : 1 ≤ d) : Vd (t / 12) (t % 12 + 1) (mn d (mt t)) := by
  have := mt_pos t
  refine ⟨by omega, by omega, by omega, ?_, ?_⟩
  · unfold mn; split <;> omega
  · show mn d (mt t) ≤ mt t
    unfold mn; split <;> omega
/-- the day after is not earlier some months later -/
theorem lat_next {y m d y' m' d' n : Int} (v : Vd y m d) (v' : Vd y' m' d') (e : da y' m' d' = da y m d + 1) : lat (12 * y + m - 1 + n) d ≤ lat (12 * y' + m' - 1 + n) d' := by
  obtain ⟨n1, n2, n3⟩ := v.next
  have key : ∀ t u : Int, u = t + 1 → ∀ d, 1 ≤ d → lat t d ≤ lat u 1 := by
    intro t u hu d hd
    subst hu
    unfold lat
    rw [fm_succ]
    have h1 := mt_pos t
    have h2 := mt_pos (t + 1)
    unfold mn
    split <;> split <;> omega
  by_cases h : d = ml y m
  · by_cases h2 : m = 12
    · obtain ⟨w1, w2⟩ := n3 h h2
      obtain ⟨rfl, rfl, rfl⟩ := v'.uniq w1 (e.trans w2.symm)
      exact key _ _ (by omega) _ v.2.2.2.1
    · obtain ⟨w1, w2⟩ := n2 h h2
      obtain ⟨rfl, rfl, rfl⟩ := v'.uniq w1 (e.trans w2.symm)
      exact key _ _ (by omega) _ v.2.2.2.1
  · obtain ⟨w1, w2⟩ := n1 h
    obtain ⟨rfl, rfl, rfl⟩ := v'.uniq w1 (e.trans w2.symm)
    unfold lat mn
    split <;> split <;> omega
/-! ### the date of a day -/
theorem ex_dt {i : Int} (h : 0 ≤ i) : ∃ p : Int × Int × Int, Vd p.1 p.2.1 p.2.2 ∧ da p.1 p.2.1 p.2.2 = i := by
  obtain ⟨y, m, d, v, e⟩ := ex_date' h
  exact ⟨(y, m, d), v, e⟩
noncomputable def dt (i : Int) : Int × Int × Int := if h : 0 ≤ i then Classical.choose (ex_dt h) else (0, 0, 0)
theorem dt_ok {i : Int} (h : 0 ≤ i) : Vd (dt i).1 (dt i).2.1 (dt i).2.2 ∧ da (dt i).1 (dt i).2.1 (dt i).2.2 = i := by
  unfold dt
  rw [dif_pos h]
  exact Classical.choose_spec (ex_dt h)
theorem dt_of {y m d i : Int} (v : Vd y m d) (e : da y m d = i) : (dt i).1 = y ∧ (dt i).2.1 = m ∧ (dt i).2.2 = d := by
  have h : 0 ≤ i := by
    have a := v.lo
    have b := ny_le (y := 0) (z := y) v.1
    rw [ny0] at b
    have := v.1
    omega
  obtain ⟨v', e'⟩ := dt_ok h
  exact v'.uniq v (e'.trans e.symm)
noncomputable def lt (i n : Int) : Int := lat (12 * (dt i).1 + (dt i).2.1 - 1 + n) (dt i).2.2
theorem lt_of {y m d i n : Int} (v : Vd y m d) (e : da y m d = i) : lt i n = lat (12 * y + m - 1 + n) d := by
  obtain ⟨e1, e2, e3⟩ := dt_of v e
  unfold lt
  rw [e1, e2, e3]
theorem lt_next {i n : Int} (h : 0 ≤ i) : lt i n ≤ lt (i + 1) n := by
  obtain ⟨v, e⟩ := dt_ok h
  obtain ⟨v', e'⟩ := dt_ok (i := i + 1) (by omega)
  exact lat_next v v' (by omega)
theorem lt_28 {y m r i n : Int} (v : Vd y m (1 + r)) (e : da y m (1 + r) = i) (h1 : r < 28) : lt i n = fm (12 * y + m - 1 + n) + r := by
  rw [lt_of v e]
  have := mt_pos (12 * y + m - 1 + n)
  unfold lat mn
  split <;> omega
theorem lt_28' {y m r i n k : Int} (v : Vd y m (1 + r)) (e : da y m (1 + r) = i) (h1 : r < 28) (hn : 0 ≤ n) : lt (lt i n) k = fm (12 * y + m - 1 + n + k) + r := by
  have e1 := lt_28 (n := n) v e h1
  obtain ⟨v0, v1, v2, v3, v4⟩ := v
  have hp := mt_pos (12 * y + m - 1 + n)
  have hm : 1 ≤ (12 * y + m - 1 + n) % 12 + 1 := by omega
  have hm2 : (12 * y + m - 1 + n) % 12 + 1 ≤ 12 := by omega
  have d1 := da_fm (y := (12 * y + m - 1 + n) / 12) (d := 1 + r) hm hm2
  have eT : 12 * ((12 * y + m - 1 + n) / 12) + ((12 * y + m - 1 + n) % 12 + 1) - 1 = 12 * y + m - 1 + n := by omega
  rw [eT] at d1
  have v' : Vd ((12 * y + m - 1 + n) / 12) ((12 * y + m - 1 + n) % 12 + 1) (1 + r) := ⟨by omega, hm, hm2, v3, by rw [d1.2]; omega⟩
  have e' : da ((12 * y + m - 1 + n) / 12) ((12 * y + m - 1 + n) % 12 + 1) (1 + r) = lt i n := by rw [d1.1, e1]; omega
  rw [lt_28 v' e' h1, eT]
theorem lt_pos {i n : Int} (h : 0 ≤ i) (hn : 0 ≤ n) : i ≤ lt i n + 31 ∧ 0 ≤ lt i n := by
  obtain ⟨v, e⟩ := dt_ok h
  obtain ⟨v0, v1, v2, v3, v4⟩ := v
  have d1 := da_fm (y := (dt i).1) (d := (dt i).2.2) v1 v2
  have f := fm_le (t := 12 * (dt i).1 + (dt i).2.1 - 1) (u := 12 * (dt i).1 + (dt i).2.1 - 1 + n) (by omega)
  have p := mt_pos (12 * (dt i).1 + (dt i).2.1 - 1 + n)
  have p2 := mt_pos (12 * (dt i).1 + (dt i).2.1 - 1)
  have g := fm_le (t := 0) (u := 12 * (dt i).1 + (dt i).2.1 - 1 + n) (by omega)
  have g0 : fm 0 = 0 := by decide
  have d2 := d1.1
  have d3 := d1.2
  unfold lt lat mn
  split <;> constructor <;> omega
/-! ### Easter -/
def eNum (y : Int) : Int := (19 * (y % 19) + 15 + y / 100 - y / 100 / 4 - (8 * (y / 100) + 13) / 25) % 30
def eNum' (y : Int) : Int := if eNum y = 29 ∨ (eNum y = 28 ∧ 10 < y % 19) then eNum y - 1 else eNum y
def ea (y : Int) : Int := da y 3 21 + eNum' y + 7 - ((da y 3 21 + eNum' y + 5) % 7 + 1) % 7
def elH (y : Int) : Int := (19 * (y % 19) + y / 100 - y / 100 / 4 - (y / 100 - (y / 100 + 8) / 25 + 1) / 3 + 15) % 30
def elK (y : Int) : Int := (32 + 2 * (y / 100 % 4) + 2 * (y % 100 / 4) - elH y - y % 4) % 7
def elN (y : Int) : Int := elH y + elK y - 7 * ((y % 19 + 11 * elH y + 22 * elK y) / 451) + 114
def chk (y : Int) : Bool := decide (3 ≤ elN y / 31) && decide (elN y / 31 ≤ 4) && decide (elN y % 31 + 1 ≤ ml y (elN y / 31)) && (elN y / 31 == 4 || decide (22 ≤ elN y % 31 + 1)) && (elN y / 31 == 3 || decide (elN y % 31 + 1 ≤ 25)) &&
  (ea y == da y (elN y / 31) (elN y % 31 + 1)) && ((ea y + 5) % 7 == 6) && decide (0 ≤ ea y) && decide (ea y ≤ 1000000)
theorem chk_all : (List.range 2738).all (fun k => chk (k : Int)) = true := by decide +kernel
theorem chk_at {y : Int} (h0 : 0 ≤ y) (h1 : y ≤ 2737) : chk y = true := by
  have := List.all_eq_true.mp chk_all y.toNat (List.mem_range.mpr (by omega))
  have e : ((y.toNat : Nat) : Int) = y := by omega
  rw [e] at this
  exact this
end Cal

set_option Elab.async false
set_option linter.all false
/-! Specs. -/
namespace K06
open PySem PD Cal
def v_LAST_DAY : PyData := .int 1000000
def v_LAST_YEAR : PyData := .int 2737
def v_LENGTHS : PyData := .tuple [.int 31, .int 28, .int 31, .int 30, .int 31, .int 30, .int 31, .int 31, .int 30, .int 31, .int 30, .int 31]
/-- a whole number between the two -/
def isNum (d : PyData) (lo hi : Int) : Bool := match d with
  | .int i => decide (lo ≤ i) && decide (i ≤ hi)
  | _ => false
section
variable (c_DocketError c_OutOfRange : Addr)
def sp_is_number (c_DocketError c_OutOfRange : Addr) : PSpec := fun as Qr Qe => ∃ d lo hi, as = [.v d, .v (.int lo), .v (.int hi)] ∧ Qr (.v (.bool (isNum d lo hi)))
def sp_is_day (c_DocketError c_OutOfRange : Addr) : PSpec := fun as Qr Qe => ∃ d, as = [.v d] ∧ Qr (.v (.bool (isNum d 0 1000000)))
def sp_check_day (c_DocketError c_OutOfRange : Addr) : PSpec := fun as Qr Qe => ∃ d, as = [.v d] ∧ (isNum d 0 1000000 = true → Qr (.v .none)) ∧ (isNum d 0 1000000 = false → Qe (.ref c_OutOfRange))
def sp_weekday_of (c_DocketError c_OutOfRange : Addr) : PSpec := fun as Qr Qe => ∃ i, as = [.v (.int i)] ∧ Qr (.v (.int ((i + 5) % 7)))
def sp_weekday (c_DocketError c_OutOfRange : Addr) : PSpec := fun as Qr Qe => ∃ i, as = [.v (.int i)] ∧ (isNum (.int i) 0 1000000 = true → Qr (.v (.int ((i + 5) % 7)))) ∧ (isNum (.int i) 0 1000000 = false → Qe (.ref c_OutOfRange))
def sp_is_long (c_DocketError c_OutOfRange : Addr) : PSpec := fun as Qr Qe => ∃ y, as = [.v (.int y)] ∧ Qr (.v (.bool (leap y)))
def sp_length_of (c_DocketError c_OutOfRange : Addr) : PSpec := fun as Qr Qe => ∃ y m, as = [.v (.int y), .v (.int m)] ∧ 1 ≤ m ∧ m ≤ 12 ∧ Qr (.v (.int (ml y m)))
def sp_check_year (c_DocketError c_OutOfRange : Addr) : PSpec := fun as Qr Qe => ∃ d, as = [.v d] ∧ (isNum d 0 2737 = true → Qr (.v .none)) ∧ (isNum d 0 2737 = false → Qe (.ref c_OutOfRange))
def sp_new_year (c_DocketError c_OutOfRange : Addr) : PSpec := fun as Qr Qe => ∃ y, as = [.v (.int y)] ∧ -10 ≤ y ∧ y ≤ 100000 ∧ Qr (.v (.int (ny y)))
def sp_day_at (c_DocketError c_OutOfRange : Addr) : PSpec := fun as Qr Qe => ∃ y m d, as = [.v (.int y), .v (.int m), .v (.int d)] ∧ 0 ≤ y ∧ y ≤ 100000 ∧ 1 ≤ m ∧ m ≤ 12 ∧ Qr (.v (.int (da y m d)))
def sp_date_at (c_DocketError c_OutOfRange : Addr) : PSpec := fun as Qr Qe => ∃ i, as = [.v (.int i)] ∧ 0 ≤ i ∧ i ≤ 1000000 ∧ ∀ y m d, Vd y m d → da y m d = i → Qr (.v (.tuple [.int y, .int m, .int d]))
def sp_date_of (c_DocketError c_OutOfRange : Addr) : PSpec := fun as Qr Qe => ∃ i, as = [.v (.int i)] ∧ (isNum (.int i) 0 1000000 = true → ∀ y m d, Vd y m d → da y m d = i → Qr (.v (.tuple [.int y, .int m, .int d]))) ∧ (isNum (.int i) 0 1000000 = false → Qe (.ref c_OutOfRange))
def sp__law_draws (c_DocketError c_OutOfRange : Addr) : PSpec := fun as Qr Qe => ∃ ns : List Int, as = [.fz (ns.map PyData.int)] ∧ ns.length ≤ 63 ∧ ∀ ms : List Int, Qr (.own (ms.map PyData.int))
def sp__law_take (c_DocketError c_OutOfRange : Addr) : PSpec := fun as Qr Qe => ∃ b : Int, as = [.src, .v (.int b)] ∧ 0 < b ∧ ∀ r : Int, 0 ≤ r → r < b → Qr (.v (.int r))
/-- data of a certain depth -/
def dep : Nat → PyData → Bool
  | _, .none => true
  | _, .bool _ => true
  | _, .int _ => true
  | _, .str x => decide (x.length ≤ 1000)
  | k + 1, .list ds => decide (ds.length ≤ 1000000) && ds.all (dep k)
  | k + 1, .tuple ds => decide (ds.length ≤ 1000000) && ds.all (dep k)
  | _, _ => false
def spSame (k : Nat) : PSpec := fun as Qr Qe => ∃ d, as = [.v d, .v d] ∧ dep k d = true ∧ Qr (.v (.bool true))
def sp__law_same (c_DocketError c_OutOfRange : Addr) : PSpec := spSame 11
def sp__law_leap (c_DocketError c_OutOfRange : Addr) : PSpec := fun as Qr Qe => ∃ y, as = [.v (.int y)] ∧ Qr (.v (.bool (leap y)))
def sp__law_length (c_DocketError c_OutOfRange : Addr) : PSpec := fun as Qr Qe => ∃ y m, as = [.v (.int y), .v (.int m)] ∧ 1 ≤ m ∧ m ≤ 12 ∧ Qr (.v (.int (ml y m)))
def sp_later_by (c_DocketError c_OutOfRange : Addr) : PSpec := fun as Qr Qe => ∃ i n, as = [.v (.int i), .v (.int n)] ∧ 0 ≤ i ∧ i ≤ 1000000 ∧ 0 ≤ n ∧ n ≤ 1000 ∧ Qr (.v (.int (lt i n)))
def sp_months_later (c_DocketError c_OutOfRange : Addr) : PSpec := fun as Qr Qe => ∃ i n, as = [.v (.int i), .v (.int n)] ∧ ((isNum (.int i) 0 1000000 && isNum (.int n) 0 1000 && decide (lt i n ≤ 1000000)) = true → Qr (.v (.int (lt i n)))) ∧ ((isNum (.int i) 0 1000000 && isNum (.int n) 0 1000 && decide (lt i n ≤ 1000000)) = false → Qe (.ref c_OutOfRange))
def sp_easter_day (c_DocketError c_OutOfRange : Addr) : PSpec := fun as Qr Qe => ∃ y, as = [.v (.int y)] ∧ 0 ≤ y ∧ y ≤ 2737 ∧ Qr (.v (.int (ea y)))
def sp_easter (c_DocketError c_OutOfRange : Addr) : PSpec := fun as Qr Qe => ∃ y, as = [.v (.int y)] ∧ (isNum (.int y) 0 2737 = true → Qr (.v (.int (ea y)))) ∧ (isNum (.int y) 0 2737 = false → Qe (.ref c_OutOfRange))
def sp__law_ahead (c_DocketError c_OutOfRange : Addr) : PSpec := fun as Qr Qe => ∃ y, as = [.v (.int y)] ∧ Qr (.v (.int (ny y)))
def sp__law_date (c_DocketError c_OutOfRange : Addr) : PSpec := fun as Qr Qe => ∃ i, as = [.v (.int i)] ∧ 0 ≤ i ∧ i ≤ 1000000 ∧ Qr (.v (.tuple [.int (dt i).1, .int (dt i).2.1, .int (dt i).2.2]))
def sp__law_number (c_DocketError c_OutOfRange : Addr) : PSpec := fun as Qr Qe => ∃ y m d, as = [.v (.int y), .v (.int m), .v (.int d)] ∧ 1 ≤ m ∧ m ≤ 12 ∧ Qr (.v (.int (da y m d)))
def sp__law_later (c_DocketError c_OutOfRange : Addr) : PSpec := fun as Qr Qe => ∃ i n, as = [.v (.int i), .v (.int n)] ∧ 0 ≤ i ∧ i ≤ 1000000 ∧ 0 ≤ n ∧ n ≤ 2000 ∧ Qr (.v (.int (lt i n)))
def sp__law_easter (c_DocketError c_OutOfRange : Addr) : PSpec := fun as Qr Qe => ∃ y, as = [.v (.int y)] ∧ 0 ≤ y ∧ y ≤ 2737 ∧ Qr (.v (.int (ea y)))
/-- what is told of a day so many months later -/
noncomputable def due (i n : Int) : PyData := if lt i n ≤ 1000000 then .int (lt i n) else .str "range"
def sp__law_told (c_DocketError c_OutOfRange : Addr) : PSpec := fun as Qr Qe => ∃ i n, as = [.v (.int i), .v (.int n)] ∧ ((isNum (.int i) 0 1000000 && isNum (.int n) 0 1000) = true → Qr (.v (due i n))) ∧ ((isNum (.int i) 0 1000000 && isNum (.int n) 0 1000) = false → Qr (.v (.str "range")))
def sp__law_feast (c_DocketError c_OutOfRange : Addr) : PSpec := fun as Qr Qe => ∃ y, as = [.v (.int y)] ∧ (isNum (.int y) 0 2737 = true → Qr (.v (.int (ea y)))) ∧ (isNum (.int y) 0 2737 = false → Qr (.v (.str "range")))
def sp__law_due (c_DocketError c_OutOfRange : Addr) : PSpec := fun as Qr Qe => ∃ i n, as = [.v (.int i), .v (.int n)] ∧ 0 ≤ i ∧ i ≤ 1000000 ∧ 0 ≤ n ∧ n ≤ 2000 ∧ Qr (.v (due i n))
end
end K06

set_option Elab.async false
set_option linter.all false
set_option maxRecDepth 100000
/-! The readings of k06. -/
namespace K06
open PySem PD
def rd_is_number (K : PySem.W.Frag) (c_DocketError : Addr) (c_OutOfRange : Addr) : PTS :=
  (qRet (pER (pAndV (pIsi "int" (pName 0)) (pAndV (pNotV (pIsi "bool" (pName 0))) (pChain gLe gLe (pName 1) (pName 0) (pName 2))))))
def rd_is_day (K : PySem.W.Frag) (c_DocketError : Addr) (c_OutOfRange : Addr) : PTS :=
  (qRet (pCall (sp_is_number c_DocketError c_OutOfRange) (pcCons (pName 0) (pcCons (pC (.int 0)) (pcCons (pC v_LAST_DAY) pcNil)))))
def rd_check_day (K : PySem.W.Frag) (c_DocketError : Addr) (c_OutOfRange : Addr) : PTS :=
  (qIf (pNot (pTru (pRE (pCall (sp_is_day c_DocketError c_OutOfRange) (pcCons (pName 0) pcNil))))) (qRaise c_OutOfRange) qNx)
def rd_weekday_of (K : PySem.W.Frag) (c_DocketError : Addr) (c_OutOfRange : Addr) : PTS :=
  (qRet (pER (pBin gMod (pBin gAdd (pName 0) (pC (.int 5))) (pC (.int 7)))))
def rd_weekday (K : PySem.W.Frag) (c_DocketError : Addr) (c_OutOfRange : Addr) : PTS :=
  (qSeq (qDrop (pCall (sp_check_day c_DocketError c_OutOfRange) (pcCons (pName 0) pcNil)))
  (qRet (pCall (sp_weekday_of c_DocketError c_OutOfRange) (pcCons (pName 0) pcNil))))
def rd_is_long (K : PySem.W.Frag) (c_DocketError : Addr) (c_OutOfRange : Addr) : PTS :=
  (qRet (pER (pAndV (pBin gEq (pBin gMod (pName 0) (pC (.int 4))) (pC (.int 0))) (pOrV (pBin gNe (pBin gMod (pName 0) (pC (.int 100))) (pC (.int 0))) (pBin gEq (pBin gMod (pName 0) (pC (.int 400))) (pC (.int 0)))))))
def rd_length_of (K : PySem.W.Frag) (c_DocketError : Addr) (c_OutOfRange : Addr) : PTS :=
  (qRet (pER (pBin gAdd (pBin gIx (pC v_LENGTHS) (pBin gSub (pName 1) (pC (.int 1)))) (pCB gInt (pCons (pAndV (pBin gEq (pName 1) (pC (.int 2))) (pRE (pCall (sp_is_long c_DocketError c_OutOfRange) (pcCons (pName 0) pcNil)))) pNil)))))
def rd_check_year (K : PySem.W.Frag) (c_DocketError : Addr) (c_OutOfRange : Addr) : PTS :=
  (qIf (pNot (pTru (pRE (pCall (sp_is_number c_DocketError c_OutOfRange) (pcCons (pName 0) (pcCons (pC (.int 0)) (pcCons (pC v_LAST_YEAR) pcNil))))))) (qRaise c_OutOfRange) qNx)
def rd_new_year (K : PySem.W.Frag) (c_DocketError : Addr) (c_OutOfRange : Addr) : PTS :=
  (qRet (pER (pBin gAdd (pBin gSub (pBin gAdd (pBin gMul (pC (.int 365)) (pName 0)) (pBin gDiv (pBin gAdd (pName 0) (pC (.int 3))) (pC (.int 4)))) (pBin gDiv (pBin gAdd (pName 0) (pC (.int 99))) (pC (.int 100)))) (pBin gDiv (pBin gAdd (pName 0) (pC (.int 399))) (pC (.int 400))))))
def rd_day_at (K : PySem.W.Frag) (c_DocketError : Addr) (c_OutOfRange : Addr) : PTS :=
  (qSeq (qSet 3 (pER (pGx (fun _ => True) fSum [] [4] (piRng2 (pCons (pC (.int 1)) (pCons (pName 1) pNil))) (gtName 4) ptYes (pRE (pCall (sp_length_of c_DocketError c_OutOfRange) (pcCons (pName 0) (pcCons (pName 4) pcNil)))))))
  (qRet (pER (pBin gSub (pBin gAdd (pBin gAdd (pRE (pCall (sp_new_year c_DocketError c_OutOfRange) (pcCons (pName 0) pcNil))) (pName 3)) (pName 2)) (pC (.int 1))))))
def rd_date_at (K : PySem.W.Frag) (c_DocketError : Addr) (c_OutOfRange : Addr) : PTS :=
  (qSeq (qSet 1 (pER (pBin gDiv (pBin gMul (pName 0) (pC (.int 400))) (pC (.int 146097)))))
  (qSeq (qWhile (pTest (pBin gGt (pRE (pCall (sp_new_year c_DocketError c_OutOfRange) (pcCons (pName 1) pcNil))) (pName 0))) (qAug 1 (gI0 fun i j => .int (i - j)) (pC (.int 1))))
  (qSeq (qWhile (pTest (pBin gLe (pRE (pCall (sp_new_year c_DocketError c_OutOfRange) (pcCons (pBin gAdd (pName 1) (pC (.int 1))) pcNil))) (pName 0))) (qAug 1 (gI0 fun i j => .int (i + j)) (pC (.int 1))))
  (qSeq (qSet 2 (pER (pBin gSub (pName 0) (pRE (pCall (sp_new_year c_DocketError c_OutOfRange) (pcCons (pName 1) pcNil))))))
  (qSeq (qSet 3 (pER (pC (.int 1))))
  (qSeq (qWhile (pTest (pBin gGe (pName 2) (pRE (pCall (sp_length_of c_DocketError c_OutOfRange) (pcCons (pName 1) (pcCons (pName 3) pcNil)))))) (qSeq (qAug 2 (gI0 fun i j => .int (i - j)) (pRE (pCall (sp_length_of c_DocketError c_OutOfRange) (pcCons (pName 1) (pcCons (pName 3) pcNil)))))
  (qAug 3 (gI0 fun i j => .int (i + j)) (pC (.int 1)))))
  (qRet (pER (pTup (pCons (pName 1) (pCons (pName 3) (pCons (pBin gAdd (pName 2) (pC (.int 1))) pNil))))))))))))
def rd_date_of (K : PySem.W.Frag) (c_DocketError : Addr) (c_OutOfRange : Addr) : PTS :=
  (qSeq (qDrop (pCall (sp_check_day c_DocketError c_OutOfRange) (pcCons (pName 0) pcNil)))
  (qRet (pCall (sp_date_at c_DocketError c_OutOfRange) (pcCons (pName 0) pcNil))))
def rd_later_by (K : PySem.W.Frag) (c_DocketError : Addr) (c_OutOfRange : Addr) : PTS :=
  (qSeq (qAsg (pRE (pCall (sp_date_at c_DocketError c_OutOfRange) (pcCons (pName 0) pcNil))) (gtTup 3 (gtCons (gtName 2) (gtCons (gtName 3) (gtCons (gtName 4) gtNil)))))
  (qSeq (qSet 5 (pER (pBin gAdd (pBin gSub (pBin gAdd (pBin gMul (pC (.int 12)) (pName 2)) (pName 3)) (pC (.int 1))) (pName 1))))
  (qSeq (qSet 6 (pCall (sp_length_of c_DocketError c_OutOfRange) (pcCons (pBin gDiv (pName 5) (pC (.int 12))) (pcCons (pBin gAdd (pBin gMod (pName 5) (pC (.int 12))) (pC (.int 1))) pcNil))))
  (qRet (pCall (sp_day_at c_DocketError c_OutOfRange) (pcCons (pBin gDiv (pName 5) (pC (.int 12))) (pcCons (pBin gAdd (pBin gMod (pName 5) (pC (.int 12))) (pC (.int 1))) (pcCons (pCB (gI2 fun i j => .int (if j < i then j else i)) (pCons (pName 4) (pCons (pName 6) pNil))) pcNil))))))))
def rd_months_later (K : PySem.W.Frag) (c_DocketError : Addr) (c_OutOfRange : Addr) : PTS :=
  (qSeq (qDrop (pCall (sp_check_day c_DocketError c_OutOfRange) (pcCons (pName 0) pcNil)))
  (qSeq (qIf (pNot (pTru (pRE (pCall (sp_is_number c_DocketError c_OutOfRange) (pcCons (pName 1) (pcCons (pC (.int 0)) (pcCons (pC (.int 1000)) pcNil))))))) (qRaise c_OutOfRange) qNx)
  (qSeq (qSet 2 (pCall (sp_later_by c_DocketError c_OutOfRange) (pcCons (pName 0) (pcCons (pName 1) pcNil))))
  (qSeq (qIf (pTest (pBin gGt (pName 2) (pC v_LAST_DAY))) (qRaise c_OutOfRange) qNx)
  (qRet (pER (pName 2)))))))
def rd_easter_day (K : PySem.W.Frag) (c_DocketError : Addr) (c_OutOfRange : Addr) : PTS :=
  (qSeq (qPar 1 2 (pCons (pBin gMod (pName 0) (pC (.int 19))) (pCons (pBin gDiv (pName 0) (pC (.int 100))) pNil)))
  (qSeq (qSet 3 (pER (pBin gMod (pBin gSub (pBin gSub (pBin gAdd (pBin gAdd (pBin gMul (pC (.int 19)) (pName 1)) (pC (.int 15))) (pName 2)) (pBin gDiv (pName 2) (pC (.int 4)))) (pBin gDiv (pBin gAdd (pBin gMul (pC (.int 8)) (pName 2)) (pC (.int 13))) (pC (.int 25)))) (pC (.int 30)))))
  (qSeq (qIf (pOr (pTest (pBin gEq (pName 3) (pC (.int 29)))) (pAnd (pTest (pBin gEq (pName 3) (pC (.int 28)))) (pTest (pBin gGt (pName 1) (pC (.int 10)))))) (qAug 3 (gI0 fun i j => .int (i - j)) (pC (.int 1))) qNx)
  (qSeq (qSet 4 (pER (pBin gAdd (pRE (pCall (sp_day_at c_DocketError c_OutOfRange) (pcCons (pName 0) (pcCons (pC (.int 3)) (pcCons (pC (.int 21)) pcNil))))) (pName 3))))
  (qRet (pER (pBin gSub (pBin gAdd (pName 4) (pC (.int 7))) (pBin gMod (pBin gAdd (pRE (pCall (sp_weekday_of c_DocketError c_OutOfRange) (pcCons (pName 4) pcNil))) (pC (.int 1))) (pC (.int 7))))))))))
def rd_easter (K : PySem.W.Frag) (c_DocketError : Addr) (c_OutOfRange : Addr) : PTS :=
  (qSeq (qDrop (pCall (sp_check_year c_DocketError c_OutOfRange) (pcCons (pName 0) pcNil)))
  (qRet (pCall (sp_easter_day c_DocketError c_OutOfRange) (pcCons (pName 0) pcNil))))
def rd__law_draws (K : PySem.W.Frag) (c_DocketError : Addr) (c_OutOfRange : Addr) : PTS :=
  (qSeq (qSet 1 (pLst pNil))
  (qSeq (qFor (piFz 0) (gtName 2) (qSeq (qSet 3 (pER (pCB (gI1 fun i => .int (if i < 0 then -i else i)) (pCons (pName 2) pNil))))
  (qSeq (qIf (pTest (pBin gLt (pName 3) (pBin gPow (pC (.int 10)) (pC (.int 18))))) (qSeq (qSet 4 (pER (pBin gMod (pCB gInt (pCons (pBin gAdd (pBin gMul (pName 3) (pC (.int 48271))) (pC (.int 11))) pNil)) (pC (.int 2147483647)))))
  (qSeq (qDrop (pER (pMt 1 gAppend (pCons (pBin gMod (pCB gInt (pCons (pBin gAdd (pBin gMul (pName 4) (pC (.int 69621))) (pName 3)) pNil)) (pC (.int 2147483629))) pNil))))
  (qSeq (qDrop (pER (pMt 1 gAppend (pCons (pBin gMod (pCB gInt (pCons (pBin gAdd (pName 4) (pBin gDiv (pName 3) (pC (.int 7)))) pNil)) (pC (.int 1000003))) pNil))))
  (qSet 3 (pER (pC (.int 0))))))) qNx)
  (qFor (piRng1 (pCons (pC (.int 60)) pNil)) (gtName 5) (qIf (pTest (pBin gGt (pName 3) (pC (.int 0)))) (qSeq (qDrop (pER (pMt 1 gAppend (pCons (pBin gMod (pCB gInt (pCons (pName 3) pNil)) (pC (.int 997))) pNil))))
  (qSet 3 (pER (pBin gDiv (pName 3) (pC (.int 997)))))) qNx)))))
  (qSeq (qSet 6 (pER (pC (.int 1))))
  (qSeq (qIf (pTest (pBin gGt (pLenN 0) (pC (.int 0)))) (qSet 6 (pER (pBin gAdd (pC (.int 1)) (pCB (gI1 fun i => .int (if i < 0 then -i else i)) (pCons (pIxN 0 (pC (.int 0))) pNil))))) qNx)
  (qSeq (qFor (piRng1 (pCons (pC (.int 900)) pNil)) (gtName 5) (qSeq (qSet 6 (pER (pBin gMod (pCB gInt (pCons (pBin gAdd (pBin gMul (pName 6) (pC (.int 48271))) (pC (.int 69621))) pNil)) (pC (.int 2147483647)))))
  (qDrop (pER (pMt 1 gAppend (pCons (pBin gDiv (pName 6) (pC (.int 5))) pNil))))))
  (qRet (pLstRev (pName 1))))))))
def rd__law_take (K : PySem.W.Frag) (c_DocketError : Addr) (c_OutOfRange : Addr) : PTS :=
  (qTake 0 1)
def rd__law_same (K : PySem.W.Frag) (c_DocketError : Addr) (c_OutOfRange : Addr) (sp : PSpec) : PTS :=
  (qSeq (qIf (pOr (pTest (pBin gIs (pName 1) (pC .none))) (pTest (pBin gIs (pName 0) (pC .none)))) (qRet (pER (pAndV (pBin gIs (pName 1) (pC .none)) (pBin gIs (pName 0) (pC .none))))) qNx)
  (qSeq (qIf (pOr (pTru (pIsi "tuple" (pName 1))) (pTru (pIsi "list" (pName 1)))) (qSeq (qIf (pOr (pTest (pBin gNe (pIsi "tuple" (pName 1)) (pIsi "tuple" (pName 0)))) (pTest (pBin gNe (pIsi "list" (pName 1)) (pIsi "list" (pName 0))))) (qRet (pER (pC (.bool false)))) qNx)
  (qSeq (qIf (pTest (pBin gNe (pCB gLen (pCons (pName 0) pNil)) (pCB gLen (pCons (pName 1) pNil)))) (qRet (pER (pC (.bool false)))) qNx)
  (qSeq (qFor (piRng1 (pCons (pCB gLen (pCons (pName 1) pNil)) pNil)) (gtName 2) (qIf (pNot (pTru (pRE (pCall sp (pcCons (pIxN 0 (pName 2)) (pcCons (pIxN 1 (pName 2)) pcNil)))))) (qRet (pER (pC (.bool false)))) qNx))
  (qRet (pER (pC (.bool true))))))) qNx)
  (qSeq (qIf (pTest (pBin gNe (pIsi "bool" (pName 1)) (pIsi "bool" (pName 0)))) (qRet (pER (pC (.bool false)))) qNx)
  (qSeq (qIf (pOr (pTest (pBin gNe (pIsi "int" (pName 1)) (pIsi "int" (pName 0)))) (pTest (pBin gNe (pIsi "str" (pName 1)) (pIsi "str" (pName 0))))) (qRet (pER (pC (.bool false)))) qNx)
  (qRet (pER (pBin gEq (pName 0) (pName 1))))))))
def rd__law_leap (K : PySem.W.Frag) (c_DocketError : Addr) (c_OutOfRange : Addr) : PTS :=
  (qRet (pER (pOrV (pAndV (pBin gEq (pBin gMod (pName 0) (pC (.int 4))) (pC (.int 0))) (pBin gNe (pBin gMod (pName 0) (pC (.int 100))) (pC (.int 0)))) (pBin gEq (pBin gMod (pName 0) (pC (.int 400))) (pC (.int 0))))))
def rd__law_length (K : PySem.W.Frag) (c_DocketError : Addr) (c_OutOfRange : Addr) : PTS :=
  (qRet (pER (pBin gIx (pRE (pLst (pCons (pC (.int 31)) (pCons (pBin gAdd (pC (.int 28)) (pCB gInt (pCons (pRE (pCall (sp__law_leap c_DocketError c_OutOfRange) (pcCons (pName 0) pcNil))) pNil))) (pCons (pC (.int 31)) (pCons (pC (.int 30)) (pCons (pC (.int 31)) (pCons (pC (.int 30)) (pCons (pC (.int 31)) (pCons (pC (.int 31)) (pCons (pC (.int 30)) (pCons (pC (.int 31)) (pCons (pC (.int 30)) (pCons (pC (.int 31)) pNil)))))))))))))) (pBin gSub (pName 1) (pC (.int 1))))))
def rd__law_ahead (K : PySem.W.Frag) (c_DocketError : Addr) (c_OutOfRange : Addr) : PTS :=
  (qRet (pER (pBin gAdd (pBin gSub (pBin gAdd (pBin gMul (pC (.int 365)) (pName 0)) (pBin gDiv (pBin gAdd (pName 0) (pC (.int 3))) (pC (.int 4)))) (pBin gDiv (pBin gAdd (pName 0) (pC (.int 99))) (pC (.int 100)))) (pBin gDiv (pBin gAdd (pName 0) (pC (.int 399))) (pC (.int 400))))))
def rd__law_date (K : PySem.W.Frag) (c_DocketError : Addr) (c_OutOfRange : Addr) : PTS :=
  (qSeq (qSet 1 (pER (pBin gDiv (pName 0) (pC (.int 366)))))
  (qSeq (qFor (piRng1 (pCons (pC (.int 12)) pNil)) (gtName 2) (qIf (pTest (pBin gLe (pRE (pCall (sp__law_ahead c_DocketError c_OutOfRange) (pcCons (pBin gAdd (pName 1) (pC (.int 1))) pcNil))) (pName 0))) (qSet 1 (pER (pBin gAdd (pName 1) (pC (.int 1))))) qNx))
  (qSeq (qSet 3 (pER (pBin gSub (pName 0) (pRE (pCall (sp__law_ahead c_DocketError c_OutOfRange) (pcCons (pName 1) pcNil))))))
  (qSeq (qSet 4 (pER (pC (.int 1))))
  (qSeq (qFor (piRng1 (pCons (pC (.int 11)) pNil)) (gtName 2) (qIf (pTest (pBin gGe (pName 3) (pRE (pCall (sp__law_length c_DocketError c_OutOfRange) (pcCons (pName 1) (pcCons (pName 4) pcNil)))))) (qSeq (qSet 3 (pER (pBin gSub (pName 3) (pRE (pCall (sp__law_length c_DocketError c_OutOfRange) (pcCons (pName 1) (pcCons (pName 4) pcNil)))))))
  (qSet 4 (pER (pBin gAdd (pName 4) (pC (.int 1)))))) qNx))
  (qRet (pER (pTup (pCons (pName 1) (pCons (pName 4) (pCons (pBin gAdd (pName 3) (pC (.int 1))) pNil)))))))))))
def rd__law_number (K : PySem.W.Frag) (c_DocketError : Addr) (c_OutOfRange : Addr) : PTS :=
  (qRet (pER (pBin gSub (pBin gAdd (pBin gAdd (pRE (pCall (sp__law_ahead c_DocketError c_OutOfRange) (pcCons (pName 0) pcNil))) (pCB gSum (pCons (pRE (pLc [] [3] (piRng2 (pCons (pC (.int 1)) (pCons (pName 1) pNil))) (gtName 3) ptYes (pRE (pCall (sp__law_length c_DocketError c_OutOfRange) (pcCons (pName 0) (pcCons (pName 3) pcNil)))))) pNil))) (pName 2)) (pC (.int 1)))))
def rd__law_later (K : PySem.W.Frag) (c_DocketError : Addr) (c_OutOfRange : Addr) : PTS :=
  (qSeq (qAsg (pRE (pCall (sp__law_date c_DocketError c_OutOfRange) (pcCons (pName 0) pcNil))) (gtTup 3 (gtCons (gtName 2) (gtCons (gtName 3) (gtCons (gtName 4) gtNil)))))
  (qSeq (qSet 5 (pER (pBin gAdd (pBin gSub (pBin gAdd (pBin gMul (pC (.int 12)) (pName 2)) (pName 3)) (pC (.int 1))) (pName 1))))
  (qSeq (qSet 6 (pCall (sp__law_length c_DocketError c_OutOfRange) (pcCons (pBin gDiv (pName 5) (pC (.int 12))) (pcCons (pBin gAdd (pBin gMod (pName 5) (pC (.int 12))) (pC (.int 1))) pcNil))))
  (qRet (pCall (sp__law_number c_DocketError c_OutOfRange) (pcCons (pBin gDiv (pName 5) (pC (.int 12))) (pcCons (pBin gAdd (pBin gMod (pName 5) (pC (.int 12))) (pC (.int 1))) (pcCons (pCB (gI2 fun i j => .int (if j < i then j else i)) (pCons (pName 4) (pCons (pName 6) pNil))) pcNil))))))))
def rd__law_easter (K : PySem.W.Frag) (c_DocketError : Addr) (c_OutOfRange : Addr) : PTS :=
  (qSeq (qPar3 1 2 3 (pCons (pBin gMod (pName 0) (pC (.int 19))) (pCons (pBin gDiv (pName 0) (pC (.int 100))) (pCons (pBin gMod (pName 0) (pC (.int 100))) pNil))))
  (qSeq (qSet 4 (pER (pBin gMod (pBin gAdd (pBin gSub (pBin gSub (pBin gAdd (pBin gMul (pC (.int 19)) (pName 1)) (pName 2)) (pBin gDiv (pName 2) (pC (.int 4)))) (pBin gDiv (pBin gAdd (pBin gSub (pName 2) (pBin gDiv (pBin gAdd (pName 2) (pC (.int 8))) (pC (.int 25)))) (pC (.int 1))) (pC (.int 3)))) (pC (.int 15))) (pC (.int 30)))))
  (qSeq (qSet 5 (pER (pBin gMod (pBin gSub (pBin gSub (pBin gAdd (pBin gAdd (pC (.int 32)) (pBin gMul (pC (.int 2)) (pBin gMod (pName 2) (pC (.int 4))))) (pBin gMul (pC (.int 2)) (pBin gDiv (pName 3) (pC (.int 4))))) (pName 4)) (pBin gMod (pName 3) (pC (.int 4)))) (pC (.int 7)))))
  (qSeq (qSet 6 (pER (pBin gDiv (pBin gAdd (pBin gAdd (pName 1) (pBin gMul (pC (.int 11)) (pName 4))) (pBin gMul (pC (.int 22)) (pName 5))) (pC (.int 451)))))
  (qSeq (qSet 7 (pER (pBin gAdd (pBin gSub (pBin gAdd (pName 4) (pName 5)) (pBin gMul (pC (.int 7)) (pName 6))) (pC (.int 114)))))
  (qRet (pCall (sp__law_number c_DocketError c_OutOfRange) (pcCons (pName 0) (pcCons (pBin gDiv (pName 7) (pC (.int 31))) (pcCons (pBin gAdd (pBin gMod (pName 7) (pC (.int 31))) (pC (.int 1))) pcNil))))))))))
def rd__law_told (K : PySem.W.Frag) (c_DocketError : Addr) (c_OutOfRange : Addr) : PTS :=
  (qTry K (.ref c_DocketError) 2 (qRet (pCall (sp_months_later c_DocketError c_OutOfRange) (pcCons (pName 0) (pcCons (pName 1) pcNil)))) (fun a cls => (qRet (pER (pBin gIx (pRE (pLst (pCons (pC (.str "other")) (pCons (pC (.str "range")) pNil)))) (pCB gInt (pCons (pIsE K 2 a c_OutOfRange cls) pNil)))))))
def rd__law_feast (K : PySem.W.Frag) (c_DocketError : Addr) (c_OutOfRange : Addr) : PTS :=
  (qTry K (.ref c_DocketError) 1 (qRet (pCall (sp_easter c_DocketError c_OutOfRange) (pcCons (pName 0) pcNil))) (fun a cls => (qRet (pER (pBin gIx (pRE (pLst (pCons (pC (.str "other")) (pCons (pC (.str "range")) pNil)))) (pCB gInt (pCons (pIsE K 1 a c_OutOfRange cls) pNil)))))))
def rd__law_due (K : PySem.W.Frag) (c_DocketError : Addr) (c_OutOfRange : Addr) : PTS :=
  (qSeq (qIf (pTest (pBin gGt (pRE (pCall (sp__law_later c_DocketError c_OutOfRange) (pcCons (pName 0) (pcCons (pName 1) pcNil)))) (pC (.int 1000000)))) (qRet (pER (pC (.str "range")))) qNx)
  (qRet (pCall (sp__law_later c_DocketError c_OutOfRange) (pcCons (pName 0) (pcCons (pName 1) pcNil)))))
def rd_law (K : PySem.W.Frag) (c_DocketError : Addr) (c_OutOfRange : Addr) : PTS :=
  (qSeq (qSetSrc 1 (pCall (sp__law_draws c_DocketError c_OutOfRange) (pcFz 0 pcNil)))
  (qSeq (qFor (piRng1 (pCons (pC (.int 6)) pNil)) (gtName 2) (qSeq (qSet 3 (pCall (sp__law_take c_DocketError c_OutOfRange) (pcSrc 1 (pcCons (pC (.int 2738)) pcNil))))
  (qSeq (qSet 4 (pER (pBin gAdd (pC (.int 1)) (pRE (pCall (sp__law_take c_DocketError c_OutOfRange) (pcSrc 1 (pcCons (pBin gIx (pRE (pLst (pCons (pC (.int 12)) (pCons (pC (.int 11)) pNil)))) (pCB gInt (pCons (pBin gEq (pName 3) (pC (.int 2737))) pNil))) pcNil)))))))
  (qSeq (qSet 5 (pCall (sp__law_number c_DocketError c_OutOfRange) (pcCons (pName 3) (pcCons (pName 4) (pcCons (pBin gSub (pRE (pCall (sp__law_length c_DocketError c_OutOfRange) (pcCons (pName 3) (pcCons (pName 4) pcNil)))) (pRE (pCall (sp__law_take c_DocketError c_OutOfRange) (pcSrc 1 (pcCons (pBin gIx (pRE (pLst (pCons (pC (.int 3)) (pCons (pC (.int 28)) pNil)))) (pRE (pCall (sp__law_take c_DocketError c_OutOfRange) (pcSrc 1 (pcCons (pC (.int 2)) pcNil))))) pcNil))))) pcNil)))))
  (qSeq (qIf (pTest (pBin gGt (pName 5) (pC (.int 1000000)))) (qSet 5 (pER (pBin gSub (pC (.int 1000000)) (pRE (pCall (sp__law_take c_DocketError c_OutOfRange) (pcSrc 1 (pcCons (pC (.int 5)) pcNil))))))) qNx)
  (qSeq (qSet 6 (pER (pBin gIx (pRE (pLst (pCons (pRE (pCall (sp__law_take c_DocketError c_OutOfRange) (pcSrc 1 (pcCons (pC (.int 14)) pcNil)))) (pCons (pRE (pCall (sp__law_take c_DocketError c_OutOfRange) (pcSrc 1 (pcCons (pC (.int 1001)) pcNil)))) (pCons (pBin gMul (pC (.int 12)) (pRE (pCall (sp__law_take c_DocketError c_OutOfRange) (pcSrc 1 (pcCons (pC (.int 80)) pcNil))))) pNil))))) (pRE (pCall (sp__law_take c_DocketError c_OutOfRange) (pcSrc 1 (pcCons (pC (.int 3)) pcNil)))))))
  (qSeq (qIf (pNot (pTru (pRE (pCall (sp__law_same c_DocketError c_OutOfRange) (pcCons (pRE (pCall (sp__law_told c_DocketError c_OutOfRange) (pcCons (pName 5) (pcCons (pName 6) pcNil)))) (pcCons (pRE (pCall (sp__law_due c_DocketError c_OutOfRange) (pcCons (pName 5) (pcCons (pName 6) pcNil)))) pcNil)))))) (qRet (pER (pC (.bool false)))) qNx)
  (qSeq (qIf (pAnd (pTest (pBin gLt (pName 5) (pC (.int 1000000)))) (pTest (pBin gNe (pRE (pCall (sp__law_due c_DocketError c_OutOfRange) (pcCons (pBin gAdd (pName 5) (pC (.int 1))) (pcCons (pName 6) pcNil)))) (pC (.str "range"))))) (qIf (pTest (pBin gLt (pRE (pCall (sp_months_later c_DocketError c_OutOfRange) (pcCons (pBin gAdd (pName 5) (pC (.int 1))) (pcCons (pName 6) pcNil)))) (pRE (pCall (sp_months_later c_DocketError c_OutOfRange) (pcCons (pName 5) (pcCons (pName 6) pcNil)))))) (qRet (pER (pC (.bool false)))) qNx) qNx)
  (qSeq (qSet 7 (pER (pBin gAdd (pBin gAdd (pBin gSub (pName 5) (pBin gIx (pRE (pCall (sp__law_date c_DocketError c_OutOfRange) (pcCons (pName 5) pcNil))) (pC (.int 2)))) (pC (.int 1))) (pRE (pCall (sp__law_take c_DocketError c_OutOfRange) (pcSrc 1 (pcCons (pC (.int 28)) pcNil)))))))
  (qSeq (qSet 8 (pCall (sp__law_take c_DocketError c_OutOfRange) (pcSrc 1 (pcCons (pC (.int 40)) pcNil))))
  (qSeq (qIf (pAnd (pTest (pBin gLe (pName 7) (pC (.int 1000000)))) (pTest (pBin gLe (pRE (pCall (sp__law_later c_DocketError c_OutOfRange) (pcCons (pName 7) (pcCons (pBin gAdd (pName 8) (pC (.int 7))) pcNil)))) (pC (.int 1000000))))) (qIf (pTest (pBin gNe (pRE (pCall (sp_months_later c_DocketError c_OutOfRange) (pcCons (pRE (pCall (sp_months_later c_DocketError c_OutOfRange) (pcCons (pName 7) (pcCons (pName 8) pcNil)))) (pcCons (pC (.int 7)) pcNil)))) (pRE (pCall (sp_months_later c_DocketError c_OutOfRange) (pcCons (pName 7) (pcCons (pBin gAdd (pName 8) (pC (.int 7))) pcNil)))))) (qRet (pER (pC (.bool false)))) qNx) qNx)
  (qSeq (qIf (pOr (pNot (pTru (pRE (pCall (sp__law_same c_DocketError c_OutOfRange) (pcCons (pRE (pCall (sp__law_feast c_DocketError c_OutOfRange) (pcCons (pName 3) pcNil))) (pcCons (pRE (pCall (sp__law_easter c_DocketError c_OutOfRange) (pcCons (pName 3) pcNil))) pcNil)))))) (pTest (pBin gNe (pRE (pCall (sp_weekday c_DocketError c_OutOfRange) (pcCons (pRE (pCall (sp_easter c_DocketError c_OutOfRange) (pcCons (pName 3) pcNil))) pcNil))) (pC (.int 6))))) (qRet (pER (pC (.bool false)))) qNx)
  (qIf (pNot (pTest (pChain gLeT gLeT (pTup (pCons (pC (.int 3)) (pCons (pC (.int 22)) pNil))) (pSlice (pRE (pCall (sp_date_of c_DocketError c_OutOfRange) (pcCons (pRE (pCall (sp_easter c_DocketError c_OutOfRange) (pcCons (pName 3) pcNil))) pcNil))) (poSome (pC (.int 1))) poNone) (pTup (pCons (pC (.int 4)) (pCons (pC (.int 25)) pNil)))))) (qRet (pER (pC (.bool false)))) qNx)))))))))))))
  (qSeq (qSet 9 (pLst (pCons (pRE (pCall (sp__law_told c_DocketError c_OutOfRange) (pcCons (pNeg (pC (.int 1))) (pcCons (pC (.int 1)) pcNil)))) (pCons (pRE (pCall (sp__law_told c_DocketError c_OutOfRange) (pcCons (pC (.int 1000001)) (pcCons (pC (.int 0)) pcNil)))) (pCons (pRE (pCall (sp__law_told c_DocketError c_OutOfRange) (pcCons (pC (.int 5)) (pcCons (pNeg (pC (.int 1))) pcNil)))) (pCons (pRE (pCall (sp__law_told c_DocketError c_OutOfRange) (pcCons (pC (.int 5)) (pcCons (pC (.int 1001)) pcNil)))) (pCons (pRE (pCall (sp__law_told c_DocketError c_OutOfRange) (pcCons (pC (.int 1000000)) (pcCons (pC (.int 1)) pcNil)))) (pCons (pRE (pCall (sp__law_feast c_DocketError c_OutOfRange) (pcCons (pNeg (pC (.int 1))) pcNil))) (pCons (pRE (pCall (sp__law_feast c_DocketError c_OutOfRange) (pcCons (pC (.int 2738)) pcNil))) pNil)))))))))
  (qRet (pER (pAndV (pBin gEq (pName 9) (pBin gMul (pRE (pLst (pCons (pC (.str "range")) pNil))) (pC (.int 7)))) (pRE (pCall (sp__law_same c_DocketError c_OutOfRange) (pcCons (pRE (pCall (sp__law_told c_DocketError c_OutOfRange) (pcCons (pC (.int 1000000)) (pcCons (pC (.int 0)) pcNil)))) (pcCons (pC (.int 1000000)) pcNil))))))))))
end K06

set_option Elab.async false
set_option linter.all false
set_option maxRecDepth 100000
set_option maxHeartbeats 1000000
/-! The walk of k06. -/
namespace K06
open PySem PySem.Spec L2 GxR HGx PD
def topS (i : Nat) : Stmt := PySem.Challenge.pw_docketloom_k06_months_and_easter.main.body.getD i (.Pass ⟨0, 0, 0, 0⟩)
abbrev s_is_number : Stmt := topS 4
theorem sc_is_number : FnScope ["value", "least", "most"] ["value", "least", "most"] (defScope s_is_number) := ⟨rfl, rfl, rfl, by decide +kernel, rfl, by decide +kernel, by decide +kernel⟩
abbrev s_is_day : Stmt := topS 7
theorem sc_is_day : FnScope ["value"] ["value"] (defScope s_is_day) := ⟨rfl, rfl, rfl, by decide +kernel, rfl, by decide +kernel, by decide +kernel⟩
abbrev s_check_day : Stmt := topS 8
theorem sc_check_day : FnScope ["day"] ["day"] (defScope s_check_day) := ⟨rfl, rfl, rfl, by decide +kernel, rfl, by decide +kernel, by decide +kernel⟩
abbrev s_weekday_of : Stmt := topS 9
theorem sc_weekday_of : FnScope ["day"] ["day"] (defScope s_weekday_of) := ⟨rfl, rfl, rfl, by decide +kernel, rfl, by decide +kernel, by decide +kernel⟩
abbrev s_weekday : Stmt := topS 10
theorem sc_weekday : FnScope ["day"] ["day"] (defScope s_weekday) := ⟨rfl, rfl, rfl, by decide +kernel, rfl, by decide +kernel, by decide +kernel⟩
abbrev s_is_long : Stmt := topS 14
theorem sc_is_long : FnScope ["year"] ["year"] (defScope s_is_long) := ⟨rfl, rfl, rfl, by decide +kernel, rfl, by decide +kernel, by decide +kernel⟩
abbrev s_length_of : Stmt := topS 15
theorem sc_length_of : FnScope ["year", "month"] ["year", "month"] (defScope s_length_of) := ⟨rfl, rfl, rfl, by decide +kernel, rfl, by decide +kernel, by decide +kernel⟩
abbrev s_check_year : Stmt := topS 16
theorem sc_check_year : FnScope ["year"] ["year"] (defScope s_check_year) := ⟨rfl, rfl, rfl, by decide +kernel, rfl, by decide +kernel, by decide +kernel⟩
abbrev s_new_year : Stmt := topS 17
theorem sc_new_year : FnScope ["year"] ["year"] (defScope s_new_year) := ⟨rfl, rfl, rfl, by decide +kernel, rfl, by decide +kernel, by decide +kernel⟩
abbrev s_day_at : Stmt := topS 18
theorem sc_day_at : FnScope ["year", "month", "day", "before", "other"] ["year", "month", "day"] (defScope s_day_at) := ⟨rfl, rfl, rfl, by decide +kernel, rfl, by decide +kernel, by decide +kernel⟩
abbrev s_date_at : Stmt := topS 19
theorem sc_date_at : FnScope ["day", "year", "left", "month"] ["day"] (defScope s_date_at) := ⟨rfl, rfl, rfl, by decide +kernel, rfl, by decide +kernel, by decide +kernel⟩
abbrev s_date_of : Stmt := topS 20
theorem sc_date_of : FnScope ["day"] ["day"] (defScope s_date_of) := ⟨rfl, rfl, rfl, by decide +kernel, rfl, by decide +kernel, by decide +kernel⟩
abbrev s_later_by : Stmt := topS 21
theorem sc_later_by : FnScope ["day", "months", "year", "month", "number", "total", "length"] ["day", "months"] (defScope s_later_by) := ⟨rfl, rfl, rfl, by decide +kernel, rfl, by decide +kernel, by decide +kernel⟩
abbrev s_months_later : Stmt := topS 22
theorem sc_months_later : FnScope ["day", "months", "found"] ["day", "months"] (defScope s_months_later) := ⟨rfl, rfl, rfl, by decide +kernel, rfl, by decide +kernel, by decide +kernel⟩
abbrev s_easter_day : Stmt := topS 23
theorem sc_easter_day : FnScope ["year", "golden", "century", "number", "moon"] ["year"] (defScope s_easter_day) := ⟨rfl, rfl, rfl, by decide +kernel, rfl, by decide +kernel, by decide +kernel⟩
abbrev s_easter : Stmt := topS 24
theorem sc_easter : FnScope ["year"] ["year"] (defScope s_easter) := ⟨rfl, rfl, rfl, by decide +kernel, rfl, by decide +kernel, by decide +kernel⟩
abbrev s__law_draws : Stmt := topS 26
theorem sc__law_draws : FnScope ["script", "draws", "cell", "number", "first", "k", "seed"] ["script"] (defScope s__law_draws) := ⟨rfl, rfl, rfl, by decide +kernel, rfl, by decide +kernel, by decide +kernel⟩
abbrev s__law_take : Stmt := topS 27
theorem sc__law_take : FnScope ["draws", "bound"] ["draws", "bound"] (defScope s__law_take) := ⟨rfl, rfl, rfl, by decide +kernel, rfl, by decide +kernel, by decide +kernel⟩
abbrev s__law_same : Stmt := topS 28
theorem sc__law_same : FnScope ["actual", "due", "k"] ["actual", "due"] (defScope s__law_same) := ⟨rfl, rfl, rfl, by decide +kernel, rfl, by decide +kernel, by decide +kernel⟩
abbrev s__law_leap : Stmt := topS 29
theorem sc__law_leap : FnScope ["year"] ["year"] (defScope s__law_leap) := ⟨rfl, rfl, rfl, by decide +kernel, rfl, by decide +kernel, by decide +kernel⟩
abbrev s__law_length : Stmt := topS 30
theorem sc__law_length : FnScope ["year", "month"] ["year", "month"] (defScope s__law_length) := ⟨rfl, rfl, rfl, by decide +kernel, rfl, by decide +kernel, by decide +kernel⟩
abbrev s__law_ahead : Stmt := topS 31
theorem sc__law_ahead : FnScope ["year"] ["year"] (defScope s__law_ahead) := ⟨rfl, rfl, rfl, by decide +kernel, rfl, by decide +kernel, by decide +kernel⟩
abbrev s__law_date : Stmt := topS 32
theorem sc__law_date : FnScope ["day", "year", "turn", "left", "month"] ["day"] (defScope s__law_date) := ⟨rfl, rfl, rfl, by decide +kernel, rfl, by decide +kernel, by decide +kernel⟩
abbrev s__law_number : Stmt := topS 33
theorem sc__law_number : FnScope ["year", "month", "day", "k"] ["year", "month", "day"] (defScope s__law_number) := ⟨rfl, rfl, rfl, by decide +kernel, rfl, by decide +kernel, by decide +kernel⟩
abbrev s__law_later : Stmt := topS 34
theorem sc__law_later : FnScope ["day", "months", "year", "month", "number", "total", "length"] ["day", "months"] (defScope s__law_later) := ⟨rfl, rfl, rfl, by decide +kernel, rfl, by decide +kernel, by decide +kernel⟩
abbrev s__law_easter : Stmt := topS 35
theorem sc__law_easter : FnScope ["year", "a", "b", "c", "h", "k", "m", "number"] ["year"] (defScope s__law_easter) := ⟨rfl, rfl, rfl, by decide +kernel, rfl, by decide +kernel, by decide +kernel⟩
abbrev s__law_told : Stmt := topS 36
theorem sc__law_told : FnScope ["day", "months", "e"] ["day", "months"] (defScope s__law_told) := ⟨rfl, rfl, rfl, by decide +kernel, rfl, by decide +kernel, by decide +kernel⟩
abbrev s__law_feast : Stmt := topS 37
theorem sc__law_feast : FnScope ["year", "e"] ["year"] (defScope s__law_feast) := ⟨rfl, rfl, rfl, by decide +kernel, rfl, by decide +kernel, by decide +kernel⟩
abbrev s__law_due : Stmt := topS 38
theorem sc__law_due : FnScope ["day", "months"] ["day", "months"] (defScope s__law_due) := ⟨rfl, rfl, rfl, by decide +kernel, rfl, by decide +kernel, by decide +kernel⟩
abbrev s_law : Stmt := topS 39
theorem sc_law : FnScope ["script", "draws", "turn", "year", "month", "day", "months", "low", "more", "told"] ["script"] (defScope s_law) := ⟨rfl, rfl, rfl, by decide +kernel, rfl, by decide +kernel, by decide +kernel⟩
structure G (K : PySem.W.Frag) (mg : Str → Option Value) (base : Heap) (tb : Addr → Prop) where
  a_is_number : Addr
  f_is_number : FuncData
  F_is_number : Fun K "is_number" "is_number" s_is_number a_is_number f_is_number
  b_is_number : Binds K f_is_number ["value", "least", "most"] []
  g_is_number : mg "is_number" = some (.ref a_is_number)
  a_is_day : Addr
  f_is_day : FuncData
  F_is_day : Fun K "is_day" "is_day" s_is_day a_is_day f_is_day
  b_is_day : Binds K f_is_day ["value"] []
  g_is_day : mg "is_day" = some (.ref a_is_day)
  a_check_day : Addr
  f_check_day : FuncData
  F_check_day : Fun K "check_day" "check_day" s_check_day a_check_day f_check_day
  b_check_day : Binds K f_check_day ["day"] []
  g_check_day : mg "check_day" = some (.ref a_check_day)
  a_weekday_of : Addr
  f_weekday_of : FuncData
  F_weekday_of : Fun K "weekday_of" "weekday_of" s_weekday_of a_weekday_of f_weekday_of
  b_weekday_of : Binds K f_weekday_of ["day"] []
  g_weekday_of : mg "weekday_of" = some (.ref a_weekday_of)
  a_weekday : Addr
  f_weekday : FuncData
  F_weekday : Fun K "weekday" "weekday" s_weekday a_weekday f_weekday
  b_weekday : Binds K f_weekday ["day"] []
  g_weekday : mg "weekday" = some (.ref a_weekday)
  a_is_long : Addr
  f_is_long : FuncData
  F_is_long : Fun K "is_long" "is_long" s_is_long a_is_long f_is_long
  b_is_long : Binds K f_is_long ["year"] []
  g_is_long : mg "is_long" = some (.ref a_is_long)
  a_length_of : Addr
  f_length_of : FuncData
  F_length_of : Fun K "length_of" "length_of" s_length_of a_length_of f_length_of
  b_length_of : Binds K f_length_of ["year", "month"] []
  g_length_of : mg "length_of" = some (.ref a_length_of)
  a_check_year : Addr
  f_check_year : FuncData
  F_check_year : Fun K "check_year" "check_year" s_check_year a_check_year f_check_year
  b_check_year : Binds K f_check_year ["year"] []
  g_check_year : mg "check_year" = some (.ref a_check_year)
  a_new_year : Addr
  f_new_year : FuncData
  F_new_year : Fun K "new_year" "new_year" s_new_year a_new_year f_new_year
  b_new_year : Binds K f_new_year ["year"] []
  g_new_year : mg "new_year" = some (.ref a_new_year)
  a_day_at : Addr
  f_day_at : FuncData
  F_day_at : Fun K "day_at" "day_at" s_day_at a_day_at f_day_at
  b_day_at : Binds K f_day_at ["year", "month", "day"] []
  g_day_at : mg "day_at" = some (.ref a_day_at)
  ct_day_at : Addr
  tt_day_at : Addr
  e_day_at : f_day_at.code = .ref ct_day_at
  T_day_at : TabB base mg ct_day_at tt_day_at
  t_day_at : tb tt_day_at
  a_date_at : Addr
  f_date_at : FuncData
  F_date_at : Fun K "date_at" "date_at" s_date_at a_date_at f_date_at
  b_date_at : Binds K f_date_at ["day"] []
  g_date_at : mg "date_at" = some (.ref a_date_at)
  a_date_of : Addr
  f_date_of : FuncData
  F_date_of : Fun K "date_of" "date_of" s_date_of a_date_of f_date_of
  b_date_of : Binds K f_date_of ["day"] []
  g_date_of : mg "date_of" = some (.ref a_date_of)
  a_later_by : Addr
  f_later_by : FuncData
  F_later_by : Fun K "later_by" "later_by" s_later_by a_later_by f_later_by
  b_later_by : Binds K f_later_by ["day", "months"] []
  g_later_by : mg "later_by" = some (.ref a_later_by)
  a_months_later : Addr
  f_months_later : FuncData
  F_months_later : Fun K "months_later" "months_later" s_months_later a_months_later f_months_later
  b_months_later : Binds K f_months_later ["day", "months"] []
  g_months_later : mg "months_later" = some (.ref a_months_later)
  a_easter_day : Addr
  f_easter_day : FuncData
  F_easter_day : Fun K "easter_day" "easter_day" s_easter_day a_easter_day f_easter_day
  b_easter_day : Binds K f_easter_day ["year"] []
  g_easter_day : mg "easter_day" = some (.ref a_easter_day)
  a_easter : Addr
  f_easter : FuncData
  F_easter : Fun K "easter" "easter" s_easter a_easter f_easter
  b_easter : Binds K f_easter ["year"] []
  g_easter : mg "easter" = some (.ref a_easter)
  a__law_draws : Addr
  f__law_draws : FuncData
  F__law_draws : Fun K "_law_draws" "_law_draws" s__law_draws a__law_draws f__law_draws
  b__law_draws : Binds K f__law_draws ["script"] []
  g__law_draws : mg "_law_draws" = some (.ref a__law_draws)
  a__law_take : Addr
  f__law_take : FuncData
  F__law_take : Fun K "_law_take" "_law_take" s__law_take a__law_take f__law_take
  b__law_take : Binds K f__law_take ["draws", "bound"] []
  g__law_take : mg "_law_take" = some (.ref a__law_take)
  a__law_same : Addr
  f__law_same : FuncData
  F__law_same : Fun K "_law_same" "_law_same" s__law_same a__law_same f__law_same
  b__law_same : Binds K f__law_same ["actual", "due"] []
  g__law_same : mg "_law_same" = some (.ref a__law_same)
  a__law_leap : Addr
  f__law_leap : FuncData
  F__law_leap : Fun K "_law_leap" "_law_leap" s__law_leap a__law_leap f__law_leap
  b__law_leap : Binds K f__law_leap ["year"] []
  g__law_leap : mg "_law_leap" = some (.ref a__law_leap)
  a__law_length : Addr
  f__law_length : FuncData
  F__law_length : Fun K "_law_length" "_law_length" s__law_length a__law_length f__law_length
  b__law_length : Binds K f__law_length ["year", "month"] []
  g__law_length : mg "_law_length" = some (.ref a__law_length)
  a__law_ahead : Addr
  f__law_ahead : FuncData
  F__law_ahead : Fun K "_law_ahead" "_law_ahead" s__law_ahead a__law_ahead f__law_ahead
  b__law_ahead : Binds K f__law_ahead ["year"] []
  g__law_ahead : mg "_law_ahead" = some (.ref a__law_ahead)
  a__law_date : Addr
  f__law_date : FuncData
  F__law_date : Fun K "_law_date" "_law_date" s__law_date a__law_date f__law_date
  b__law_date : Binds K f__law_date ["day"] []
  g__law_date : mg "_law_date" = some (.ref a__law_date)
  a__law_number : Addr
  f__law_number : FuncData
  F__law_number : Fun K "_law_number" "_law_number" s__law_number a__law_number f__law_number
  b__law_number : Binds K f__law_number ["year", "month", "day"] []
  g__law_number : mg "_law_number" = some (.ref a__law_number)
  a__law_later : Addr
  f__law_later : FuncData
  F__law_later : Fun K "_law_later" "_law_later" s__law_later a__law_later f__law_later
  b__law_later : Binds K f__law_later ["day", "months"] []
  g__law_later : mg "_law_later" = some (.ref a__law_later)
  a__law_easter : Addr
  f__law_easter : FuncData
  F__law_easter : Fun K "_law_easter" "_law_easter" s__law_easter a__law_easter f__law_easter
  b__law_easter : Binds K f__law_easter ["year"] []
  g__law_easter : mg "_law_easter" = some (.ref a__law_easter)
  a__law_told : Addr
  f__law_told : FuncData
  F__law_told : Fun K "_law_told" "_law_told" s__law_told a__law_told f__law_told
  b__law_told : Binds K f__law_told ["day", "months"] []
  g__law_told : mg "_law_told" = some (.ref a__law_told)
  a__law_feast : Addr
  f__law_feast : FuncData
  F__law_feast : Fun K "_law_feast" "_law_feast" s__law_feast a__law_feast f__law_feast
  b__law_feast : Binds K f__law_feast ["year"] []
  g__law_feast : mg "_law_feast" = some (.ref a__law_feast)
  a__law_due : Addr
  f__law_due : FuncData
  F__law_due : Fun K "_law_due" "_law_due" s__law_due a__law_due f__law_due
  b__law_due : Binds K f__law_due ["day", "months"] []
  g__law_due : mg "_law_due" = some (.ref a__law_due)
  a_law : Addr
  f_law : FuncData
  F_law : Fun K "law" "law" s_law a_law f_law
  b_law : Binds K f_law ["script"] []
  g_law : mg "law" = some (.ref a_law)
  z_abs : mg "abs" = none
  z_bool : mg "bool" = none
  z_int : mg "int" = none
  z_isinstance : mg "isinstance" = none
  z_len : mg "len" = none
  z_list : mg "list" = none
  z_min : mg "min" = none
  z_range : mg "range" = none
  z_reversed : mg "reversed" = none
  z_str : mg "str" = none
  z_sum : mg "sum" = none
  z_tuple : mg "tuple" = none
  w_LAST_DAY : V
  u_LAST_DAY : Value
  m_LAST_DAY : mg "LAST_DAY" = some u_LAST_DAY
  r_LAST_DAY : RelV w_LAST_DAY u_LAST_DAY
  d_LAST_DAY : ∀ M, Rp K M w_LAST_DAY v_LAST_DAY
  w_LAST_YEAR : V
  u_LAST_YEAR : Value
  m_LAST_YEAR : mg "LAST_YEAR" = some u_LAST_YEAR
  r_LAST_YEAR : RelV w_LAST_YEAR u_LAST_YEAR
  d_LAST_YEAR : ∀ M, Rp K M w_LAST_YEAR v_LAST_YEAR
  w_LENGTHS : V
  u_LENGTHS : Value
  m_LENGTHS : mg "LENGTHS" = some u_LENGTHS
  r_LENGTHS : RelV w_LENGTHS u_LENGTHS
  d_LENGTHS : ∀ M, Rp K M w_LENGTHS v_LENGTHS
  c_DocketError : Addr
  m_DocketError : mg "DocketError" = some (.ref c_DocketError)
  q_DocketError : PySem.W.excIn K c_DocketError [.type "ValueError", .type "Exception", .type "BaseException", .type "object"] "ValueError.__new__" = true
  k_DocketError : PySem.W.keepIn K (.ref c_DocketError) = true
  b1_DocketError : PySem.W.subIn K (.ref c_DocketError) (.type "BaseException") = some true
  t1_DocketError : PySem.W.typeIn K (.ref c_DocketError) = some (.type "type")
  c_OutOfRange : Addr
  m_OutOfRange : mg "OutOfRange" = some (.ref c_OutOfRange)
  q_OutOfRange : PySem.W.excIn K c_OutOfRange [.type "ValueError", .type "Exception", .type "BaseException", .type "object"] "ValueError.__new__" = true
  k_OutOfRange : PySem.W.keepIn K (.ref c_OutOfRange) = true
  b1_OutOfRange : PySem.W.subIn K (.ref c_OutOfRange) (.type "BaseException") = some true
  t1_OutOfRange : PySem.W.typeIn K (.ref c_OutOfRange) = some (.type "type")
section
variable {P : Program} {w : World} {K : PySem.W.Frag} {mg : Str → Option Value} {base : Heap} {tb : Addr → Prop}
theorem w_is_number (g : G K mg base tb) {sp2 : PSpec} (hl : ∀ as Qr Qe, sp2 as Qr Qe → as.length = 3) (h : ∀ as Qr Qe, sp2 as Qr Qe → rd_is_number K g.c_DocketError g.c_OutOfRange (enOf Qr Qe) (begin_ 3 as)) : FnOk P w K mg base (L2.CX P w) 1 g.a_is_number g.f_is_number ["value", "least", "most"] (spOf K (drw tb) sp2) :=
  okDC g.F_is_number sc_is_number hl (fun cdv A outer s H E hc hr =>
    (jss_one (js_retE (je_and (je_isi tk_int (by rfl) g.z_isinstance (by rfl) g.z_int PyProof.Rows.boot_int (je_name 0)) (je_and (je_not (je_isi tk_bool (by rfl) g.z_isinstance (by rfl) g.z_bool PyProof.Rows.boot_bool (je_name 0))) (je_one (je_ch c_le c_le (je_name 1) (je_name 0) (je_name 2)))))))) h
theorem w_is_day (g : G K mg base tb) (O_is_number : FnOk P w K mg base (L2.CX P w) 1 g.a_is_number g.f_is_number ["value", "least", "most"] (spOf K (drw tb) (sp_is_number g.c_DocketError g.c_OutOfRange))) {sp2 : PSpec} (hl : ∀ as Qr Qe, sp2 as Qr Qe → as.length = 1) (h : ∀ as Qr Qe, sp2 as Qr Qe → rd_is_day K g.c_DocketError g.c_OutOfRange (enOf Qr Qe) (begin_ 1 as)) : FnOk P w K mg base (L2.CX P w) 2 g.a_is_day g.f_is_day ["value"] (spOf K (drw tb) sp2) :=
  okDC g.F_is_day sc_is_day hl (fun cdv A outer s H E hc hr =>
    (jss_one (js_ret (jr_call O_is_number (Room.mono hr (by decide)) (by rfl) g.g_is_number g.F_is_number.kp g.b_is_number (jc_cons (je_name 0) (jc_cons je_int (jc_cons (je_glob (by rfl) g.m_LAST_DAY g.r_LAST_DAY g.d_LAST_DAY) jc_nil))))))) h
theorem w_check_day (g : G K mg base tb) (O_is_day : FnOk P w K mg base (L2.CX P w) 2 g.a_is_day g.f_is_day ["value"] (spOf K (drw tb) (sp_is_day g.c_DocketError g.c_OutOfRange))) {sp2 : PSpec} (hl : ∀ as Qr Qe, sp2 as Qr Qe → as.length = 1) (h : ∀ as Qr Qe, sp2 as Qr Qe → rd_check_day K g.c_DocketError g.c_OutOfRange (enOf Qr Qe) (begin_ 1 as)) : FnOk P w K mg base (L2.CX P w) 3 g.a_check_day g.f_check_day ["day"] (spOf K (drw tb) sp2) :=
  okDC g.F_check_day sc_check_day hl (fun cdv A outer s H E hc hr =>
    (jss_one (js_if (jt_not (jt_truth (je_of (jr_call O_is_day (Room.mono hr (by decide)) (by rfl) g.g_is_day g.F_is_day.kp g.b_is_day (jc_cons (je_name 0) jc_nil))))) (jss_one (js_raise rfl g.q_OutOfRange g.m_OutOfRange g.k_OutOfRange g.b1_OutOfRange g.t1_OutOfRange (by rfl))) jss_nil))) h
theorem w_weekday_of (g : G K mg base tb) {sp2 : PSpec} (hl : ∀ as Qr Qe, sp2 as Qr Qe → as.length = 1) (h : ∀ as Qr Qe, sp2 as Qr Qe → rd_weekday_of K g.c_DocketError g.c_OutOfRange (enOf Qr Qe) (begin_ 1 as)) : FnOk P w K mg base (L2.CX P w) 1 g.a_weekday_of g.f_weekday_of ["day"] (spOf K (drw tb) sp2) :=
  okDC g.F_weekday_of sc_weekday_of hl (fun cdv A outer s H E hc hr =>
    (jss_one (js_retE (je_mod (je_add (je_name 0) je_int) je_int)))) h
theorem w_weekday (g : G K mg base tb) (O_check_day : FnOk P w K mg base (L2.CX P w) 3 g.a_check_day g.f_check_day ["day"] (spOf K (drw tb) (sp_check_day g.c_DocketError g.c_OutOfRange))) (O_weekday_of : FnOk P w K mg base (L2.CX P w) 1 g.a_weekday_of g.f_weekday_of ["day"] (spOf K (drw tb) (sp_weekday_of g.c_DocketError g.c_OutOfRange))) {sp2 : PSpec} (hl : ∀ as Qr Qe, sp2 as Qr Qe → as.length = 1) (h : ∀ as Qr Qe, sp2 as Qr Qe → rd_weekday K g.c_DocketError g.c_OutOfRange (enOf Qr Qe) (begin_ 1 as)) : FnOk P w K mg base (L2.CX P w) 4 g.a_weekday g.f_weekday ["day"] (spOf K (drw tb) sp2) :=
  okDC g.F_weekday sc_weekday hl (fun cdv A outer s H E hc hr =>
    (jss_cons (js_expr (jr_call O_check_day (Room.mono hr (by decide)) (by rfl) g.g_check_day g.F_check_day.kp g.b_check_day (jc_cons (je_name 0) jc_nil)))
      (jss_one (js_ret (jr_call O_weekday_of (Room.mono hr (by decide)) (by rfl) g.g_weekday_of g.F_weekday_of.kp g.b_weekday_of (jc_cons (je_name 0) jc_nil)))))) h
theorem w_is_long (g : G K mg base tb) {sp2 : PSpec} (hl : ∀ as Qr Qe, sp2 as Qr Qe → as.length = 1) (h : ∀ as Qr Qe, sp2 as Qr Qe → rd_is_long K g.c_DocketError g.c_OutOfRange (enOf Qr Qe) (begin_ 1 as)) : FnOk P w K mg base (L2.CX P w) 1 g.a_is_long g.f_is_long ["year"] (spOf K (drw tb) sp2) :=
  okDC g.F_is_long sc_is_long hl (fun cdv A outer s H E hc hr =>
    (jss_one (js_retE (je_and (je_cm (c_eq hr) (je_mod (je_name 0) je_int) je_int) (je_one (je_or (je_cm (c_ne hr) (je_mod (je_name 0) je_int) je_int) (je_one (je_cm (c_eq hr) (je_mod (je_name 0) je_int) je_int)))))))) h
theorem w_length_of (g : G K mg base tb) (O_is_long : FnOk P w K mg base (L2.CX P w) 1 g.a_is_long g.f_is_long ["year"] (spOf K (drw tb) (sp_is_long g.c_DocketError g.c_OutOfRange))) {sp2 : PSpec} (hl : ∀ as Qr Qe, sp2 as Qr Qe → as.length = 2) (h : ∀ as Qr Qe, sp2 as Qr Qe → rd_length_of K g.c_DocketError g.c_OutOfRange (enOf Qr Qe) (begin_ 2 as)) : FnOk P w K mg base (L2.CX P w) 2 g.a_length_of g.f_length_of ["year", "month"] (spOf K (drw tb) sp2) :=
  okDC g.F_length_of sc_length_of hl (fun cdv A outer s H E hc hr =>
    (jss_one (js_retE (je_add (je_ix (je_glob (by rfl) g.m_LENGTHS g.r_LENGTHS g.d_LENGTHS) (je_sub (je_name 1) je_int)) (je_callTy call_int1 cs_int (by rfl) g.z_int PyProof.Rows.boot_int (ja_cons (je_and (je_cm (c_eq hr) (je_name 1) je_int) (je_one (je_of (jr_call O_is_long (Room.mono hr (by decide)) (by rfl) g.g_is_long g.F_is_long.kp g.b_is_long (jc_cons (je_name 0) jc_nil))))) ja_nil)))))) h
theorem w_check_year (g : G K mg base tb) (O_is_number : FnOk P w K mg base (L2.CX P w) 1 g.a_is_number g.f_is_number ["value", "least", "most"] (spOf K (drw tb) (sp_is_number g.c_DocketError g.c_OutOfRange))) {sp2 : PSpec} (hl : ∀ as Qr Qe, sp2 as Qr Qe → as.length = 1) (h : ∀ as Qr Qe, sp2 as Qr Qe → rd_check_year K g.c_DocketError g.c_OutOfRange (enOf Qr Qe) (begin_ 1 as)) : FnOk P w K mg base (L2.CX P w) 2 g.a_check_year g.f_check_year ["year"] (spOf K (drw tb) sp2) :=
  okDC g.F_check_year sc_check_year hl (fun cdv A outer s H E hc hr =>
    (jss_one (js_if (jt_not (jt_truth (je_of (jr_call O_is_number (Room.mono hr (by decide)) (by rfl) g.g_is_number g.F_is_number.kp g.b_is_number (jc_cons (je_name 0) (jc_cons je_int (jc_cons (je_glob (by rfl) g.m_LAST_YEAR g.r_LAST_YEAR g.d_LAST_YEAR) jc_nil))))))) (jss_one (js_raise rfl g.q_OutOfRange g.m_OutOfRange g.k_OutOfRange g.b1_OutOfRange g.t1_OutOfRange (by rfl))) jss_nil))) h
theorem w_new_year (g : G K mg base tb) {sp2 : PSpec} (hl : ∀ as Qr Qe, sp2 as Qr Qe → as.length = 1) (h : ∀ as Qr Qe, sp2 as Qr Qe → rd_new_year K g.c_DocketError g.c_OutOfRange (enOf Qr Qe) (begin_ 1 as)) : FnOk P w K mg base (L2.CX P w) 1 g.a_new_year g.f_new_year ["year"] (spOf K (drw tb) sp2) :=
  okDC g.F_new_year sc_new_year hl (fun cdv A outer s H E hc hr =>
    (jss_one (js_retE (je_add (je_sub (je_add (je_mul je_int (je_name 0)) (je_div (je_add (je_name 0) je_int) je_int)) (je_div (je_add (je_name 0) je_int) je_int)) (je_div (je_add (je_name 0) je_int) je_int))))) h
theorem w_day_at (g : G K mg base tb) (O_length_of : FnOk P w K mg base (L2.CX P w) 2 g.a_length_of g.f_length_of ["year", "month"] (spOf K (drw tb) (sp_length_of g.c_DocketError g.c_OutOfRange))) (O_new_year : FnOk P w K mg base (L2.CX P w) 1 g.a_new_year g.f_new_year ["year"] (spOf K (drw tb) (sp_new_year g.c_DocketError g.c_OutOfRange))) {sp2 : PSpec} (hl : ∀ as Qr Qe, sp2 as Qr Qe → as.length = 3) (h : ∀ as Qr Qe, sp2 as Qr Qe → rd_day_at K g.c_DocketError g.c_OutOfRange (enOf Qr Qe) (begin_ 5 as)) : FnOk P w K mg base (L2.CX P w) 6 g.a_day_at g.f_day_at ["year", "month", "day"] (spOf K (drw tb) sp2) :=
  okDC g.F_day_at sc_day_at hl (fun cdv A outer s H E hc hr =>
    (jss_cons (js_setE 3 sc_day_at.nd (je_sumG [] [("other", 4)] g.t_day_at hr (by rfl) g.z_sum sc_day_at.nd g.T_day_at (hc.trans g.e_day_at) rfl (by decide +kernel) (by rfl) (blkOk_at ["year", "month", "day", "before", "other"] (defScope s_day_at) (by decide +kernel)) (ji_rng2 (by rfl) g.z_range (ja_cons je_int (ja_cons (je_name 1) ja_nil))) (fun s H C cl cd bi fp => (jgw_name 4 sc_day_at.nd)) (fun s H C cl cd bi fp => jf_nil) (fun s H C cl cd bi fp => (je_of (jr_call O_length_of (Room.mono (Room.deeper (Room.in1 (Room.in1 hr)) _) (by decide)) (by rfl) g.g_length_of g.F_length_of.kp g.b_length_of (jc_cons (je_name 0) (jc_cons (je_name 4) jc_nil)))))))
      (jss_one (js_retE (je_sub (je_add (je_add (je_of (jr_call O_new_year (Room.mono hr (by decide)) (by rfl) g.g_new_year g.F_new_year.kp g.b_new_year (jc_cons (je_name 0) jc_nil))) (je_name 3)) (je_name 2)) je_int))))) h
theorem w_date_at (g : G K mg base tb) (O_new_year : FnOk P w K mg base (L2.CX P w) 1 g.a_new_year g.f_new_year ["year"] (spOf K (drw tb) (sp_new_year g.c_DocketError g.c_OutOfRange))) (O_length_of : FnOk P w K mg base (L2.CX P w) 2 g.a_length_of g.f_length_of ["year", "month"] (spOf K (drw tb) (sp_length_of g.c_DocketError g.c_OutOfRange))) {sp2 : PSpec} (hl : ∀ as Qr Qe, sp2 as Qr Qe → as.length = 1) (h : ∀ as Qr Qe, sp2 as Qr Qe → rd_date_at K g.c_DocketError g.c_OutOfRange (enOf Qr Qe) (begin_ 4 as)) : FnOk P w K mg base (L2.CX P w) 3 g.a_date_at g.f_date_at ["day"] (spOf K (drw tb) sp2) :=
  okDC g.F_date_at sc_date_at hl (fun cdv A outer s H E hc hr =>
    (jss_cons (js_setE 1 sc_date_at.nd (je_div (je_mul (je_name 0) je_int) je_int))
      (jss_cons (js_while (jt_cm c_gt (je_of (jr_call O_new_year (Room.mono hr (by decide)) (by rfl) g.g_new_year g.F_new_year.kp g.b_new_year (jc_cons (je_name 1) jc_nil))) (je_name 0)) (jss_one (js_subI 1 sc_date_at.nd je_int)))
      (jss_cons (js_while (jt_cm c_le (je_of (jr_call O_new_year (Room.mono hr (by decide)) (by rfl) g.g_new_year g.F_new_year.kp g.b_new_year (jc_cons (je_add (je_name 1) je_int) jc_nil))) (je_name 0)) (jss_one (js_addI 1 sc_date_at.nd je_int)))
      (jss_cons (js_setE 2 sc_date_at.nd (je_sub (je_name 0) (je_of (jr_call O_new_year (Room.mono hr (by decide)) (by rfl) g.g_new_year g.F_new_year.kp g.b_new_year (jc_cons (je_name 1) jc_nil)))))
      (jss_cons (js_setE 3 sc_date_at.nd je_int)
      (jss_cons (js_while (jt_cm c_ge (je_name 2) (je_of (jr_call O_length_of (Room.mono hr (by decide)) (by rfl) g.g_length_of g.F_length_of.kp g.b_length_of (jc_cons (je_name 1) (jc_cons (je_name 3) jc_nil))))) (jss_cons (js_subI 2 sc_date_at.nd (je_of (jr_call O_length_of (Room.mono hr (by decide)) (by rfl) g.g_length_of g.F_length_of.kp g.b_length_of (jc_cons (je_name 1) (jc_cons (je_name 3) jc_nil)))))
      (jss_one (js_addI 3 sc_date_at.nd je_int))))
      (jss_one (js_retE (je_tup (ja_cons (je_name 1) (ja_cons (je_name 3) (ja_cons (je_add (je_name 2) je_int) ja_nil))))))))))))) h
theorem w_date_of (g : G K mg base tb) (O_check_day : FnOk P w K mg base (L2.CX P w) 3 g.a_check_day g.f_check_day ["day"] (spOf K (drw tb) (sp_check_day g.c_DocketError g.c_OutOfRange))) (O_date_at : FnOk P w K mg base (L2.CX P w) 3 g.a_date_at g.f_date_at ["day"] (spOf K (drw tb) (sp_date_at g.c_DocketError g.c_OutOfRange))) {sp2 : PSpec} (hl : ∀ as Qr Qe, sp2 as Qr Qe → as.length = 1) (h : ∀ as Qr Qe, sp2 as Qr Qe → rd_date_of K g.c_DocketError g.c_OutOfRange (enOf Qr Qe) (begin_ 1 as)) : FnOk P w K mg base (L2.CX P w) 4 g.a_date_of g.f_date_of ["day"] (spOf K (drw tb) sp2) :=
  okDC g.F_date_of sc_date_of hl (fun cdv A outer s H E hc hr =>
    (jss_cons (js_expr (jr_call O_check_day (Room.mono hr (by decide)) (by rfl) g.g_check_day g.F_check_day.kp g.b_check_day (jc_cons (je_name 0) jc_nil)))
      (jss_one (js_ret (jr_call O_date_at (Room.mono hr (by decide)) (by rfl) g.g_date_at g.F_date_at.kp g.b_date_at (jc_cons (je_name 0) jc_nil)))))) h
theorem w_later_by (g : G K mg base tb) (O_date_at : FnOk P w K mg base (L2.CX P w) 3 g.a_date_at g.f_date_at ["day"] (spOf K (drw tb) (sp_date_at g.c_DocketError g.c_OutOfRange))) (O_length_of : FnOk P w K mg base (L2.CX P w) 2 g.a_length_of g.f_length_of ["year", "month"] (spOf K (drw tb) (sp_length_of g.c_DocketError g.c_OutOfRange))) (O_day_at : FnOk P w K mg base (L2.CX P w) 6 g.a_day_at g.f_day_at ["year", "month", "day"] (spOf K (drw tb) (sp_day_at g.c_DocketError g.c_OutOfRange))) {sp2 : PSpec} (hl : ∀ as Qr Qe, sp2 as Qr Qe → as.length = 2) (h : ∀ as Qr Qe, sp2 as Qr Qe → rd_later_by K g.c_DocketError g.c_OutOfRange (enOf Qr Qe) (begin_ 7 as)) : FnOk P w K mg base (L2.CX P w) 7 g.a_later_by g.f_later_by ["day", "months"] (spOf K (drw tb) sp2) :=
  okDC g.F_later_by sc_later_by hl (fun cdv A outer s H E hc hr =>
    (jss_cons (js_asg (je_of (jr_call O_date_at (Room.mono hr (by decide)) (by rfl) g.g_date_at g.F_date_at.kp g.b_date_at (jc_cons (je_name 0) jc_nil))) (jg_tup rfl (jgs_cons (jg_name 2 sc_later_by.nd) (jgs_cons (jg_name 3 sc_later_by.nd) (jgs_cons (jg_name 4 sc_later_by.nd) jgs_nil)))))
      (jss_cons (js_setE 5 sc_later_by.nd (je_add (je_sub (je_add (je_mul je_int (je_name 2)) (je_name 3)) je_int) (je_name 1)))
      (jss_cons (js_set 6 sc_later_by.nd (jr_call O_length_of (Room.mono hr (by decide)) (by rfl) g.g_length_of g.F_length_of.kp g.b_length_of (jc_cons (je_div (je_name 5) je_int) (jc_cons (je_add (je_mod (je_name 5) je_int) je_int) jc_nil))))
      (jss_one (js_ret (jr_call O_day_at (Room.mono hr (by decide)) (by rfl) g.g_day_at g.F_day_at.kp g.b_day_at (jc_cons (je_div (je_name 5) je_int) (jc_cons (je_add (je_mod (je_name 5) je_int) je_int) (jc_cons (je_callB (call_min2 rfl) (cs_I2 fun _ _ _ => .int _) (by rfl) g.z_min PyProof.Rows.boot_min (ja_cons (je_name 4) (ja_cons (je_name 6) ja_nil))) jc_nil)))))))))) h
theorem w_months_later (g : G K mg base tb) (O_check_day : FnOk P w K mg base (L2.CX P w) 3 g.a_check_day g.f_check_day ["day"] (spOf K (drw tb) (sp_check_day g.c_DocketError g.c_OutOfRange))) (O_is_number : FnOk P w K mg base (L2.CX P w) 1 g.a_is_number g.f_is_number ["value", "least", "most"] (spOf K (drw tb) (sp_is_number g.c_DocketError g.c_OutOfRange))) (O_later_by : FnOk P w K mg base (L2.CX P w) 7 g.a_later_by g.f_later_by ["day", "months"] (spOf K (drw tb) (sp_later_by g.c_DocketError g.c_OutOfRange))) {sp2 : PSpec} (hl : ∀ as Qr Qe, sp2 as Qr Qe → as.length = 2) (h : ∀ as Qr Qe, sp2 as Qr Qe → rd_months_later K g.c_DocketError g.c_OutOfRange (enOf Qr Qe) (begin_ 3 as)) : FnOk P w K mg base (L2.CX P w) 8 g.a_months_later g.f_months_later ["day", "months"] (spOf K (drw tb) sp2) :=
  okDC g.F_months_later sc_months_later hl (fun cdv A outer s H E hc hr =>
    (jss_cons (js_expr (jr_call O_check_day (Room.mono hr (by decide)) (by rfl) g.g_check_day g.F_check_day.kp g.b_check_day (jc_cons (je_name 0) jc_nil)))
      (jss_cons (js_if (jt_not (jt_truth (je_of (jr_call O_is_number (Room.mono hr (by decide)) (by rfl) g.g_is_number g.F_is_number.kp g.b_is_number (jc_cons (je_name 1) (jc_cons je_int (jc_cons je_int jc_nil))))))) (jss_one (js_raise rfl g.q_OutOfRange g.m_OutOfRange g.k_OutOfRange g.b1_OutOfRange g.t1_OutOfRange (by rfl))) jss_nil)
      (jss_cons (js_set 2 sc_months_later.nd (jr_call O_later_by (Room.mono hr (by decide)) (by rfl) g.g_later_by g.F_later_by.kp g.b_later_by (jc_cons (je_name 0) (jc_cons (je_name 1) jc_nil))))
      (jss_cons (js_if (jt_cm c_gt (je_name 2) (je_glob (by rfl) g.m_LAST_DAY g.r_LAST_DAY g.d_LAST_DAY)) (jss_one (js_raise rfl g.q_OutOfRange g.m_OutOfRange g.k_OutOfRange g.b1_OutOfRange g.t1_OutOfRange (by rfl))) jss_nil)
      (jss_one (js_retE (je_name 2)))))))) h
theorem w_easter_day (g : G K mg base tb) (O_day_at : FnOk P w K mg base (L2.CX P w) 6 g.a_day_at g.f_day_at ["year", "month", "day"] (spOf K (drw tb) (sp_day_at g.c_DocketError g.c_OutOfRange))) (O_weekday_of : FnOk P w K mg base (L2.CX P w) 1 g.a_weekday_of g.f_weekday_of ["day"] (spOf K (drw tb) (sp_weekday_of g.c_DocketError g.c_OutOfRange))) {sp2 : PSpec} (hl : ∀ as Qr Qe, sp2 as Qr Qe → as.length = 1) (h : ∀ as Qr Qe, sp2 as Qr Qe → rd_easter_day K g.c_DocketError g.c_OutOfRange (enOf Qr Qe) (begin_ 5 as)) : FnOk P w K mg base (L2.CX P w) 7 g.a_easter_day g.f_easter_day ["year"] (spOf K (drw tb) sp2) :=
  okDC g.F_easter_day sc_easter_day hl (fun cdv A outer s H E hc hr =>
    (jss_cons (js_par 1 2 rfl sc_easter_day.nd (ja_cons (je_mod (je_name 0) je_int) (ja_cons (je_div (je_name 0) je_int) ja_nil)))
      (jss_cons (js_setE 3 sc_easter_day.nd (je_mod (je_sub (je_sub (je_add (je_add (je_mul je_int (je_name 1)) je_int) (je_name 2)) (je_div (je_name 2) je_int)) (je_div (je_add (je_mul je_int (je_name 2)) je_int) je_int)) je_int))
      (jss_cons (js_if (jw_pt (jw_or (jt_cm (c_eq hr) (je_name 3) je_int) (jw_or1 (jw_pt (jw_and (jt_cm (c_eq hr) (je_name 3) je_int) (jw_and1 (jt_cm c_gt (je_name 1) je_int))))))) (jss_one (js_subI 3 sc_easter_day.nd je_int)) jss_nil)
      (jss_cons (js_setE 4 sc_easter_day.nd (je_add (je_of (jr_call O_day_at (Room.mono hr (by decide)) (by rfl) g.g_day_at g.F_day_at.kp g.b_day_at (jc_cons (je_name 0) (jc_cons je_int (jc_cons je_int jc_nil))))) (je_name 3)))
      (jss_one (js_retE (je_sub (je_add (je_name 4) je_int) (je_mod (je_add (je_of (jr_call O_weekday_of (Room.mono hr (by decide)) (by rfl) g.g_weekday_of g.F_weekday_of.kp g.b_weekday_of (jc_cons (je_name 4) jc_nil))) je_int) je_int))))))))) h
theorem w_easter (g : G K mg base tb) (O_check_year : FnOk P w K mg base (L2.CX P w) 2 g.a_check_year g.f_check_year ["year"] (spOf K (drw tb) (sp_check_year g.c_DocketError g.c_OutOfRange))) (O_easter_day : FnOk P w K mg base (L2.CX P w) 7 g.a_easter_day g.f_easter_day ["year"] (spOf K (drw tb) (sp_easter_day g.c_DocketError g.c_OutOfRange))) {sp2 : PSpec} (hl : ∀ as Qr Qe, sp2 as Qr Qe → as.length = 1) (h : ∀ as Qr Qe, sp2 as Qr Qe → rd_easter K g.c_DocketError g.c_OutOfRange (enOf Qr Qe) (begin_ 1 as)) : FnOk P w K mg base (L2.CX P w) 8 g.a_easter g.f_easter ["year"] (spOf K (drw tb) sp2) :=
  okDC g.F_easter sc_easter hl (fun cdv A outer s H E hc hr =>
    (jss_cons (js_expr (jr_call O_check_year (Room.mono hr (by decide)) (by rfl) g.g_check_year g.F_check_year.kp g.b_check_year (jc_cons (je_name 0) jc_nil)))
      (jss_one (js_ret (jr_call O_easter_day (Room.mono hr (by decide)) (by rfl) g.g_easter_day g.F_easter_day.kp g.b_easter_day (jc_cons (je_name 0) jc_nil)))))) h
theorem w__law_draws (g : G K mg base tb) {sp2 : PSpec} (hl : ∀ as Qr Qe, sp2 as Qr Qe → as.length = 1) (h : ∀ as Qr Qe, sp2 as Qr Qe → rd__law_draws K g.c_DocketError g.c_OutOfRange (enOf Qr Qe) (begin_ 7 as)) : FnOk P w K mg base (L2.CX P w) 1 g.a__law_draws g.f__law_draws ["script"] (spOf K (drw tb) sp2) :=
  okDC g.F__law_draws sc__law_draws hl (fun cdv A outer s H E hc hr =>
    (jss_cons (js_set 1 sc__law_draws.nd (jr_lst ja_nil))
      (jss_cons (js_for rfl (ji_fz 0) (jg_name 2 sc__law_draws.nd) (jss_cons (js_setE 3 sc__law_draws.nd (je_callB call_abs cs_abs (by rfl) g.z_abs PyProof.Rows.boot_abs (ja_cons (je_name 2) ja_nil)))
      (jss_cons (js_if (jt_cm c_lt (je_name 3) (je_pow je_int je_int)) (jss_cons (js_setE 4 sc__law_draws.nd (je_mod (je_callTy call_int1 cs_int (by rfl) g.z_int PyProof.Rows.boot_int (ja_cons (je_add (je_mul (je_name 3) je_int) je_int) ja_nil)) je_int))
      (jss_cons (js_expr (jr_of (je_mt 1 PySem.F.plainAttrs_list PySem.F.slot_list_append PySem.F.type_list_append mt_append ms_append (ja_cons (je_mod (je_callTy call_int1 cs_int (by rfl) g.z_int PyProof.Rows.boot_int (ja_cons (je_add (je_mul (je_name 4) je_int) (je_name 3)) ja_nil)) je_int) ja_nil))))
      (jss_cons (js_expr (jr_of (je_mt 1 PySem.F.plainAttrs_list PySem.F.slot_list_append PySem.F.type_list_append mt_append ms_append (ja_cons (je_mod (je_callTy call_int1 cs_int (by rfl) g.z_int PyProof.Rows.boot_int (ja_cons (je_add (je_name 4) (je_div (je_name 3) je_int)) ja_nil)) je_int) ja_nil))))
      (jss_one (js_setE 3 sc__law_draws.nd je_int))))) jss_nil)
      (jss_one (js_for rfl (ji_rng1 (by rfl) g.z_range (ja_cons je_int ja_nil)) (jg_name 5 sc__law_draws.nd) (jss_one (js_if (jt_cm c_gt (je_name 3) je_int) (jss_cons (js_expr (jr_of (je_mt 1 PySem.F.plainAttrs_list PySem.F.slot_list_append PySem.F.type_list_append mt_append ms_append (ja_cons (je_mod (je_callTy call_int1 cs_int (by rfl) g.z_int PyProof.Rows.boot_int (ja_cons (je_name 3) ja_nil)) je_int) ja_nil))))
      (jss_one (js_setE 3 sc__law_draws.nd (je_div (je_name 3) je_int)))) jss_nil)))))))
      (jss_cons (js_setE 6 sc__law_draws.nd je_int)
      (jss_cons (js_if (jt_cm c_gt (je_lenN 0 (by rfl) g.z_len) je_int) (jss_one (js_setE 6 sc__law_draws.nd (je_add je_int (je_callB call_abs cs_abs (by rfl) g.z_abs PyProof.Rows.boot_abs (ja_cons (je_ixN 0 je_int) ja_nil))))) jss_nil)
      (jss_cons (js_for rfl (ji_rng1 (by rfl) g.z_range (ja_cons je_int ja_nil)) (jg_name 5 sc__law_draws.nd) (jss_cons (js_setE 6 sc__law_draws.nd (je_mod (je_callTy call_int1 cs_int (by rfl) g.z_int PyProof.Rows.boot_int (ja_cons (je_add (je_mul (je_name 6) je_int) je_int) ja_nil)) je_int))
      (jss_one (js_expr (jr_of (je_mt 1 PySem.F.plainAttrs_list PySem.F.slot_list_append PySem.F.type_list_append mt_append ms_append (ja_cons (je_div (je_name 6) je_int) ja_nil)))))))
      (jss_one (js_ret (jr_lstRev rfl (by rfl) g.z_list (by rfl) g.z_reversed (je_name 1)))))))))) h
theorem w__law_take (g : G K mg base tb) {sp2 : PSpec} (hl : ∀ as Qr Qe, sp2 as Qr Qe → as.length = 2) (h : ∀ as Qr Qe, sp2 as Qr Qe → rd__law_take K g.c_DocketError g.c_OutOfRange (enOf Qr Qe) (begin_ 2 as)) : FnOk P w K mg base (L2.CX P w) 1 g.a__law_take g.f__law_take ["draws", "bound"] (spOf K (drw tb) sp2) :=
  okDC g.F__law_take sc__law_take hl (fun cdv A outer s H E hc hr =>
    (jss_take 0 1 (by rfl) g.z_len (by rfl) g.z_int)) h
theorem w__law_same (g : G K mg base tb) {k : Nat} {sp sp2 : PSpec} (O : FnOk P w K mg base (L2.CX P w) k g.a__law_same g.f__law_same ["actual", "due"] (spOf K (drw tb) sp)) (hl : ∀ as Qr Qe, sp2 as Qr Qe → as.length = 2) (h : ∀ as Qr Qe, sp2 as Qr Qe → rd__law_same K g.c_DocketError g.c_OutOfRange sp (enOf Qr Qe) (begin_ 3 as)) : FnOk P w K mg base (L2.CX P w) (k + 1) g.a__law_same g.f__law_same ["actual", "due"] (spOf K (drw tb) sp2) :=
  okDC g.F__law_same sc__law_same hl (fun cdv A outer s H E hc hr =>
    (jss_cons (js_if (jw_pt (jw_or (jt_cm c_is (je_name 1) je_none) (jw_or1 (jt_cm c_is (je_name 0) je_none)))) (jss_one (js_retE (je_and (je_cm c_is (je_name 1) je_none) (je_one (je_cm c_is (je_name 0) je_none))))) jss_nil)
      (jss_cons (js_if (jw_pt (jw_or (jt_truth (je_isi tk_tuple (by rfl) g.z_isinstance (by rfl) g.z_tuple PyProof.Rows.boot_tuple (je_name 1))) (jw_or1 (jt_truth (je_isi tk_list (by rfl) g.z_isinstance (by rfl) g.z_list PyProof.Rows.boot_list (je_name 1)))))) (jss_cons (js_if (jw_pt (jw_or (jt_cm (c_ne hr) (je_isi tk_tuple (by rfl) g.z_isinstance (by rfl) g.z_tuple PyProof.Rows.boot_tuple (je_name 1)) (je_isi tk_tuple (by rfl) g.z_isinstance (by rfl) g.z_tuple PyProof.Rows.boot_tuple (je_name 0))) (jw_or1 (jt_cm (c_ne hr) (je_isi tk_list (by rfl) g.z_isinstance (by rfl) g.z_list PyProof.Rows.boot_list (je_name 1)) (je_isi tk_list (by rfl) g.z_isinstance (by rfl) g.z_list PyProof.Rows.boot_list (je_name 0)))))) (jss_one (js_retE je_bool)) jss_nil)
      (jss_cons (js_if (jt_cm (c_ne hr) (je_callB call_len cs_len (by rfl) g.z_len PySem.boot_len (ja_cons (je_name 0) ja_nil)) (je_callB call_len cs_len (by rfl) g.z_len PySem.boot_len (ja_cons (je_name 1) ja_nil))) (jss_one (js_retE je_bool)) jss_nil)
      (jss_cons (js_for rfl (ji_rng1 (by rfl) g.z_range (ja_cons (je_callB call_len cs_len (by rfl) g.z_len PySem.boot_len (ja_cons (je_name 1) ja_nil)) ja_nil)) (jg_name 2 sc__law_same.nd) (jss_one (js_if (jt_not (jt_truth (je_of (jr_call O hr (by rfl) g.g__law_same g.F__law_same.kp g.b__law_same (jc_cons (je_ixN 0 (je_name 2)) (jc_cons (je_ixN 1 (je_name 2)) jc_nil)))))) (jss_one (js_retE je_bool)) jss_nil)))
      (jss_one (js_retE je_bool))))) jss_nil)
      (jss_cons (js_if (jt_cm (c_ne hr) (je_isi tk_bool (by rfl) g.z_isinstance (by rfl) g.z_bool PyProof.Rows.boot_bool (je_name 1)) (je_isi tk_bool (by rfl) g.z_isinstance (by rfl) g.z_bool PyProof.Rows.boot_bool (je_name 0))) (jss_one (js_retE je_bool)) jss_nil)
      (jss_cons (js_if (jw_pt (jw_or (jt_cm (c_ne hr) (je_isi tk_int (by rfl) g.z_isinstance (by rfl) g.z_int PyProof.Rows.boot_int (je_name 1)) (je_isi tk_int (by rfl) g.z_isinstance (by rfl) g.z_int PyProof.Rows.boot_int (je_name 0))) (jw_or1 (jt_cm (c_ne hr) (je_isi tk_str (by rfl) g.z_isinstance (by rfl) g.z_str PyProof.Rows.boot_str (je_name 1)) (je_isi tk_str (by rfl) g.z_isinstance (by rfl) g.z_str PyProof.Rows.boot_str (je_name 0)))))) (jss_one (js_retE je_bool)) jss_nil)
      (jss_one (js_retE (je_cm (c_eq hr) (je_name 0) (je_name 1))))))))) h
theorem w__law_leap (g : G K mg base tb) {sp2 : PSpec} (hl : ∀ as Qr Qe, sp2 as Qr Qe → as.length = 1) (h : ∀ as Qr Qe, sp2 as Qr Qe → rd__law_leap K g.c_DocketError g.c_OutOfRange (enOf Qr Qe) (begin_ 1 as)) : FnOk P w K mg base (L2.CX P w) 1 g.a__law_leap g.f__law_leap ["year"] (spOf K (drw tb) sp2) :=
  okDC g.F__law_leap sc__law_leap hl (fun cdv A outer s H E hc hr =>
    (jss_one (js_retE (je_or (je_and (je_cm (c_eq hr) (je_mod (je_name 0) je_int) je_int) (je_one (je_cm (c_ne hr) (je_mod (je_name 0) je_int) je_int))) (je_one (je_cm (c_eq hr) (je_mod (je_name 0) je_int) je_int)))))) h
theorem w__law_length (g : G K mg base tb) (O__law_leap : FnOk P w K mg base (L2.CX P w) 1 g.a__law_leap g.f__law_leap ["year"] (spOf K (drw tb) (sp__law_leap g.c_DocketError g.c_OutOfRange))) {sp2 : PSpec} (hl : ∀ as Qr Qe, sp2 as Qr Qe → as.length = 2) (h : ∀ as Qr Qe, sp2 as Qr Qe → rd__law_length K g.c_DocketError g.c_OutOfRange (enOf Qr Qe) (begin_ 2 as)) : FnOk P w K mg base (L2.CX P w) 2 g.a__law_length g.f__law_length ["year", "month"] (spOf K (drw tb) sp2) :=
  okDC g.F__law_length sc__law_length hl (fun cdv A outer s H E hc hr =>
    (jss_one (js_retE (je_ix (je_of (jr_lst (ja_cons je_int (ja_cons (je_add je_int (je_callTy call_int1 cs_int (by rfl) g.z_int PyProof.Rows.boot_int (ja_cons (je_of (jr_call O__law_leap (Room.mono hr (by decide)) (by rfl) g.g__law_leap g.F__law_leap.kp g.b__law_leap (jc_cons (je_name 0) jc_nil))) ja_nil))) (ja_cons je_int (ja_cons je_int (ja_cons je_int (ja_cons je_int (ja_cons je_int (ja_cons je_int (ja_cons je_int (ja_cons je_int (ja_cons je_int (ja_cons je_int ja_nil)))))))))))))) (je_sub (je_name 1) je_int))))) h
theorem w__law_ahead (g : G K mg base tb) {sp2 : PSpec} (hl : ∀ as Qr Qe, sp2 as Qr Qe → as.length = 1) (h : ∀ as Qr Qe, sp2 as Qr Qe → rd__law_ahead K g.c_DocketError g.c_OutOfRange (enOf Qr Qe) (begin_ 1 as)) : FnOk P w K mg base (L2.CX P w) 1 g.a__law_ahead g.f__law_ahead ["year"] (spOf K (drw tb) sp2) :=
  okDC g.F__law_ahead sc__law_ahead hl (fun cdv A outer s H E hc hr =>
    (jss_one (js_retE (je_add (je_sub (je_add (je_mul je_int (je_name 0)) (je_div (je_add (je_name 0) je_int) je_int)) (je_div (je_add (je_name 0) je_int) je_int)) (je_div (je_add (je_name 0) je_int) je_int))))) h
theorem w__law_date (g : G K mg base tb) (O__law_ahead : FnOk P w K mg base (L2.CX P w) 1 g.a__law_ahead g.f__law_ahead ["year"] (spOf K (drw tb) (sp__law_ahead g.c_DocketError g.c_OutOfRange))) (O__law_length : FnOk P w K mg base (L2.CX P w) 2 g.a__law_length g.f__law_length ["year", "month"] (spOf K (drw tb) (sp__law_length g.c_DocketError g.c_OutOfRange))) {sp2 : PSpec} (hl : ∀ as Qr Qe, sp2 as Qr Qe → as.length = 1) (h : ∀ as Qr Qe, sp2 as Qr Qe → rd__law_date K g.c_DocketError g.c_OutOfRange (enOf Qr Qe) (begin_ 5 as)) : FnOk P w K mg base (L2.CX P w) 3 g.a__law_date g.f__law_date ["day"] (spOf K (drw tb) sp2) :=
  okDC g.F__law_date sc__law_date hl (fun cdv A outer s H E hc hr =>
    (jss_cons (js_setE 1 sc__law_date.nd (je_div (je_name 0) je_int))
      (jss_cons (js_for rfl (ji_rng1 (by rfl) g.z_range (ja_cons je_int ja_nil)) (jg_name 2 sc__law_date.nd) (jss_one (js_if (jt_cm c_le (je_of (jr_call O__law_ahead (Room.mono hr (by decide)) (by rfl) g.g__law_ahead g.F__law_ahead.kp g.b__law_ahead (jc_cons (je_add (je_name 1) je_int) jc_nil))) (je_name 0)) (jss_one (js_setE 1 sc__law_date.nd (je_add (je_name 1) je_int))) jss_nil)))
      (jss_cons (js_setE 3 sc__law_date.nd (je_sub (je_name 0) (je_of (jr_call O__law_ahead (Room.mono hr (by decide)) (by rfl) g.g__law_ahead g.F__law_ahead.kp g.b__law_ahead (jc_cons (je_name 1) jc_nil)))))
      (jss_cons (js_setE 4 sc__law_date.nd je_int)
      (jss_cons (js_for rfl (ji_rng1 (by rfl) g.z_range (ja_cons je_int ja_nil)) (jg_name 2 sc__law_date.nd) (jss_one (js_if (jt_cm c_ge (je_name 3) (je_of (jr_call O__law_length (Room.mono hr (by decide)) (by rfl) g.g__law_length g.F__law_length.kp g.b__law_length (jc_cons (je_name 1) (jc_cons (je_name 4) jc_nil))))) (jss_cons (js_setE 3 sc__law_date.nd (je_sub (je_name 3) (je_of (jr_call O__law_length (Room.mono hr (by decide)) (by rfl) g.g__law_length g.F__law_length.kp g.b__law_length (jc_cons (je_name 1) (jc_cons (je_name 4) jc_nil))))))
      (jss_one (js_setE 4 sc__law_date.nd (je_add (je_name 4) je_int)))) jss_nil)))
      (jss_one (js_retE (je_tup (ja_cons (je_name 1) (ja_cons (je_name 4) (ja_cons (je_add (je_name 3) je_int) ja_nil)))))))))))) h
theorem w__law_number (g : G K mg base tb) (O__law_ahead : FnOk P w K mg base (L2.CX P w) 1 g.a__law_ahead g.f__law_ahead ["year"] (spOf K (drw tb) (sp__law_ahead g.c_DocketError g.c_OutOfRange))) (O__law_length : FnOk P w K mg base (L2.CX P w) 2 g.a__law_length g.f__law_length ["year", "month"] (spOf K (drw tb) (sp__law_length g.c_DocketError g.c_OutOfRange))) {sp2 : PSpec} (hl : ∀ as Qr Qe, sp2 as Qr Qe → as.length = 3) (h : ∀ as Qr Qe, sp2 as Qr Qe → rd__law_number K g.c_DocketError g.c_OutOfRange (enOf Qr Qe) (begin_ 4 as)) : FnOk P w K mg base (L2.CX P w) 3 g.a__law_number g.f__law_number ["year", "month", "day"] (spOf K (drw tb) sp2) :=
  okDC g.F__law_number sc__law_number hl (fun cdv A outer s H E hc hr =>
    (jss_one (js_retE (je_sub (je_add (je_add (je_of (jr_call O__law_ahead (Room.mono hr (by decide)) (by rfl) g.g__law_ahead g.F__law_ahead.kp g.b__law_ahead (jc_cons (je_name 0) jc_nil))) (je_callB (cr_sum rfl) cs_sum (by rfl) g.z_sum PyProof.Rows.boot_sum (ja_cons (je_of (jr_lc [] [("k", 3)] rfl sc__law_number.nd (ji_rng2 (by rfl) g.z_range (ja_cons je_int (ja_cons (je_name 1) ja_nil))) (blkOk_at ["year", "month", "day", "k"] (defScope s__law_number) (by decide +kernel)) (fun s H C cl fp => (jgw_name 3 sc__law_number.nd)) (fun s H C cl fp => jf_nil) (fun s H C cl fp => (je_of (jr_call O__law_length (Room.mono hr (by decide)) (by rfl) g.g__law_length g.F__law_length.kp g.b__law_length (jc_cons (je_name 0) (jc_cons (je_name 3) jc_nil))))))) ja_nil))) (je_name 2)) je_int)))) h
theorem w__law_later (g : G K mg base tb) (O__law_date : FnOk P w K mg base (L2.CX P w) 3 g.a__law_date g.f__law_date ["day"] (spOf K (drw tb) (sp__law_date g.c_DocketError g.c_OutOfRange))) (O__law_length : FnOk P w K mg base (L2.CX P w) 2 g.a__law_length g.f__law_length ["year", "month"] (spOf K (drw tb) (sp__law_length g.c_DocketError g.c_OutOfRange))) (O__law_number : FnOk P w K mg base (L2.CX P w) 3 g.a__law_number g.f__law_number ["year", "month", "day"] (spOf K (drw tb) (sp__law_number g.c_DocketError g.c_OutOfRange))) {sp2 : PSpec} (hl : ∀ as Qr Qe, sp2 as Qr Qe → as.length = 2) (h : ∀ as Qr Qe, sp2 as Qr Qe → rd__law_later K g.c_DocketError g.c_OutOfRange (enOf Qr Qe) (begin_ 7 as)) : FnOk P w K mg base (L2.CX P w) 4 g.a__law_later g.f__law_later ["day", "months"] (spOf K (drw tb) sp2) :=
  okDC g.F__law_later sc__law_later hl (fun cdv A outer s H E hc hr =>
    (jss_cons (js_asg (je_of (jr_call O__law_date (Room.mono hr (by decide)) (by rfl) g.g__law_date g.F__law_date.kp g.b__law_date (jc_cons (je_name 0) jc_nil))) (jg_tup rfl (jgs_cons (jg_name 2 sc__law_later.nd) (jgs_cons (jg_name 3 sc__law_later.nd) (jgs_cons (jg_name 4 sc__law_later.nd) jgs_nil)))))
      (jss_cons (js_setE 5 sc__law_later.nd (je_add (je_sub (je_add (je_mul je_int (je_name 2)) (je_name 3)) je_int) (je_name 1)))
      (jss_cons (js_set 6 sc__law_later.nd (jr_call O__law_length (Room.mono hr (by decide)) (by rfl) g.g__law_length g.F__law_length.kp g.b__law_length (jc_cons (je_div (je_name 5) je_int) (jc_cons (je_add (je_mod (je_name 5) je_int) je_int) jc_nil))))
      (jss_one (js_ret (jr_call O__law_number (Room.mono hr (by decide)) (by rfl) g.g__law_number g.F__law_number.kp g.b__law_number (jc_cons (je_div (je_name 5) je_int) (jc_cons (je_add (je_mod (je_name 5) je_int) je_int) (jc_cons (je_callB (call_min2 rfl) (cs_I2 fun _ _ _ => .int _) (by rfl) g.z_min PyProof.Rows.boot_min (ja_cons (je_name 4) (ja_cons (je_name 6) ja_nil))) jc_nil)))))))))) h
theorem w__law_easter (g : G K mg base tb) (O__law_number : FnOk P w K mg base (L2.CX P w) 3 g.a__law_number g.f__law_number ["year", "month", "day"] (spOf K (drw tb) (sp__law_number g.c_DocketError g.c_OutOfRange))) {sp2 : PSpec} (hl : ∀ as Qr Qe, sp2 as Qr Qe → as.length = 1) (h : ∀ as Qr Qe, sp2 as Qr Qe → rd__law_easter K g.c_DocketError g.c_OutOfRange (enOf Qr Qe) (begin_ 8 as)) : FnOk P w K mg base (L2.CX P w) 4 g.a__law_easter g.f__law_easter ["year"] (spOf K (drw tb) sp2) :=
  okDC g.F__law_easter sc__law_easter hl (fun cdv A outer s H E hc hr =>
    (jss_cons (js_par3 1 2 3 rfl sc__law_easter.nd (ja_cons (je_mod (je_name 0) je_int) (ja_cons (je_div (je_name 0) je_int) (ja_cons (je_mod (je_name 0) je_int) ja_nil))))
      (jss_cons (js_setE 4 sc__law_easter.nd (je_mod (je_add (je_sub (je_sub (je_add (je_mul je_int (je_name 1)) (je_name 2)) (je_div (je_name 2) je_int)) (je_div (je_add (je_sub (je_name 2) (je_div (je_add (je_name 2) je_int) je_int)) je_int) je_int)) je_int) je_int))
      (jss_cons (js_setE 5 sc__law_easter.nd (je_mod (je_sub (je_sub (je_add (je_add je_int (je_mul je_int (je_mod (je_name 2) je_int))) (je_mul je_int (je_div (je_name 3) je_int))) (je_name 4)) (je_mod (je_name 3) je_int)) je_int))
      (jss_cons (js_setE 6 sc__law_easter.nd (je_div (je_add (je_add (je_name 1) (je_mul je_int (je_name 4))) (je_mul je_int (je_name 5))) je_int))
      (jss_cons (js_setE 7 sc__law_easter.nd (je_add (je_sub (je_add (je_name 4) (je_name 5)) (je_mul je_int (je_name 6))) je_int))
      (jss_one (js_ret (jr_call O__law_number (Room.mono hr (by decide)) (by rfl) g.g__law_number g.F__law_number.kp g.b__law_number (jc_cons (je_name 0) (jc_cons (je_div (je_name 7) je_int) (jc_cons (je_add (je_mod (je_name 7) je_int) je_int) jc_nil)))))))))))) h
theorem w__law_told (g : G K mg base tb) (O_months_later : FnOk P w K mg base (L2.CX P w) 8 g.a_months_later g.f_months_later ["day", "months"] (spOf K (drw tb) (sp_months_later g.c_DocketError g.c_OutOfRange))) {sp2 : PSpec} (hl : ∀ as Qr Qe, sp2 as Qr Qe → as.length = 2) (h : ∀ as Qr Qe, sp2 as Qr Qe → rd__law_told K g.c_DocketError g.c_OutOfRange (enOf Qr Qe) (begin_ 3 as)) : FnOk P w K mg base (L2.CX P w) 9 g.a__law_told g.f__law_told ["day", "months"] (spOf K (drw tb) sp2) :=
  okDC g.F__law_told sc__law_told hl (fun cdv A outer s H E hc hr =>
    (jss_one (js_try 2 rfl rfl sc__law_told.nd ⟨by rfl, by decide, .inl g.m_DocketError⟩ (fun pn xe => (jss_one (js_ret (jr_call O_months_later (Room.mono hr (by decide)) (by rfl) g.g_months_later g.F_months_later.kp g.b_months_later (jc_cons (je_name 0) (jc_cons (je_name 1) jc_nil)))))) (fun a oe cls pn hz hv => (jss_one (js_retE (je_ix (je_of (jr_lst (ja_cons je_str (ja_cons je_str ja_nil)))) (je_callTy call_int1 cs_int (by rfl) g.z_int PyProof.Rows.boot_int (ja_cons (je_isE 2 hz hv (by rfl) g.z_isinstance (by rfl) g.m_OutOfRange) ja_nil))))))))) h
theorem w__law_feast (g : G K mg base tb) (O_easter : FnOk P w K mg base (L2.CX P w) 8 g.a_easter g.f_easter ["year"] (spOf K (drw tb) (sp_easter g.c_DocketError g.c_OutOfRange))) {sp2 : PSpec} (hl : ∀ as Qr Qe, sp2 as Qr Qe → as.length = 1) (h : ∀ as Qr Qe, sp2 as Qr Qe → rd__law_feast K g.c_DocketError g.c_OutOfRange (enOf Qr Qe) (begin_ 2 as)) : FnOk P w K mg base (L2.CX P w) 9 g.a__law_feast g.f__law_feast ["year"] (spOf K (drw tb) sp2) :=
  okDC g.F__law_feast sc__law_feast hl (fun cdv A outer s H E hc hr =>
    (jss_one (js_try 1 rfl rfl sc__law_feast.nd ⟨by rfl, by decide, .inl g.m_DocketError⟩ (fun pn xe => (jss_one (js_ret (jr_call O_easter (Room.mono hr (by decide)) (by rfl) g.g_easter g.F_easter.kp g.b_easter (jc_cons (je_name 0) jc_nil))))) (fun a oe cls pn hz hv => (jss_one (js_retE (je_ix (je_of (jr_lst (ja_cons je_str (ja_cons je_str ja_nil)))) (je_callTy call_int1 cs_int (by rfl) g.z_int PyProof.Rows.boot_int (ja_cons (je_isE 1 hz hv (by rfl) g.z_isinstance (by rfl) g.m_OutOfRange) ja_nil))))))))) h
theorem w__law_due (g : G K mg base tb) (O__law_later : FnOk P w K mg base (L2.CX P w) 4 g.a__law_later g.f__law_later ["day", "months"] (spOf K (drw tb) (sp__law_later g.c_DocketError g.c_OutOfRange))) {sp2 : PSpec} (hl : ∀ as Qr Qe, sp2 as Qr Qe → as.length = 2) (h : ∀ as Qr Qe, sp2 as Qr Qe → rd__law_due K g.c_DocketError g.c_OutOfRange (enOf Qr Qe) (begin_ 2 as)) : FnOk P w K mg base (L2.CX P w) 5 g.a__law_due g.f__law_due ["day", "months"] (spOf K (drw tb) sp2) :=
  okDC g.F__law_due sc__law_due hl (fun cdv A outer s H E hc hr =>
    (jss_cons (js_if (jt_cm c_gt (je_of (jr_call O__law_later (Room.mono hr (by decide)) (by rfl) g.g__law_later g.F__law_later.kp g.b__law_later (jc_cons (je_name 0) (jc_cons (je_name 1) jc_nil)))) je_int) (jss_one (js_retE je_str)) jss_nil)
      (jss_one (js_ret (jr_call O__law_later (Room.mono hr (by decide)) (by rfl) g.g__law_later g.F__law_later.kp g.b__law_later (jc_cons (je_name 0) (jc_cons (je_name 1) jc_nil))))))) h
theorem w_law (g : G K mg base tb) (O__law_draws : FnOk P w K mg base (L2.CX P w) 1 g.a__law_draws g.f__law_draws ["script"] (spOf K (drw tb) (sp__law_draws g.c_DocketError g.c_OutOfRange))) (O__law_take : FnOk P w K mg base (L2.CX P w) 1 g.a__law_take g.f__law_take ["draws", "bound"] (spOf K (drw tb) (sp__law_take g.c_DocketError g.c_OutOfRange))) (O__law_number : FnOk P w K mg base (L2.CX P w) 3 g.a__law_number g.f__law_number ["year", "month", "day"] (spOf K (drw tb) (sp__law_number g.c_DocketError g.c_OutOfRange))) (O__law_length : FnOk P w K mg base (L2.CX P w) 2 g.a__law_length g.f__law_length ["year", "month"] (spOf K (drw tb) (sp__law_length g.c_DocketError g.c_OutOfRange))) (O__law_same : FnOk P w K mg base (L2.CX P w) 12 g.a__law_same g.f__law_same ["actual", "due"] (spOf K (drw tb) (sp__law_same g.c_DocketError g.c_OutOfRange))) (O__law_due : FnOk P w K mg base (L2.CX P w) 5 g.a__law_due g.f__law_due ["day", "months"] (spOf K (drw tb) (sp__law_due g.c_DocketError g.c_OutOfRange))) (O__law_told : FnOk P w K mg base (L2.CX P w) 9 g.a__law_told g.f__law_told ["day", "months"] (spOf K (drw tb) (sp__law_told g.c_DocketError g.c_OutOfRange))) (O_months_later : FnOk P w K mg base (L2.CX P w) 8 g.a_months_later g.f_months_later ["day", "months"] (spOf K (drw tb) (sp_months_later g.c_DocketError g.c_OutOfRange))) (O__law_date : FnOk P w K mg base (L2.CX P w) 3 g.a__law_date g.f__law_date ["day"] (spOf K (drw tb) (sp__law_date g.c_DocketError g.c_OutOfRange))) (O__law_later : FnOk P w K mg base (L2.CX P w) 4 g.a__law_later g.f__law_later ["day", "months"] (spOf K (drw tb) (sp__law_later g.c_DocketError g.c_OutOfRange))) (O__law_easter : FnOk P w K mg base (L2.CX P w) 4 g.a__law_easter g.f__law_easter ["year"] (spOf K (drw tb) (sp__law_easter g.c_DocketError g.c_OutOfRange))) (O__law_feast : FnOk P w K mg base (L2.CX P w) 9 g.a__law_feast g.f__law_feast ["year"] (spOf K (drw tb) (sp__law_feast g.c_DocketError g.c_OutOfRange))) (O_weekday : FnOk P w K mg base (L2.CX P w) 4 g.a_weekday g.f_weekday ["day"] (spOf K (drw tb) (sp_weekday g.c_DocketError g.c_OutOfRange))) (O_easter : FnOk P w K mg base (L2.CX P w) 8 g.a_easter g.f_easter ["year"] (spOf K (drw tb) (sp_easter g.c_DocketError g.c_OutOfRange))) (O_date_of : FnOk P w K mg base (L2.CX P w) 4 g.a_date_of g.f_date_of ["day"] (spOf K (drw tb) (sp_date_of g.c_DocketError g.c_OutOfRange))) {sp2 : PSpec} (hl : ∀ as Qr Qe, sp2 as Qr Qe → as.length = 1) (h : ∀ as Qr Qe, sp2 as Qr Qe → rd_law K g.c_DocketError g.c_OutOfRange (enOf Qr Qe) (begin_ 10 as)) : FnOk P w K mg base (L2.CX P w) 13 g.a_law g.f_law ["script"] (spOf K (drw tb) sp2) :=
  okDC g.F_law sc_law hl (fun cdv A outer s H E hc hr =>
    (jss_cons (js_setSrc 1 sc_law.nd (jr_call O__law_draws (Room.mono hr (by decide)) (by rfl) g.g__law_draws g.F__law_draws.kp g.b__law_draws (jc_fz 0 jc_nil)))
      (jss_cons (js_for rfl (ji_rng1 (by rfl) g.z_range (ja_cons je_int ja_nil)) (jg_name 2 sc_law.nd) (jss_cons (js_set 3 sc_law.nd (jr_call O__law_take (Room.mono hr (by decide)) (by rfl) g.g__law_take g.F__law_take.kp g.b__law_take (jc_src 1 (jc_cons je_int jc_nil))))
      (jss_cons (js_setE 4 sc_law.nd (je_add je_int (je_of (jr_call O__law_take (Room.mono hr (by decide)) (by rfl) g.g__law_take g.F__law_take.kp g.b__law_take (jc_src 1 (jc_cons (je_ix (je_of (jr_lst (ja_cons je_int (ja_cons je_int ja_nil)))) (je_callTy call_int1 cs_int (by rfl) g.z_int PyProof.Rows.boot_int (ja_cons (je_cm (c_eq hr) (je_name 3) je_int) ja_nil))) jc_nil))))))
      (jss_cons (js_set 5 sc_law.nd (jr_call O__law_number (Room.mono hr (by decide)) (by rfl) g.g__law_number g.F__law_number.kp g.b__law_number (jc_cons (je_name 3) (jc_cons (je_name 4) (jc_cons (je_sub (je_of (jr_call O__law_length (Room.mono hr (by decide)) (by rfl) g.g__law_length g.F__law_length.kp g.b__law_length (jc_cons (je_name 3) (jc_cons (je_name 4) jc_nil)))) (je_of (jr_call O__law_take (Room.mono hr (by decide)) (by rfl) g.g__law_take g.F__law_take.kp g.b__law_take (jc_src 1 (jc_cons (je_ix (je_of (jr_lst (ja_cons je_int (ja_cons je_int ja_nil)))) (je_of (jr_call O__law_take (Room.mono hr (by decide)) (by rfl) g.g__law_take g.F__law_take.kp g.b__law_take (jc_src 1 (jc_cons je_int jc_nil))))) jc_nil))))) jc_nil)))))
      (jss_cons (js_if (jt_cm c_gt (je_name 5) je_int) (jss_one (js_setE 5 sc_law.nd (je_sub je_int (je_of (jr_call O__law_take (Room.mono hr (by decide)) (by rfl) g.g__law_take g.F__law_take.kp g.b__law_take (jc_src 1 (jc_cons je_int jc_nil))))))) jss_nil)
      (jss_cons (js_setE 6 sc_law.nd (je_ix (je_of (jr_lst (ja_cons (je_of (jr_call O__law_take (Room.mono hr (by decide)) (by rfl) g.g__law_take g.F__law_take.kp g.b__law_take (jc_src 1 (jc_cons je_int jc_nil)))) (ja_cons (je_of (jr_call O__law_take (Room.mono hr (by decide)) (by rfl) g.g__law_take g.F__law_take.kp g.b__law_take (jc_src 1 (jc_cons je_int jc_nil)))) (ja_cons (je_mul je_int (je_of (jr_call O__law_take (Room.mono hr (by decide)) (by rfl) g.g__law_take g.F__law_take.kp g.b__law_take (jc_src 1 (jc_cons je_int jc_nil))))) ja_nil))))) (je_of (jr_call O__law_take (Room.mono hr (by decide)) (by rfl) g.g__law_take g.F__law_take.kp g.b__law_take (jc_src 1 (jc_cons je_int jc_nil))))))
      (jss_cons (js_if (jt_not (jt_truth (je_of (jr_call O__law_same (Room.mono hr (by decide)) (by rfl) g.g__law_same g.F__law_same.kp g.b__law_same (jc_cons (je_of (jr_call O__law_told (Room.mono hr (by decide)) (by rfl) g.g__law_told g.F__law_told.kp g.b__law_told (jc_cons (je_name 5) (jc_cons (je_name 6) jc_nil)))) (jc_cons (je_of (jr_call O__law_due (Room.mono hr (by decide)) (by rfl) g.g__law_due g.F__law_due.kp g.b__law_due (jc_cons (je_name 5) (jc_cons (je_name 6) jc_nil)))) jc_nil)))))) (jss_one (js_retE je_bool)) jss_nil)
      (jss_cons (js_if (jw_pt (jw_and (jt_cm c_lt (je_name 5) je_int) (jw_and1 (jt_cm (c_ne hr) (je_of (jr_call O__law_due (Room.mono hr (by decide)) (by rfl) g.g__law_due g.F__law_due.kp g.b__law_due (jc_cons (je_add (je_name 5) je_int) (jc_cons (je_name 6) jc_nil)))) je_str)))) (jss_one (js_if (jt_cm c_lt (je_of (jr_call O_months_later (Room.mono hr (by decide)) (by rfl) g.g_months_later g.F_months_later.kp g.b_months_later (jc_cons (je_add (je_name 5) je_int) (jc_cons (je_name 6) jc_nil)))) (je_of (jr_call O_months_later (Room.mono hr (by decide)) (by rfl) g.g_months_later g.F_months_later.kp g.b_months_later (jc_cons (je_name 5) (jc_cons (je_name 6) jc_nil))))) (jss_one (js_retE je_bool)) jss_nil)) jss_nil)
      (jss_cons (js_setE 7 sc_law.nd (je_add (je_add (je_sub (je_name 5) (je_ix (je_of (jr_call O__law_date (Room.mono hr (by decide)) (by rfl) g.g__law_date g.F__law_date.kp g.b__law_date (jc_cons (je_name 5) jc_nil))) je_int)) je_int) (je_of (jr_call O__law_take (Room.mono hr (by decide)) (by rfl) g.g__law_take g.F__law_take.kp g.b__law_take (jc_src 1 (jc_cons je_int jc_nil))))))
      (jss_cons (js_set 8 sc_law.nd (jr_call O__law_take (Room.mono hr (by decide)) (by rfl) g.g__law_take g.F__law_take.kp g.b__law_take (jc_src 1 (jc_cons je_int jc_nil))))
      (jss_cons (js_if (jw_pt (jw_and (jt_cm c_le (je_name 7) je_int) (jw_and1 (jt_cm c_le (je_of (jr_call O__law_later (Room.mono hr (by decide)) (by rfl) g.g__law_later g.F__law_later.kp g.b__law_later (jc_cons (je_name 7) (jc_cons (je_add (je_name 8) je_int) jc_nil)))) je_int)))) (jss_one (js_if (jt_cm (c_ne hr) (je_of (jr_call O_months_later (Room.mono hr (by decide)) (by rfl) g.g_months_later g.F_months_later.kp g.b_months_later (jc_cons (je_of (jr_call O_months_later (Room.mono hr (by decide)) (by rfl) g.g_months_later g.F_months_later.kp g.b_months_later (jc_cons (je_name 7) (jc_cons (je_name 8) jc_nil)))) (jc_cons je_int jc_nil)))) (je_of (jr_call O_months_later (Room.mono hr (by decide)) (by rfl) g.g_months_later g.F_months_later.kp g.b_months_later (jc_cons (je_name 7) (jc_cons (je_add (je_name 8) je_int) jc_nil))))) (jss_one (js_retE je_bool)) jss_nil)) jss_nil)
      (jss_cons (js_if (jw_pt (jw_or (jt_not (jt_truth (je_of (jr_call O__law_same (Room.mono hr (by decide)) (by rfl) g.g__law_same g.F__law_same.kp g.b__law_same (jc_cons (je_of (jr_call O__law_feast (Room.mono hr (by decide)) (by rfl) g.g__law_feast g.F__law_feast.kp g.b__law_feast (jc_cons (je_name 3) jc_nil))) (jc_cons (je_of (jr_call O__law_easter (Room.mono hr (by decide)) (by rfl) g.g__law_easter g.F__law_easter.kp g.b__law_easter (jc_cons (je_name 3) jc_nil))) jc_nil)))))) (jw_or1 (jt_cm (c_ne hr) (je_of (jr_call O_weekday (Room.mono hr (by decide)) (by rfl) g.g_weekday g.F_weekday.kp g.b_weekday (jc_cons (je_of (jr_call O_easter (Room.mono hr (by decide)) (by rfl) g.g_easter g.F_easter.kp g.b_easter (jc_cons (je_name 3) jc_nil))) jc_nil))) je_int)))) (jss_one (js_retE je_bool)) jss_nil)
      (jss_one (js_if (jt_not (jt_ch (c_leT hr) (c_leT hr) (je_tup (ja_cons je_int (ja_cons je_int ja_nil))) (je_slice (je_of (jr_call O_date_of (Room.mono hr (by decide)) (by rfl) g.g_date_of g.F_date_of.kp g.b_date_of (jc_cons (je_of (jr_call O_easter (Room.mono hr (by decide)) (by rfl) g.g_easter g.F_easter.kp g.b_easter (jc_cons (je_name 3) jc_nil))) jc_nil))) (jo_some je_int) jo_none) (je_tup (ja_cons je_int (ja_cons je_int ja_nil))))) (jss_one (js_retE je_bool)) jss_nil))))))))))))))
      (jss_cons (js_set 9 sc_law.nd (jr_lst (ja_cons (je_of (jr_call O__law_told (Room.mono hr (by decide)) (by rfl) g.g__law_told g.F__law_told.kp g.b__law_told (jc_cons (je_neg je_int) (jc_cons je_int jc_nil)))) (ja_cons (je_of (jr_call O__law_told (Room.mono hr (by decide)) (by rfl) g.g__law_told g.F__law_told.kp g.b__law_told (jc_cons je_int (jc_cons je_int jc_nil)))) (ja_cons (je_of (jr_call O__law_told (Room.mono hr (by decide)) (by rfl) g.g__law_told g.F__law_told.kp g.b__law_told (jc_cons je_int (jc_cons (je_neg je_int) jc_nil)))) (ja_cons (je_of (jr_call O__law_told (Room.mono hr (by decide)) (by rfl) g.g__law_told g.F__law_told.kp g.b__law_told (jc_cons je_int (jc_cons je_int jc_nil)))) (ja_cons (je_of (jr_call O__law_told (Room.mono hr (by decide)) (by rfl) g.g__law_told g.F__law_told.kp g.b__law_told (jc_cons je_int (jc_cons je_int jc_nil)))) (ja_cons (je_of (jr_call O__law_feast (Room.mono hr (by decide)) (by rfl) g.g__law_feast g.F__law_feast.kp g.b__law_feast (jc_cons (je_neg je_int) jc_nil))) (ja_cons (je_of (jr_call O__law_feast (Room.mono hr (by decide)) (by rfl) g.g__law_feast g.F__law_feast.kp g.b__law_feast (jc_cons je_int jc_nil))) ja_nil)))))))))
      (jss_one (js_retE (je_and (je_cm (c_eq hr) (je_name 9) (je_mul (je_of (jr_lst (ja_cons je_str ja_nil))) je_int)) (je_one (je_of (jr_call O__law_same (Room.mono hr (by decide)) (by rfl) g.g__law_same g.F__law_same.kp g.b__law_same (jc_cons (je_of (jr_call O__law_told (Room.mono hr (by decide)) (by rfl) g.g__law_told g.F__law_told.kp g.b__law_told (jc_cons je_int (jc_cons je_int jc_nil)))) (jc_cons je_int jc_nil)))))))))))) h
end
end K06

set_option Elab.async false
set_option linter.all false
set_option maxRecDepth 100000
/-! The plain law, def by def. -/
namespace K06
open PySem L2 PD Cal
variable {K : PySem.W.Frag} {cD cO : Addr}
theorem pf_is_number : ∀ as Qr Qe, sp_is_number cD cO as Qr Qe → rd_is_number K cD cO (enOf Qr Qe) (begin_ 3 as) := by
  rintro as Qr Qe ⟨d, lo, hi, rfl, q⟩
  cases d <;> simp [rd_is_number, qSeq, qIf, qRet, qSet, qAsg, qPar, qDrop, qNx, qRaise, qBk, qCt, qRetN, qAug, pER, pRE, pC, pName, pBin, pTest, pTru, strFit, truD, pAnd, pOr, pNot, pAndV, pOrV, pNotV, pIf, pChain, pNeg, pNil, pCons, pTup, pLst, pIxN, pCB, pCall, pcNil, pcCons, pcSrc, pcFz, gtName, gtNil, gtCons, gtTup, gAdd, gMul, gI, gI0, gOrd, gIx, gLen, gInt, gI1, gI2, slOf, enOf, begin_, seqAt, atMostOne, Sl.mut, pIsi, isD, isT, tyD, pLenN, pLst1, pLstRev, and_assoc, frzL, blkS, wipeS, toB, ptYes, qSetSrc, gEq, gNe, eqD, flatD, mixD, PyData.eqv, piSeq, piRng1, piRng2, piRng3, piFz, PD.gSub, PD.gDiv, PD.gMod, PD.gLt, PD.gLe, PD.gGt, PD.gGe, PD.gPow, PD.gShr, PD.gXor, pSlice, poNone, poSome, qPar3, gLeT, isNum] at q ⊢ <;> first | exact q | skip
  rename_i i
  by_cases h : lo ≤ i <;> simp [h] at q ⊢ <;> exact q
theorem pf_is_day : ∀ as Qr Qe, sp_is_day cD cO as Qr Qe → rd_is_day K cD cO (enOf Qr Qe) (begin_ 1 as) := by
  rintro as Qr Qe ⟨d, rfl, q⟩
  simp [rd_is_day, qSeq, qIf, qRet, qSet, qAsg, qPar, qDrop, qNx, qRaise, qBk, qCt, qRetN, qAug, pER, pRE, pC, pName, pBin, pTest, pTru, strFit, truD, pAnd, pOr, pNot, pAndV, pOrV, pNotV, pIf, pChain, pNeg, pNil, pCons, pTup, pLst, pIxN, pCB, pCall, pcNil, pcCons, pcSrc, pcFz, gtName, gtNil, gtCons, gtTup, gAdd, gMul, gI, gI0, gOrd, gIx, gLen, gInt, gI1, gI2, slOf, enOf, begin_, seqAt, atMostOne, Sl.mut, pIsi, isD, isT, tyD, pLenN, pLst1, pLstRev, and_assoc, frzL, blkS, wipeS, toB, ptYes, qSetSrc, gEq, gNe, eqD, flatD, mixD, PyData.eqv, piSeq, piRng1, piRng2, piRng3, piFz, PD.gSub, PD.gDiv, PD.gMod, PD.gLt, PD.gLe, PD.gGt, PD.gGe, PD.gPow, PD.gShr, PD.gXor, pSlice, poNone, poSome, qPar3, gLeT, sp_is_number, v_LAST_DAY]
  exact q
theorem pf_check_day : ∀ as Qr Qe, sp_check_day cD cO as Qr Qe → rd_check_day K cD cO (enOf Qr Qe) (begin_ 1 as) := by
  rintro as Qr Qe ⟨d, rfl, q1, q2⟩
  simp [rd_check_day, qSeq, qIf, qRet, qSet, qAsg, qPar, qDrop, qNx, qRaise, qBk, qCt, qRetN, qAug, pER, pRE, pC, pName, pBin, pTest, pTru, strFit, truD, pAnd, pOr, pNot, pAndV, pOrV, pNotV, pIf, pChain, pNeg, pNil, pCons, pTup, pLst, pIxN, pCB, pCall, pcNil, pcCons, pcSrc, pcFz, gtName, gtNil, gtCons, gtTup, gAdd, gMul, gI, gI0, gOrd, gIx, gLen, gInt, gI1, gI2, slOf, enOf, begin_, seqAt, atMostOne, Sl.mut, pIsi, isD, isT, tyD, pLenN, pLst1, pLstRev, and_assoc, frzL, blkS, wipeS, toB, ptYes, qSetSrc, gEq, gNe, eqD, flatD, mixD, PyData.eqv, piSeq, piRng1, piRng2, piRng3, piFz, PD.gSub, PD.gDiv, PD.gMod, PD.gLt, PD.gLe, PD.gGt, PD.gGe, PD.gPow, PD.gShr, PD.gXor, pSlice, poNone, poSome, qPar3, gLeT, sp_is_day]
  cases h : isNum d 0 1000000 <;> simp [h] at q1 q2 ⊢ <;> assumption
theorem pf_weekday_of : ∀ as Qr Qe, sp_weekday_of cD cO as Qr Qe → rd_weekday_of K cD cO (enOf Qr Qe) (begin_ 1 as) := by
  rintro as Qr Qe ⟨i, rfl, q⟩
  simp [rd_weekday_of, qSeq, qIf, qRet, qSet, qAsg, qPar, qDrop, qNx, qRaise, qBk, qCt, qRetN, qAug, pER, pRE, pC, pName, pBin, pTest, pTru, strFit, truD, pAnd, pOr, pNot, pAndV, pOrV, pNotV, pIf, pChain, pNeg, pNil, pCons, pTup, pLst, pIxN, pCB, pCall, pcNil, pcCons, pcSrc, pcFz, gtName, gtNil, gtCons, gtTup, gAdd, gMul, gI, gI0, gOrd, gIx, gLen, gInt, gI1, gI2, slOf, enOf, begin_, seqAt, atMostOne, Sl.mut, pIsi, isD, isT, tyD, pLenN, pLst1, pLstRev, and_assoc, frzL, blkS, wipeS, toB, ptYes, qSetSrc, gEq, gNe, eqD, flatD, mixD, PyData.eqv, piSeq, piRng1, piRng2, piRng3, piFz, PD.gSub, PD.gDiv, PD.gMod, PD.gLt, PD.gLe, PD.gGt, PD.gGe, PD.gPow, PD.gShr, PD.gXor, pSlice, poNone, poSome, qPar3, gLeT]
  exact q
theorem pf_weekday : ∀ as Qr Qe, sp_weekday cD cO as Qr Qe → rd_weekday K cD cO (enOf Qr Qe) (begin_ 1 as) := by
  rintro as Qr Qe ⟨i, rfl, q1, q2⟩
  simp [rd_weekday, qSeq, qIf, qRet, qSet, qAsg, qPar, qDrop, qNx, qRaise, qBk, qCt, qRetN, qAug, pER, pRE, pC, pName, pBin, pTest, pTru, strFit, truD, pAnd, pOr, pNot, pAndV, pOrV, pNotV, pIf, pChain, pNeg, pNil, pCons, pTup, pLst, pIxN, pCB, pCall, pcNil, pcCons, pcSrc, pcFz, gtName, gtNil, gtCons, gtTup, gAdd, gMul, gI, gI0, gOrd, gIx, gLen, gInt, gI1, gI2, slOf, enOf, begin_, seqAt, atMostOne, Sl.mut, pIsi, isD, isT, tyD, pLenN, pLst1, pLstRev, and_assoc, frzL, blkS, wipeS, toB, ptYes, qSetSrc, gEq, gNe, eqD, flatD, mixD, PyData.eqv, piSeq, piRng1, piRng2, piRng3, piFz, PD.gSub, PD.gDiv, PD.gMod, PD.gLt, PD.gLe, PD.gGt, PD.gGe, PD.gPow, PD.gShr, PD.gXor, pSlice, poNone, poSome, qPar3, gLeT, sp_check_day, sp_weekday_of]
  exact ⟨q1, q2⟩
theorem pf_is_long : ∀ as Qr Qe, sp_is_long cD cO as Qr Qe → rd_is_long K cD cO (enOf Qr Qe) (begin_ 1 as) := by
  rintro as Qr Qe ⟨y, rfl, q⟩
  simp [rd_is_long, qSeq, qIf, qRet, qSet, qAsg, qPar, qDrop, qNx, qRaise, qBk, qCt, qRetN, qAug, pER, pRE, pC, pName, pBin, pTest, pTru, strFit, truD, pAnd, pOr, pNot, pAndV, pOrV, pNotV, pIf, pChain, pNeg, pNil, pCons, pTup, pLst, pIxN, pCB, pCall, pcNil, pcCons, pcSrc, pcFz, gtName, gtNil, gtCons, gtTup, gAdd, gMul, gI, gI0, gOrd, gIx, gLen, gInt, gI1, gI2, slOf, enOf, begin_, seqAt, atMostOne, Sl.mut, pIsi, isD, isT, tyD, pLenN, pLst1, pLstRev, and_assoc, frzL, blkS, wipeS, toB, ptYes, qSetSrc, gEq, gNe, eqD, flatD, mixD, PyData.eqv, piSeq, piRng1, piRng2, piRng3, piFz, PD.gSub, PD.gDiv, PD.gMod, PD.gLt, PD.gLe, PD.gGt, PD.gGe, PD.gPow, PD.gShr, PD.gXor, pSlice, poNone, poSome, qPar3, gLeT]
  unfold leap at q
  by_cases h4 : y % 4 = 0 <;> by_cases h100 : y % 100 = 0 <;> simp [h4, h100] at q ⊢ <;> exact q
theorem pf_length_of : ∀ as Qr Qe, sp_length_of cD cO as Qr Qe → rd_length_of K cD cO (enOf Qr Qe) (begin_ 2 as) := by
  rintro as Qr Qe ⟨y, m, rfl, h1, h2, q⟩
  simp [rd_length_of, qSeq, qIf, qRet, qSet, qAsg, qPar, qDrop, qNx, qRaise, qBk, qCt, qRetN, qAug, pER, pRE, pC, pName, pBin, pTest, pTru, strFit, truD, pAnd, pOr, pNot, pAndV, pOrV, pNotV, pIf, pChain, pNeg, pNil, pCons, pTup, pLst, pIxN, pCB, pCall, pcNil, pcCons, pcSrc, pcFz, gtName, gtNil, gtCons, gtTup, gAdd, gMul, gI, gI0, gOrd, gIx, gLen, gInt, gI1, gI2, slOf, enOf, begin_, seqAt, atMostOne, Sl.mut, pIsi, isD, isT, tyD, pLenN, pLst1, pLstRev, and_assoc, frzL, blkS, wipeS, toB, ptYes, qSetSrc, gEq, gNe, eqD, flatD, mixD, PyData.eqv, piSeq, piRng1, piRng2, piRng3, piFz, PD.gSub, PD.gDiv, PD.gMod, PD.gLt, PD.gLe, PD.gGt, PD.gGe, PD.gPow, PD.gShr, PD.gXor, pSlice, poNone, poSome, qPar3, gLeT, sp_is_long, v_LENGTHS]
  by_cases hm : m = 2
  · subst hm
    have e := lp_leap y
    have q : Qr (.v (.int (28 + lp y))) := q
    refine ⟨_, rfl, ?_⟩
    cases hl : leap y <;> rw [hl] at e <;> simp at e <;> rw [e] at q <;> exact q
  · rcases m12 h1 h2 with h | h | h | h | h | h | h | h | h | h | h | h <;> subst h <;> first | exact absurd rfl hm | exact ⟨_, rfl, q⟩
theorem pf_check_year : ∀ as Qr Qe, sp_check_year cD cO as Qr Qe → rd_check_year K cD cO (enOf Qr Qe) (begin_ 1 as) := by
  rintro as Qr Qe ⟨d, rfl, q1, q2⟩
  simp [rd_check_year, qSeq, qIf, qRet, qSet, qAsg, qPar, qDrop, qNx, qRaise, qBk, qCt, qRetN, qAug, pER, pRE, pC, pName, pBin, pTest, pTru, strFit, truD, pAnd, pOr, pNot, pAndV, pOrV, pNotV, pIf, pChain, pNeg, pNil, pCons, pTup, pLst, pIxN, pCB, pCall, pcNil, pcCons, pcSrc, pcFz, gtName, gtNil, gtCons, gtTup, gAdd, gMul, gI, gI0, gOrd, gIx, gLen, gInt, gI1, gI2, slOf, enOf, begin_, seqAt, atMostOne, Sl.mut, pIsi, isD, isT, tyD, pLenN, pLst1, pLstRev, and_assoc, frzL, blkS, wipeS, toB, ptYes, qSetSrc, gEq, gNe, eqD, flatD, mixD, PyData.eqv, piSeq, piRng1, piRng2, piRng3, piFz, PD.gSub, PD.gDiv, PD.gMod, PD.gLt, PD.gLe, PD.gGt, PD.gGe, PD.gPow, PD.gShr, PD.gXor, pSlice, poNone, poSome, qPar3, gLeT, sp_is_number, v_LAST_YEAR]
  cases h : isNum d 0 2737 <;> simp [h] at q1 q2 ⊢ <;> assumption
theorem pf_new_year : ∀ as Qr Qe, sp_new_year cD cO as Qr Qe → rd_new_year K cD cO (enOf Qr Qe) (begin_ 1 as) := by
  rintro as Qr Qe ⟨y, rfl, h1, h2, q⟩
  simp [rd_new_year, qSeq, qIf, qRet, qSet, qAsg, qPar, qDrop, qNx, qRaise, qBk, qCt, qRetN, qAug, pER, pRE, pC, pName, pBin, pTest, pTru, strFit, truD, pAnd, pOr, pNot, pAndV, pOrV, pNotV, pIf, pChain, pNeg, pNil, pCons, pTup, pLst, pIxN, pCB, pCall, pcNil, pcCons, pcSrc, pcFz, gtName, gtNil, gtCons, gtTup, gAdd, gMul, gI, gI0, gOrd, gIx, gLen, gInt, gI1, gI2, slOf, enOf, begin_, seqAt, atMostOne, Sl.mut, pIsi, isD, isT, tyD, pLenN, pLst1, pLstRev, and_assoc, frzL, blkS, wipeS, toB, ptYes, qSetSrc, gEq, gNe, eqD, flatD, mixD, PyData.eqv, piSeq, piRng1, piRng2, piRng3, piFz, PD.gSub, PD.gDiv, PD.gMod, PD.gLt, PD.gLe, PD.gGt, PD.gGe, PD.gPow, PD.gShr, PD.gXor, pSlice, poNone, poSome, qPar3, gLeT]
  exact ⟨.inl (.inl (by omega)), ⟨by omega, .inl (by omega)⟩, ⟨by omega, .inl (by omega)⟩, ⟨by omega, .inl (by omega)⟩, q⟩
theorem sum_ml (y : Int) : ∀ n : Nat, n ≤ 12 → sumD ((List.range n).map fun (k : Nat) => PyData.int (ml y (1 + (k : Int)))) = bf y (1 + (n : Int))
  | 0, _ => by simp [sumD, bf]
  | n + 1, h => by
    rw [List.range_succ, List.map_append, sumD_append, sum_ml y n (by omega)]
    have := bf_succ (y := y) (m := 1 + (n : Int)) (by omega) (by omega)
    have e : 1 + ((n + 1 : Nat) : Int) = 1 + (n : Int) + 1 := by omega
    rw [e, this]
    simp [sumD]
theorem bf_bd (y : Int) {m : Int} (h1 : 1 ≤ m) (h2 : m ≤ 13) : 0 ≤ bf y m ∧ bf y m ≤ 366 := by
  have a := bf_le (y := y) (m := 1) (k := m) (by omega) h1 h2
  have b := bf_le (y := y) (m := m) (k := 13) h1 h2 (by omega)
  rw [bf1] at a
  rw [bf13] at b
  rcases lp01 y with z | z <;> omega
theorem inLong_of {i : Int} (h1 : -100000 ≤ i) (h2 : i ≤ 9000000000) : InLong i := ⟨by omega, by omega⟩
theorem pf_day_at : ∀ as Qr Qe, sp_day_at cD cO as Qr Qe → rd_day_at K cD cO (enOf Qr Qe) (begin_ 5 as) := by
  rintro as Qr Qe ⟨y, m, d, rfl, h1, h2, h3, h4, q⟩
  simp [rd_day_at, qSeq, qIf, qRet, qSet, qAsg, qPar, qDrop, qNx, qRaise, qBk, qCt, qRetN, qAug, pER, pRE, pC, pName, pBin, pTest, pTru, strFit, truD, pAnd, pOr, pNot, pAndV, pOrV, pNotV, pIf, pChain, pNeg, pNil, pCons, pTup, pLst, pIxN, pCB, pCall, pcNil, pcCons, pcSrc, pcFz, gtName, gtNil, gtCons, gtTup, gAdd, gMul, gI, gI0, gOrd, gIx, gLen, gInt, gI1, gI2, slOf, enOf, begin_, seqAt, atMostOne, Sl.mut, pIsi, isD, isT, tyD, pLenN, pLst1, pLstRev, and_assoc, frzL, blkS, wipeS, toB, ptYes, qSetSrc, gEq, gNe, eqD, flatD, mixD, PyData.eqv, piSeq, piRng1, piRng2, piRng3, piFz, PD.gSub, PD.gDiv, PD.gMod, PD.gLt, PD.gLe, PD.gGt, PD.gGe, PD.gPow, PD.gShr, PD.gXor, pSlice, poNone, poSome, qPar3, gLeT, pGx, GenOut, sp_length_of, sp_new_year]
  refine ⟨⟨by omega, by omega⟩, ⟨by omega, by omega⟩, (List.range (m.toNat - 1)).map fun (k : Nat) => PyData.int (ml y (1 + (k : Int))), ⟨fun i => i, rfl, by simp [rngD], fun i _ => Nat.le_succ i, fun i d hd => ?_⟩, ?_⟩
  · obtain ⟨hi, rfl⟩ := rngD_get hd
    refine ⟨1 + (i : Int), rfl, by omega, by omega, ?_⟩
    simp [hi]
  · refine ⟨fun o ho => ?_, fun k hk => ?_, by omega, by omega, ?_⟩
    · obtain ⟨k, hk, rfl⟩ := List.mem_map.mp ho
      have := ml_pos y (1 + (k : Int))
      exact ⟨_, rfl, inLong_of (by omega) (by omega)⟩
    · simp at hk
      rw [← List.map_take, List.take_range, Nat.min_eq_left hk, sum_ml y k (by omega)]
      have := bf_bd y (m := 1 + (k : Int)) (by omega) (by omega)
      exact inLong_of (by omega) (by omega)
    · rw [sum_ml y _ (by omega)]
      have e : 1 + ((m.toNat - 1 : Nat) : Int) = m := by omega
      rw [e]
      exact q
end K06

set_option Elab.async false
set_option linter.all false
set_option maxRecDepth 100000
namespace K06
open PySem L2 PD Cal
variable {K : PySem.W.Frag} {cD cO : Addr}
theorem pf_date_at : ∀ as Qr Qe, sp_date_at cD cO as Qr Qe → rd_date_at K cD cO (enOf Qr Qe) (begin_ 4 as) := by
  rintro as Qr Qe ⟨day, rfl, h1, h2, q⟩
  simp [rd_date_at, qSeq, qIf, qRet, qSet, qAsg, qPar, qDrop, qNx, qRaise, qBk, qCt, qRetN, qAug, pER, pRE, pC, pName, pBin, pTest, pTru, strFit, truD, pAnd, pOr, pNot, pAndV, pOrV, pNotV, pIf, pChain, pNeg, pNil, pCons, pTup, pLst, pIxN, pCB, pCall, pcNil, pcCons, pcSrc, pcFz, gtName, gtNil, gtCons, gtTup, gAdd, gMul, gI, gI0, gOrd, gIx, gLen, gInt, gI1, gI2, slOf, enOf, begin_, seqAt, atMostOne, Sl.mut, pIsi, isD, isT, tyD, pLenN, pLst1, pLstRev, and_assoc, frzL, blkS, wipeS, toB, ptYes, qSetSrc, gEq, gNe, eqD, flatD, mixD, PyData.eqv, piSeq, piRng1, piRng2, piRng3, piFz, PD.gSub, PD.gDiv, PD.gMod, PD.gLt, PD.gLe, PD.gGt, PD.gGe, PD.gPow, PD.gShr, PD.gXor, pSlice, poNone, poSome, qPar3, gLeT, sp_new_year, sp_length_of]
  refine ⟨.inl (.inl (by omega)), ⟨by omega, .inl (by omega)⟩, fun n ρ => ∃ y : Int, ρ = [.v (.int day), .v (.int y), .un, .un] ∧ 0 ≤ y ∧ y ≤ 10000 ∧ n = y.toNat, ⟨_, _, rfl, by omega, by omega, rfl⟩, ?_⟩
  rintro n ρ ⟨y, rfl, hy, hy2, rfl⟩
  simp [qSeq, qIf, qRet, qSet, qAsg, qPar, qDrop, qNx, qRaise, qBk, qCt, qRetN, qAug, pER, pRE, pC, pName, pBin, pTest, pTru, strFit, truD, pAnd, pOr, pNot, pAndV, pOrV, pNotV, pIf, pChain, pNeg, pNil, pCons, pTup, pLst, pIxN, pCB, pCall, pcNil, pcCons, pcSrc, pcFz, gtName, gtNil, gtCons, gtTup, gAdd, gMul, gI, gI0, gOrd, gIx, gLen, gInt, gI1, gI2, slOf, enOf, begin_, seqAt, atMostOne, Sl.mut, pIsi, isD, isT, tyD, pLenN, pLst1, pLstRev, and_assoc, frzL, blkS, wipeS, toB, ptYes, qSetSrc, gEq, gNe, eqD, flatD, mixD, PyData.eqv, piSeq, piRng1, piRng2, piRng3, piFz, PD.gSub, PD.gDiv, PD.gMod, PD.gLt, PD.gLe, PD.gGt, PD.gGe, PD.gPow, PD.gShr, PD.gXor, pSlice, poNone, poSome, qPar3, gLeT, sp_new_year, sp_length_of]
  refine ⟨by omega, by omega, ?_⟩
  split
  · rename_i hlt
    have y1 : 1 ≤ y := by
      rcases Int.lt_or_le y 1 with z | z
      · have : y = 0 := by omega
        subst this
        rw [ny0] at hlt
        omega
      · exact z
    exact ⟨_, by omega, by omega, by omega, rfl⟩
  · rename_i hge
    have hge : ny y ≤ day := by omega
    refine ⟨fun n ρ => ∃ y : Int, ρ = [.v (.int day), .v (.int y), .un, .un] ∧ 0 ≤ y ∧ y ≤ 10000 ∧ ny y ≤ day ∧ n = (day - y).toNat, ⟨_, _, rfl, hy, hy2, hge, rfl⟩, ?_⟩
    clear hge hy hy2
    rintro n ρ ⟨y, rfl, hy, hy2, hge, rfl⟩
    have hyd : 365 * y ≤ day := by
      have := ny_le (y := 0) (z := y) hy
      rw [ny0] at this
      omega
    simp [qSeq, qIf, qRet, qSet, qAsg, qPar, qDrop, qNx, qRaise, qBk, qCt, qRetN, qAug, pER, pRE, pC, pName, pBin, pTest, pTru, strFit, truD, pAnd, pOr, pNot, pAndV, pOrV, pNotV, pIf, pChain, pNeg, pNil, pCons, pTup, pLst, pIxN, pCB, pCall, pcNil, pcCons, pcSrc, pcFz, gtName, gtNil, gtCons, gtTup, gAdd, gMul, gI, gI0, gOrd, gIx, gLen, gInt, gI1, gI2, slOf, enOf, begin_, seqAt, atMostOne, Sl.mut, pIsi, isD, isT, tyD, pLenN, pLst1, pLstRev, and_assoc, frzL, blkS, wipeS, toB, ptYes, qSetSrc, gEq, gNe, eqD, flatD, mixD, PyData.eqv, piSeq, piRng1, piRng2, piRng3, piFz, PD.gSub, PD.gDiv, PD.gMod, PD.gLt, PD.gLe, PD.gGt, PD.gGe, PD.gPow, PD.gShr, PD.gXor, pSlice, poNone, poSome, qPar3, gLeT, sp_new_year, sp_length_of]
    refine ⟨by omega, by omega, ?_⟩
    split
    · rename_i hle
      have := ny_le (y := 0) (z := y + 1) (by omega)
      rw [ny0] at this
      exact ⟨_, by omega, by omega, by omega, hle, rfl⟩
    · rename_i hgt
      have hgt : day < ny (y + 1) := by omega
      refine ⟨by omega, by omega, ?_⟩
      refine ⟨fun n ρ => ∃ m : Int, ρ = [.v (.int day), .v (.int y), .v (.int (day - ny y - bf y m)), .v (.int m)] ∧ 1 ≤ m ∧ m ≤ 12 ∧ bf y m ≤ day - ny y ∧ n = (13 - m).toNat, ⟨_, 1, by rw [bf1]; simp, by omega, by omega, by rw [bf1]; omega, rfl⟩, ?_⟩
      rintro n ρ ⟨m, rfl, hm1, hm2, hb, rfl⟩
      have hs := bf_succ (y := y) hm1 hm2
      simp [qSeq, qIf, qRet, qSet, qAsg, qPar, qDrop, qNx, qRaise, qBk, qCt, qRetN, qAug, pER, pRE, pC, pName, pBin, pTest, pTru, strFit, truD, pAnd, pOr, pNot, pAndV, pOrV, pNotV, pIf, pChain, pNeg, pNil, pCons, pTup, pLst, pIxN, pCB, pCall, pcNil, pcCons, pcSrc, pcFz, gtName, gtNil, gtCons, gtTup, gAdd, gMul, gI, gI0, gOrd, gIx, gLen, gInt, gI1, gI2, slOf, enOf, begin_, seqAt, atMostOne, Sl.mut, pIsi, isD, isT, tyD, pLenN, pLst1, pLstRev, and_assoc, frzL, blkS, wipeS, toB, ptYes, qSetSrc, gEq, gNe, eqD, flatD, mixD, PyData.eqv, piSeq, piRng1, piRng2, piRng3, piFz, PD.gSub, PD.gDiv, PD.gMod, PD.gLt, PD.gLe, PD.gGt, PD.gGe, PD.gPow, PD.gShr, PD.gXor, pSlice, poNone, poSome, qPar3, gLeT, sp_new_year, sp_length_of]
      refine ⟨hm1, hm2, ?_⟩
      split
      · rename_i hl
        have hm : m ≠ 12 := fun e => by
          subst e
          have e3 := bf13 y
          have e4 := ny_succ y
          have hs : bf y 13 = bf y 12 + ml y 12 := hs
          omega
        exact ⟨hm1, hm2, _, by omega, m + 1, by rw [hs]; omega, rfl, by omega, by omega, by omega, rfl⟩
      · rename_i hl
        refine ⟨by decide, q y m _ ⟨hy, hm1, hm2, by omega, by omega⟩ (by unfold da; omega)⟩
theorem pf_date_of : ∀ as Qr Qe, sp_date_of cD cO as Qr Qe → rd_date_of K cD cO (enOf Qr Qe) (begin_ 1 as) := by
  rintro as Qr Qe ⟨i, rfl, q1, q2⟩
  simp [rd_date_of, qSeq, qIf, qRet, qSet, qAsg, qPar, qDrop, qNx, qRaise, qBk, qCt, qRetN, qAug, pER, pRE, pC, pName, pBin, pTest, pTru, strFit, truD, pAnd, pOr, pNot, pAndV, pOrV, pNotV, pIf, pChain, pNeg, pNil, pCons, pTup, pLst, pIxN, pCB, pCall, pcNil, pcCons, pcSrc, pcFz, gtName, gtNil, gtCons, gtTup, gAdd, gMul, gI, gI0, gOrd, gIx, gLen, gInt, gI1, gI2, slOf, enOf, begin_, seqAt, atMostOne, Sl.mut, pIsi, isD, isT, tyD, pLenN, pLst1, pLstRev, and_assoc, frzL, blkS, wipeS, toB, ptYes, qSetSrc, gEq, gNe, eqD, flatD, mixD, PyData.eqv, piSeq, piRng1, piRng2, piRng3, piFz, PD.gSub, PD.gDiv, PD.gMod, PD.gLt, PD.gLe, PD.gGt, PD.gGe, PD.gPow, PD.gShr, PD.gXor, pSlice, poNone, poSome, qPar3, gLeT, sp_check_day, sp_date_at]
  refine ⟨fun h => ?_, q2⟩
  have h' := h
  simp [isNum] at h'
  exact ⟨h'.1, h'.2, q1 h⟩
end K06

set_option Elab.async false
set_option linter.all false
set_option maxRecDepth 100000
namespace K06
open PySem L2 PD Cal
variable {K : PySem.W.Frag} {cD cO : Addr}
theorem szl {n : Nat} (h : n ≤ 100000) : n < sizeLine := by rw [sizeLine_eq]; omega
theorem pf__law_draws : ∀ as Qr Qe, sp__law_draws cD cO as Qr Qe → rd__law_draws K cD cO (enOf Qr Qe) (begin_ 7 as) := by
  rintro as Qr Qe ⟨ns, rfl, hns, q⟩
  simp [rd__law_draws, qSeq, qIf, qRet, qSet, qAsg, qPar, qDrop, qNx, qRaise, qBk, qCt, qRetN, qAug, pER, pRE, pC, pName, pBin, pTest, pTru, strFit, truD, pAnd, pOr, pNot, pAndV, pOrV, pNotV, pIf, pChain, pNeg, pNil, pCons, pTup, pLst, pIxN, pCB, pCall, pcNil, pcCons, pcSrc, pcFz, gtName, gtNil, gtCons, gtTup, gAdd, gMul, gI, gI0, gOrd, gIx, gLen, gInt, gI1, gI2, slOf, enOf, begin_, seqAt, atMostOne, Sl.mut, pIsi, isD, isT, tyD, pLenN, pLst1, pLstRev, and_assoc, frzL, blkS, wipeS, toB, ptYes, qSetSrc, gEq, gNe, eqD, flatD, mixD, PyData.eqv, piSeq, piRng1, piRng2, piRng3, piFz, PD.gSub, PD.gDiv, PD.gMod, PD.gLt, PD.gLe, PD.gGt, PD.gGe, PD.gPow, PD.gShr, PD.gXor, pSlice, poNone, poSome, qPar3, gLeT]
  simp only [qFor, piFz, List.getElem?_cons_zero]
  refine ⟨fun i ρ => ∃ (ms : List Int) (a b c d e : Sl), ρ = [.fz (ns.map PyData.int), .own (ms.map PyData.int), a, b, c, d, e] ∧ ms.length ≤ 62 * i, ⟨[], _, _, _, _, _, rfl, by simp⟩, ?_, ?_⟩
  · rintro i x ρ hx ⟨ms, a, b, c, d, e, rfl, hl⟩
    obtain ⟨n, hn, rfl⟩ : ∃ n, ns[i]? = some n ∧ x = .int n := by
      rw [List.getElem?_map] at hx
      cases h : ns[i]? with
      | none => rw [h] at hx; cases hx
      | some n => rw [h] at hx; exact ⟨n, rfl, (Option.some.inj hx).symm⟩
    have hi : i < ns.length := (List.getElem?_eq_some_iff.mp hn).1
    have inner : ∀ (ds : List PyData) (a c d e : Sl) (num : Int) (P : PEn), (∃ ms : List Int, ds = ms.map PyData.int ∧ ms.length ≤ 62 * i + 2) → (∀ (ms : List Int) (a c d e : Sl) (num : Int), ms.length ≤ 62 * i + 62 → P.nx [.fz (ns.map PyData.int), .own (ms.map PyData.int), a, .v (.int num), c, d, e]) →
        (qFor (piRng1 (pCons (pC (.int 60)) pNil)) (gtName 5) (qIf (pTest (pBin gGt (pName 3) (pC (.int 0)))) (qSeq (qDrop (pER (pMt 1 gAppend (pCons (pBin PD.gMod (pCB gInt (pCons (pName 3) pNil)) (pC (.int 997))) pNil)))) (qSet 3 (pER (pBin PD.gDiv (pName 3) (pC (.int 997)))))) qNx)) P [.fz (ns.map PyData.int), .own ds, a, .v (.int num), c, d, e] := by
      rintro ds a c d e num P ⟨ms, rfl, hm⟩ hP
      simp [qFor, qSeq, qIf, qRet, qSet, qAsg, qPar, qDrop, qNx, qRaise, qBk, qCt, qRetN, qAug, pER, pRE, pC, pName, pBin, pTest, pTru, strFit, truD, pAnd, pOr, pNot, pAndV, pOrV, pNotV, pIf, pChain, pNeg, pNil, pCons, pTup, pLst, pIxN, pCB, pCall, pcNil, pcCons, pcSrc, pcFz, gtName, gtNil, gtCons, gtTup, gAdd, gMul, gI, gI0, gOrd, gIx, gLen, gInt, gI1, gI2, slOf, enOf, begin_, seqAt, atMostOne, Sl.mut, pIsi, isD, isT, tyD, pLenN, pLst1, pLstRev, and_assoc, frzL, blkS, wipeS, toB, ptYes, qSetSrc, gEq, gNe, eqD, flatD, mixD, PyData.eqv, piSeq, piRng1, piRng2, piRng3, piFz, PD.gSub, PD.gDiv, PD.gMod, PD.gLt, PD.gLe, PD.gGt, PD.gGe, PD.gPow, PD.gShr, PD.gXor, pSlice, poNone, poSome, qPar3, gLeT, rOk]
      refine ⟨fun j ρ => ∃ (ms : List Int) (d : Sl) (num : Int), ρ = [.fz (ns.map PyData.int), .own (ms.map PyData.int), a, .v (.int num), c, d, e] ∧ ms.length ≤ 62 * i + 2 + j, ⟨ms, d, num, rfl, by omega⟩, ?_, ?_⟩
      · rintro j y ρ hy ⟨ms, d, num, rfl, hm⟩
        have hj := (rngD_get hy).1
        simp [qSeq, qIf, qRet, qSet, qAsg, qPar, qDrop, qNx, qRaise, qBk, qCt, qRetN, qAug, pER, pRE, pC, pName, pBin, pTest, pTru, strFit, truD, pAnd, pOr, pNot, pAndV, pOrV, pNotV, pIf, pChain, pNeg, pNil, pCons, pTup, pLst, pIxN, pCB, pCall, pcNil, pcCons, pcSrc, pcFz, gtName, gtNil, gtCons, gtTup, gAdd, gMul, gI, gI0, gOrd, gIx, gLen, gInt, gI1, gI2, slOf, enOf, begin_, seqAt, atMostOne, Sl.mut, pIsi, isD, isT, tyD, pLenN, pLst1, pLstRev, and_assoc, frzL, blkS, wipeS, toB, ptYes, qSetSrc, gEq, gNe, eqD, flatD, mixD, PyData.eqv, piSeq, piRng1, piRng2, piRng3, piFz, PD.gSub, PD.gDiv, PD.gMod, PD.gLt, PD.gLe, PD.gGt, PD.gGe, PD.gPow, PD.gShr, PD.gXor, pSlice, poNone, poSome, qPar3, gLeT, pMt, ownAt, gAppend, setOwn]
        split
        · refine ⟨szl (by omega), ⟨by omega, .inl (by omega)⟩, ms ++ [num % 997], ?_⟩
          simp
          omega
        · exact ⟨ms, rfl, by omega⟩
      · rintro ρ ⟨ms, d, num, rfl, hm⟩
        rw [rngD_length] at hm
        exact hP ms a c d e num (by omega)
    simp [qSeq, qIf, qRet, qSet, qAsg, qPar, qDrop, qNx, qRaise, qBk, qCt, qRetN, qAug, pER, pRE, pC, pName, pBin, pTest, pTru, strFit, truD, pAnd, pOr, pNot, pAndV, pOrV, pNotV, pIf, pChain, pNeg, pNil, pCons, pTup, pLst, pIxN, pCB, pCall, pcNil, pcCons, pcSrc, pcFz, gtName, gtNil, gtCons, gtTup, gAdd, gMul, gI, gI0, gOrd, gIx, gLen, gInt, gI1, gI2, slOf, enOf, begin_, seqAt, atMostOne, Sl.mut, pIsi, isD, isT, tyD, pLenN, pLst1, pLstRev, and_assoc, frzL, blkS, wipeS, toB, ptYes, qSetSrc, gEq, gNe, eqD, flatD, mixD, PyData.eqv, piSeq, piRng1, piRng2, piRng3, piFz, PD.gSub, PD.gDiv, PD.gMod, PD.gLt, PD.gLe, PD.gGt, PD.gGe, PD.gPow, PD.gShr, PD.gXor, pSlice, poNone, poSome, qPar3, gLeT, pMt, ownAt, gAppend, setOwn]
    generalize (if n < 0 then -n else n) = num
    refine ⟨by unfold CPowA; decide, ?_⟩
    split
    · refine ⟨.inl (.inr (by omega)), .inl (.inr (by omega)), szl (by omega), ⟨by omega, .inl (by omega)⟩, szl (by omega), inner _ _ _ _ _ _ _ ⟨ms ++ [_, _], by simp; exact ⟨rfl, rfl⟩, by simp; omega⟩ fun ms a c d e num h => ⟨ms, ⟨_, _, _, _, _, rfl⟩, by omega⟩⟩
    · exact inner _ _ _ _ _ _ _ ⟨ms, rfl, by omega⟩ fun ms a c d e num h => ⟨ms, ⟨_, _, _, _, _, rfl⟩, by omega⟩
  · rintro ρ ⟨ms, a, b, c, d, e, rfl, hl⟩
    simp at hl
    have last : ∀ (ms : List Int) (a b c d : Sl) (s : Int) (P : PEn), ms.length ≤ 4000 → P.rt = Qr → (∀ ms : List Int, ∀ a b c d f, P.nx [.fz (ns.map PyData.int), .own (ms.map PyData.int), a, b, c, d, f]) →
        (qFor (piRng1 (pCons (pC (.int 900)) pNil)) (gtName 5) (qSeq (qSet 6 (pER (pBin PD.gMod (pCB gInt (pCons (pBin gAdd (pBin gMul (pName 6) (pC (.int 48271))) (pC (.int 69621))) pNil)) (pC (.int 2147483647))))) (qDrop (pER (pMt 1 gAppend (pCons (pBin PD.gDiv (pName 6) (pC (.int 5))) pNil)))))) P [.fz (ns.map PyData.int), .own (ms.map PyData.int), a, b, c, d, .v (.int s)] := by
      rintro ms a b c d s P hm _ hP
      simp [qFor, qSeq, qIf, qRet, qSet, qAsg, qPar, qDrop, qNx, qRaise, qBk, qCt, qRetN, qAug, pER, pRE, pC, pName, pBin, pTest, pTru, strFit, truD, pAnd, pOr, pNot, pAndV, pOrV, pNotV, pIf, pChain, pNeg, pNil, pCons, pTup, pLst, pIxN, pCB, pCall, pcNil, pcCons, pcSrc, pcFz, gtName, gtNil, gtCons, gtTup, gAdd, gMul, gI, gI0, gOrd, gIx, gLen, gInt, gI1, gI2, slOf, enOf, begin_, seqAt, atMostOne, Sl.mut, pIsi, isD, isT, tyD, pLenN, pLst1, pLstRev, and_assoc, frzL, blkS, wipeS, toB, ptYes, qSetSrc, gEq, gNe, eqD, flatD, mixD, PyData.eqv, piSeq, piRng1, piRng2, piRng3, piFz, PD.gSub, PD.gDiv, PD.gMod, PD.gLt, PD.gLe, PD.gGt, PD.gGe, PD.gPow, PD.gShr, PD.gXor, pSlice, poNone, poSome, qPar3, gLeT, rOk]
      refine ⟨fun j ρ => ∃ (ms : List Int) (d : Sl) (s : Int), ρ = [.fz (ns.map PyData.int), .own (ms.map PyData.int), a, b, c, d, .v (.int s)] ∧ ms.length ≤ 4000 + j, ⟨ms, d, s, rfl, by omega⟩, ?_, ?_⟩
      · rintro j y ρ hy ⟨ms, d, s, rfl, hm⟩
        have hj := (rngD_get hy).1
        simp [qSeq, qIf, qRet, qSet, qAsg, qPar, qDrop, qNx, qRaise, qBk, qCt, qRetN, qAug, pER, pRE, pC, pName, pBin, pTest, pTru, strFit, truD, pAnd, pOr, pNot, pAndV, pOrV, pNotV, pIf, pChain, pNeg, pNil, pCons, pTup, pLst, pIxN, pCB, pCall, pcNil, pcCons, pcSrc, pcFz, gtName, gtNil, gtCons, gtTup, gAdd, gMul, gI, gI0, gOrd, gIx, gLen, gInt, gI1, gI2, slOf, enOf, begin_, seqAt, atMostOne, Sl.mut, pIsi, isD, isT, tyD, pLenN, pLst1, pLstRev, and_assoc, frzL, blkS, wipeS, toB, ptYes, qSetSrc, gEq, gNe, eqD, flatD, mixD, PyData.eqv, piSeq, piRng1, piRng2, piRng3, piFz, PD.gSub, PD.gDiv, PD.gMod, PD.gLt, PD.gLe, PD.gGt, PD.gGe, PD.gPow, PD.gShr, PD.gXor, pSlice, poNone, poSome, qPar3, gLeT, pMt, ownAt, gAppend, setOwn]
        refine ⟨.inl (.inr (by omega)), ⟨by omega, .inl (by omega)⟩, szl (by omega), ms ++ [(s * 48271 + 69621) % 2147483647 / 5], ?_⟩
        simp
        omega
      · rintro ρ ⟨ms, d, s, rfl, hm⟩
        exact hP ms _ _ _ _ _
    have fin : ∀ s : Int, (qSeq (qFor (piRng1 (pCons (pC (.int 900)) pNil)) (gtName 5) (qSeq (qSet 6 (pER (pBin PD.gMod (pCB gInt (pCons (pBin gAdd (pBin gMul (pName 6) (pC (.int 48271))) (pC (.int 69621))) pNil)) (pC (.int 2147483647))))) (qDrop (pER (pMt 1 gAppend (pCons (pBin PD.gDiv (pName 6) (pC (.int 5))) pNil)))))) (qRet (pLstRev (pName 1)))) (enOf Qr Qe) [.fz (ns.map PyData.int), .own (ms.map PyData.int), a, b, c, d, .v (.int s)] := by
      intro s
      unfold qSeq
      refine last ms a b c d s _ (by omega) rfl fun ms a b c d f => ?_
      simp [qSeq, qIf, qRet, qSet, qAsg, qPar, qDrop, qNx, qRaise, qBk, qCt, qRetN, qAug, pER, pRE, pC, pName, pBin, pTest, pTru, strFit, truD, pAnd, pOr, pNot, pAndV, pOrV, pNotV, pIf, pChain, pNeg, pNil, pCons, pTup, pLst, pIxN, pCB, pCall, pcNil, pcCons, pcSrc, pcFz, gtName, gtNil, gtCons, gtTup, gAdd, gMul, gI, gI0, gOrd, gIx, gLen, gInt, gI1, gI2, slOf, enOf, begin_, seqAt, atMostOne, Sl.mut, pIsi, isD, isT, tyD, pLenN, pLst1, pLstRev, and_assoc, frzL, blkS, wipeS, toB, ptYes, qSetSrc, gEq, gNe, eqD, flatD, mixD, PyData.eqv, piSeq, piRng1, piRng2, piRng3, piFz, PD.gSub, PD.gDiv, PD.gMod, PD.gLt, PD.gLe, PD.gGt, PD.gGe, PD.gPow, PD.gShr, PD.gXor, pSlice, poNone, poSome, qPar3, gLeT]
      have z := q ms.reverse
      simpa using z
    simp [qSeq, qIf, qRet, qSet, qAsg, qPar, qDrop, qNx, qRaise, qBk, qCt, qRetN, qAug, pER, pRE, pC, pName, pBin, pTest, pTru, strFit, truD, pAnd, pOr, pNot, pAndV, pOrV, pNotV, pIf, pChain, pNeg, pNil, pCons, pTup, pLst, pIxN, pCB, pCall, pcNil, pcCons, pcSrc, pcFz, gtName, gtNil, gtCons, gtTup, gAdd, gMul, gI, gI0, gOrd, gIx, gLen, gInt, gI1, gI2, slOf, enOf, begin_, seqAt, atMostOne, Sl.mut, pIsi, isD, isT, tyD, pLenN, pLst1, pLstRev, and_assoc, frzL, blkS, wipeS, toB, ptYes, qSetSrc, gEq, gNe, eqD, flatD, mixD, PyData.eqv, piSeq, piRng1, piRng2, piRng3, piFz, PD.gSub, PD.gDiv, PD.gMod, PD.gLt, PD.gLe, PD.gGt, PD.gGe, PD.gPow, PD.gShr, PD.gXor, pSlice, poNone, poSome, qPar3, gLeT]
    split
    · rename_i h
      cases ns with
      | nil => simp at h
      | cons n r => exact ⟨.int n, atI_nat (j := 0) rfl, fin _⟩
    · exact fin 1
theorem pf__law_take : ∀ as Qr Qe, sp__law_take cD cO as Qr Qe → rd__law_take K cD cO (enOf Qr Qe) (begin_ 2 as) := by
  rintro as Qr Qe ⟨b, rfl, hb, q⟩
  exact ⟨rfl, b, rfl, hb, q⟩
theorem pf__law_leap : ∀ as Qr Qe, sp__law_leap cD cO as Qr Qe → rd__law_leap K cD cO (enOf Qr Qe) (begin_ 1 as) := by
  rintro as Qr Qe ⟨y, rfl, q⟩
  simp [rd__law_leap, qSeq, qIf, qRet, qSet, qAsg, qPar, qDrop, qNx, qRaise, qBk, qCt, qRetN, qAug, pER, pRE, pC, pName, pBin, pTest, pTru, strFit, truD, pAnd, pOr, pNot, pAndV, pOrV, pNotV, pIf, pChain, pNeg, pNil, pCons, pTup, pLst, pIxN, pCB, pCall, pcNil, pcCons, pcSrc, pcFz, gtName, gtNil, gtCons, gtTup, gAdd, gMul, gI, gI0, gOrd, gIx, gLen, gInt, gI1, gI2, slOf, enOf, begin_, seqAt, atMostOne, Sl.mut, pIsi, isD, isT, tyD, pLenN, pLst1, pLstRev, and_assoc, frzL, blkS, wipeS, toB, ptYes, qSetSrc, gEq, gNe, eqD, flatD, mixD, PyData.eqv, piSeq, piRng1, piRng2, piRng3, piFz, PD.gSub, PD.gDiv, PD.gMod, PD.gLt, PD.gLe, PD.gGt, PD.gGe, PD.gPow, PD.gShr, PD.gXor, pSlice, poNone, poSome, qPar3, gLeT]
  unfold leap at q
  by_cases h4 : y % 4 = 0 <;> by_cases h100 : y % 100 = 0 <;> by_cases h400 : y % 400 = 0 <;> simp [h4, h100, h400] at q ⊢ <;> first | exact q | (exfalso; omega) | (rw [show (y % 400 == 0) = false from beq_eq_false_iff_ne.mpr h400]; exact q)
theorem pf__law_length : ∀ as Qr Qe, sp__law_length cD cO as Qr Qe → rd__law_length K cD cO (enOf Qr Qe) (begin_ 2 as) := by
  rintro as Qr Qe ⟨y, m, rfl, h1, h2, q⟩
  simp [rd__law_length, qSeq, qIf, qRet, qSet, qAsg, qPar, qDrop, qNx, qRaise, qBk, qCt, qRetN, qAug, pER, pRE, pC, pName, pBin, pTest, pTru, strFit, truD, pAnd, pOr, pNot, pAndV, pOrV, pNotV, pIf, pChain, pNeg, pNil, pCons, pTup, pLst, pIxN, pCB, pCall, pcNil, pcCons, pcSrc, pcFz, gtName, gtNil, gtCons, gtTup, gAdd, gMul, gI, gI0, gOrd, gIx, gLen, gInt, gI1, gI2, slOf, enOf, begin_, seqAt, atMostOne, Sl.mut, pIsi, isD, isT, tyD, pLenN, pLst1, pLstRev, and_assoc, frzL, blkS, wipeS, toB, ptYes, qSetSrc, gEq, gNe, eqD, flatD, mixD, PyData.eqv, piSeq, piRng1, piRng2, piRng3, piFz, PD.gSub, PD.gDiv, PD.gMod, PD.gLt, PD.gLe, PD.gGt, PD.gGe, PD.gPow, PD.gShr, PD.gXor, pSlice, poNone, poSome, qPar3, gLeT, sp__law_leap]
  refine ⟨by rw [sizeLine_eq]; omega, ?_⟩
  by_cases hm : m = 2
  · subst hm
    have e := lp_leap y
    have q : Qr (.v (.int (28 + lp y))) := q
    refine ⟨_, rfl, ?_⟩
    cases hl : leap y <;> rw [hl] at e <;> simp at e <;> rw [e] at q <;> exact q
  · rcases m12 h1 h2 with h | h | h | h | h | h | h | h | h | h | h | h <;> subst h <;> first | exact absurd rfl hm | exact ⟨_, rfl, q⟩
theorem pf__law_same0 : ∀ as Qr Qe, spSame 0 as Qr Qe → rd__law_same K cD cO (fun _ _ _ => False) (enOf Qr Qe) (begin_ 3 as) := by
  rintro as Qr Qe ⟨d, rfl, hd, q⟩
  cases d with
  | none => simp [rd__law_same, qSeq, qIf, qRet, qSet, qAsg, qPar, qDrop, qNx, qRaise, qBk, qCt, qRetN, qAug, pER, pRE, pC, pName, pBin, pTest, pTru, strFit, truD, pAnd, pOr, pNot, pAndV, pOrV, pNotV, pIf, pChain, pNeg, pNil, pCons, pTup, pLst, pIxN, pCB, pCall, pcNil, pcCons, pcSrc, pcFz, gtName, gtNil, gtCons, gtTup, gAdd, gMul, gI, gI0, gOrd, gIx, gLen, gInt, gI1, gI2, slOf, enOf, begin_, seqAt, atMostOne, Sl.mut, pIsi, isD, isT, tyD, pLenN, pLst1, pLstRev, and_assoc, frzL, blkS, wipeS, toB, ptYes, qSetSrc, gEq, gNe, eqD, flatD, mixD, PyData.eqv, piSeq, piRng1, piRng2, piRng3, piFz, PD.gSub, PD.gDiv, PD.gMod, PD.gLt, PD.gLe, PD.gGt, PD.gGe, PD.gPow, PD.gShr, PD.gXor, pSlice, poNone, poSome, qPar3, gLeT, gIs, isN]; exact q
  | bool b => simp [rd__law_same, qSeq, qIf, qRet, qSet, qAsg, qPar, qDrop, qNx, qRaise, qBk, qCt, qRetN, qAug, pER, pRE, pC, pName, pBin, pTest, pTru, strFit, truD, pAnd, pOr, pNot, pAndV, pOrV, pNotV, pIf, pChain, pNeg, pNil, pCons, pTup, pLst, pIxN, pCB, pCall, pcNil, pcCons, pcSrc, pcFz, gtName, gtNil, gtCons, gtTup, gAdd, gMul, gI, gI0, gOrd, gIx, gLen, gInt, gI1, gI2, slOf, enOf, begin_, seqAt, atMostOne, Sl.mut, pIsi, isD, isT, tyD, pLenN, pLst1, pLstRev, and_assoc, frzL, blkS, wipeS, toB, ptYes, qSetSrc, gEq, gNe, eqD, flatD, mixD, PyData.eqv, piSeq, piRng1, piRng2, piRng3, piFz, PD.gSub, PD.gDiv, PD.gMod, PD.gLt, PD.gLe, PD.gGt, PD.gGe, PD.gPow, PD.gShr, PD.gXor, pSlice, poNone, poSome, qPar3, gLeT, gIs, isN]; exact q
  | int b => simp [rd__law_same, qSeq, qIf, qRet, qSet, qAsg, qPar, qDrop, qNx, qRaise, qBk, qCt, qRetN, qAug, pER, pRE, pC, pName, pBin, pTest, pTru, strFit, truD, pAnd, pOr, pNot, pAndV, pOrV, pNotV, pIf, pChain, pNeg, pNil, pCons, pTup, pLst, pIxN, pCB, pCall, pcNil, pcCons, pcSrc, pcFz, gtName, gtNil, gtCons, gtTup, gAdd, gMul, gI, gI0, gOrd, gIx, gLen, gInt, gI1, gI2, slOf, enOf, begin_, seqAt, atMostOne, Sl.mut, pIsi, isD, isT, tyD, pLenN, pLst1, pLstRev, and_assoc, frzL, blkS, wipeS, toB, ptYes, qSetSrc, gEq, gNe, eqD, flatD, mixD, PyData.eqv, piSeq, piRng1, piRng2, piRng3, piFz, PD.gSub, PD.gDiv, PD.gMod, PD.gLt, PD.gLe, PD.gGt, PD.gGe, PD.gPow, PD.gShr, PD.gXor, pSlice, poNone, poSome, qPar3, gLeT, gIs, isN]; exact q
  | str b => simp [rd__law_same, qSeq, qIf, qRet, qSet, qAsg, qPar, qDrop, qNx, qRaise, qBk, qCt, qRetN, qAug, pER, pRE, pC, pName, pBin, pTest, pTru, strFit, truD, pAnd, pOr, pNot, pAndV, pOrV, pNotV, pIf, pChain, pNeg, pNil, pCons, pTup, pLst, pIxN, pCB, pCall, pcNil, pcCons, pcSrc, pcFz, gtName, gtNil, gtCons, gtTup, gAdd, gMul, gI, gI0, gOrd, gIx, gLen, gInt, gI1, gI2, slOf, enOf, begin_, seqAt, atMostOne, Sl.mut, pIsi, isD, isT, tyD, pLenN, pLst1, pLstRev, and_assoc, frzL, blkS, wipeS, toB, ptYes, qSetSrc, gEq, gNe, eqD, flatD, mixD, PyData.eqv, piSeq, piRng1, piRng2, piRng3, piFz, PD.gSub, PD.gDiv, PD.gMod, PD.gLt, PD.gLe, PD.gGt, PD.gGe, PD.gPow, PD.gShr, PD.gXor, pSlice, poNone, poSome, qPar3, gLeT, gIs, isN]; exact q
  | dict b => cases hd
  | list ds => cases hd
  | tuple ds => cases hd
theorem pf__law_same {k : Nat} : ∀ as Qr Qe, spSame (k + 1) as Qr Qe → rd__law_same K cD cO (spSame k) (enOf Qr Qe) (begin_ 3 as) := by
  have seq : ∀ (ds : List PyData) (d : PyData) (P : PEn), (d = .list ds ∨ d = .tuple ds) → ds.length ≤ 1000000 → ds.all (dep k) = true → (∀ x, P.nx [.v d, .v d, x]) →
      (qFor (piRng1 (pCons (pCB gLen (pCons (pName 1) pNil)) pNil)) (gtName 2) (qIf (pNot (pTru (pRE (pCall (spSame k) (pcCons (pIxN 0 (pName 2)) (pcCons (pIxN 1 (pName 2)) pcNil)))))) (qRet (pER (pC (.bool false)))) qNx)) P [.v d, .v d, .un] := by
    rintro ds d P hd hl ha hP
    have hat : ∀ j : Nat, (h : j < ds.length) → atI ds (j : Int) = some ds[j] := fun j h => by
      exact atI_nat (List.getElem?_eq_getElem h)
    have hda : ∀ j : Nat, (h : j < ds.length) → dep k ds[j] = true := fun j h => List.all_eq_true.mp ha _ (List.getElem_mem h)
    rcases hd with rfl | rfl
    all_goals
      simp only [qFor, qSeq, qIf, qRet, qSet, qAsg, qPar, qDrop, qNx, qRaise, qBk, qCt, qRetN, qAug, pER, pRE, pC, pName, pBin, pTest, pTru, strFit, truD, pAnd, pOr, pNot, pAndV, pOrV, pNotV, pIf, pChain, pNeg, pNil, pCons, pTup, pLst, pIxN, pCB, pCall, pcNil, pcCons, pcSrc, pcFz, gtName, gtNil, gtCons, gtTup, gAdd, gMul, gI, gI0, gOrd, gIx, gLen, gInt, gI1, gI2, slOf, enOf, begin_, seqAt, atMostOne, Sl.mut, pIsi, isD, isT, tyD, pLenN, pLst1, pLstRev, and_assoc, frzL, blkS, wipeS, toB, ptYes, qSetSrc, gEq, gNe, eqD, flatD, mixD, PyData.eqv, piSeq, piRng1, piRng2, piRng3, piFz, PD.gSub, PD.gDiv, PD.gMod, PD.gLt, PD.gLe, PD.gGt, PD.gGe, PD.gPow, PD.gShr, PD.gXor, pSlice, poNone, poSome, qPar3, gLeT, List.getElem?_cons_succ, List.getElem?_cons_zero]
      refine ⟨⟨by omega, by omega⟩, fun j ρ => ∃ x, ρ = [_, _, x], ⟨_, rfl⟩, ?_, ?_⟩
      · rintro j y ρ hy ⟨x, rfl⟩
        obtain ⟨hj, rfl⟩ := rngD_get hy
        have hj : j < ds.length := by omega
        have h1 := hat j hj
        have h2 := hda j hj
        simp [qSeq, qIf, qRet, qSet, qAsg, qPar, qDrop, qNx, qRaise, qBk, qCt, qRetN, qAug, pER, pRE, pC, pName, pBin, pTest, pTru, strFit, truD, pAnd, pOr, pNot, pAndV, pOrV, pNotV, pIf, pChain, pNeg, pNil, pCons, pTup, pLst, pIxN, pCB, pCall, pcNil, pcCons, pcSrc, pcFz, gtName, gtNil, gtCons, gtTup, gAdd, gMul, gI, gI0, gOrd, gIx, gLen, gInt, gI1, gI2, slOf, enOf, begin_, seqAt, atMostOne, Sl.mut, pIsi, isD, isT, tyD, pLenN, pLst1, pLstRev, and_assoc, frzL, blkS, wipeS, toB, ptYes, qSetSrc, gEq, gNe, eqD, flatD, mixD, PyData.eqv, piSeq, piRng1, piRng2, piRng3, piFz, PD.gSub, PD.gDiv, PD.gMod, PD.gLt, PD.gLe, PD.gGt, PD.gGe, PD.gPow, PD.gShr, PD.gXor, pSlice, poNone, poSome, qPar3, gLeT, spSame]
        exact ⟨_, h1, _, h1, rfl, h2⟩
      · rintro ρ ⟨x, rfl⟩
        exact hP x
  rintro as Qr Qe ⟨d, rfl, hd, q⟩
  cases d with
  | none => simp [rd__law_same, qSeq, qIf, qRet, qSet, qAsg, qPar, qDrop, qNx, qRaise, qBk, qCt, qRetN, qAug, pER, pRE, pC, pName, pBin, pTest, pTru, strFit, truD, pAnd, pOr, pNot, pAndV, pOrV, pNotV, pIf, pChain, pNeg, pNil, pCons, pTup, pLst, pIxN, pCB, pCall, pcNil, pcCons, pcSrc, pcFz, gtName, gtNil, gtCons, gtTup, gAdd, gMul, gI, gI0, gOrd, gIx, gLen, gInt, gI1, gI2, slOf, enOf, begin_, seqAt, atMostOne, Sl.mut, pIsi, isD, isT, tyD, pLenN, pLst1, pLstRev, and_assoc, frzL, blkS, wipeS, toB, ptYes, qSetSrc, gEq, gNe, eqD, flatD, mixD, PyData.eqv, piSeq, piRng1, piRng2, piRng3, piFz, PD.gSub, PD.gDiv, PD.gMod, PD.gLt, PD.gLe, PD.gGt, PD.gGe, PD.gPow, PD.gShr, PD.gXor, pSlice, poNone, poSome, qPar3, gLeT, gIs, isN]; exact q
  | bool b => simp [rd__law_same, qSeq, qIf, qRet, qSet, qAsg, qPar, qDrop, qNx, qRaise, qBk, qCt, qRetN, qAug, pER, pRE, pC, pName, pBin, pTest, pTru, strFit, truD, pAnd, pOr, pNot, pAndV, pOrV, pNotV, pIf, pChain, pNeg, pNil, pCons, pTup, pLst, pIxN, pCB, pCall, pcNil, pcCons, pcSrc, pcFz, gtName, gtNil, gtCons, gtTup, gAdd, gMul, gI, gI0, gOrd, gIx, gLen, gInt, gI1, gI2, slOf, enOf, begin_, seqAt, atMostOne, Sl.mut, pIsi, isD, isT, tyD, pLenN, pLst1, pLstRev, and_assoc, frzL, blkS, wipeS, toB, ptYes, qSetSrc, gEq, gNe, eqD, flatD, mixD, PyData.eqv, piSeq, piRng1, piRng2, piRng3, piFz, PD.gSub, PD.gDiv, PD.gMod, PD.gLt, PD.gLe, PD.gGt, PD.gGe, PD.gPow, PD.gShr, PD.gXor, pSlice, poNone, poSome, qPar3, gLeT, gIs, isN]; exact q
  | int b => simp [rd__law_same, qSeq, qIf, qRet, qSet, qAsg, qPar, qDrop, qNx, qRaise, qBk, qCt, qRetN, qAug, pER, pRE, pC, pName, pBin, pTest, pTru, strFit, truD, pAnd, pOr, pNot, pAndV, pOrV, pNotV, pIf, pChain, pNeg, pNil, pCons, pTup, pLst, pIxN, pCB, pCall, pcNil, pcCons, pcSrc, pcFz, gtName, gtNil, gtCons, gtTup, gAdd, gMul, gI, gI0, gOrd, gIx, gLen, gInt, gI1, gI2, slOf, enOf, begin_, seqAt, atMostOne, Sl.mut, pIsi, isD, isT, tyD, pLenN, pLst1, pLstRev, and_assoc, frzL, blkS, wipeS, toB, ptYes, qSetSrc, gEq, gNe, eqD, flatD, mixD, PyData.eqv, piSeq, piRng1, piRng2, piRng3, piFz, PD.gSub, PD.gDiv, PD.gMod, PD.gLt, PD.gLe, PD.gGt, PD.gGe, PD.gPow, PD.gShr, PD.gXor, pSlice, poNone, poSome, qPar3, gLeT, gIs, isN]; exact q
  | str b => simp [rd__law_same, qSeq, qIf, qRet, qSet, qAsg, qPar, qDrop, qNx, qRaise, qBk, qCt, qRetN, qAug, pER, pRE, pC, pName, pBin, pTest, pTru, strFit, truD, pAnd, pOr, pNot, pAndV, pOrV, pNotV, pIf, pChain, pNeg, pNil, pCons, pTup, pLst, pIxN, pCB, pCall, pcNil, pcCons, pcSrc, pcFz, gtName, gtNil, gtCons, gtTup, gAdd, gMul, gI, gI0, gOrd, gIx, gLen, gInt, gI1, gI2, slOf, enOf, begin_, seqAt, atMostOne, Sl.mut, pIsi, isD, isT, tyD, pLenN, pLst1, pLstRev, and_assoc, frzL, blkS, wipeS, toB, ptYes, qSetSrc, gEq, gNe, eqD, flatD, mixD, PyData.eqv, piSeq, piRng1, piRng2, piRng3, piFz, PD.gSub, PD.gDiv, PD.gMod, PD.gLt, PD.gLe, PD.gGt, PD.gGe, PD.gPow, PD.gShr, PD.gXor, pSlice, poNone, poSome, qPar3, gLeT, gIs, isN]; exact q
  | dict b => cases hd
  | list ds =>
    simp [dep] at hd
    simp [rd__law_same, qSeq, qIf, qRet, qSet, qAsg, qPar, qDrop, qNx, qRaise, qBk, qCt, qRetN, qAug, pER, pRE, pC, pName, pBin, pTest, pTru, strFit, truD, pAnd, pOr, pNot, pAndV, pOrV, pNotV, pIf, pChain, pNeg, pNil, pCons, pTup, pLst, pIxN, pCB, pCall, pcNil, pcCons, pcSrc, pcFz, gtName, gtNil, gtCons, gtTup, gAdd, gMul, gI, gI0, gOrd, gIx, gLen, gInt, gI1, gI2, slOf, enOf, begin_, seqAt, atMostOne, Sl.mut, pIsi, isD, isT, tyD, pLenN, pLst1, pLstRev, and_assoc, frzL, blkS, wipeS, toB, ptYes, qSetSrc, gEq, gNe, eqD, flatD, mixD, PyData.eqv, piSeq, piRng1, piRng2, piRng3, piFz, PD.gSub, PD.gDiv, PD.gMod, PD.gLt, PD.gLe, PD.gGt, PD.gGe, PD.gPow, PD.gShr, PD.gXor, pSlice, poNone, poSome, qPar3, gLeT, gIs, isN]
    refine seq ds _ _ (.inl rfl) hd.1 (by simpa using hd.2) fun x => ?_
    simp [qSeq, qIf, qRet, qSet, qAsg, qPar, qDrop, qNx, qRaise, qBk, qCt, qRetN, qAug, pER, pRE, pC, pName, pBin, pTest, pTru, strFit, truD, pAnd, pOr, pNot, pAndV, pOrV, pNotV, pIf, pChain, pNeg, pNil, pCons, pTup, pLst, pIxN, pCB, pCall, pcNil, pcCons, pcSrc, pcFz, gtName, gtNil, gtCons, gtTup, gAdd, gMul, gI, gI0, gOrd, gIx, gLen, gInt, gI1, gI2, slOf, enOf, begin_, seqAt, atMostOne, Sl.mut, pIsi, isD, isT, tyD, pLenN, pLst1, pLstRev, and_assoc, frzL, blkS, wipeS, toB, ptYes, qSetSrc, gEq, gNe, eqD, flatD, mixD, PyData.eqv, piSeq, piRng1, piRng2, piRng3, piFz, PD.gSub, PD.gDiv, PD.gMod, PD.gLt, PD.gLe, PD.gGt, PD.gGe, PD.gPow, PD.gShr, PD.gXor, pSlice, poNone, poSome, qPar3, gLeT]
    exact q
  | tuple ds =>
    simp [dep] at hd
    simp [rd__law_same, qSeq, qIf, qRet, qSet, qAsg, qPar, qDrop, qNx, qRaise, qBk, qCt, qRetN, qAug, pER, pRE, pC, pName, pBin, pTest, pTru, strFit, truD, pAnd, pOr, pNot, pAndV, pOrV, pNotV, pIf, pChain, pNeg, pNil, pCons, pTup, pLst, pIxN, pCB, pCall, pcNil, pcCons, pcSrc, pcFz, gtName, gtNil, gtCons, gtTup, gAdd, gMul, gI, gI0, gOrd, gIx, gLen, gInt, gI1, gI2, slOf, enOf, begin_, seqAt, atMostOne, Sl.mut, pIsi, isD, isT, tyD, pLenN, pLst1, pLstRev, and_assoc, frzL, blkS, wipeS, toB, ptYes, qSetSrc, gEq, gNe, eqD, flatD, mixD, PyData.eqv, piSeq, piRng1, piRng2, piRng3, piFz, PD.gSub, PD.gDiv, PD.gMod, PD.gLt, PD.gLe, PD.gGt, PD.gGe, PD.gPow, PD.gShr, PD.gXor, pSlice, poNone, poSome, qPar3, gLeT, gIs, isN]
    refine seq ds _ _ (.inr rfl) hd.1 (by simpa using hd.2) fun x => ?_
    simp [qSeq, qIf, qRet, qSet, qAsg, qPar, qDrop, qNx, qRaise, qBk, qCt, qRetN, qAug, pER, pRE, pC, pName, pBin, pTest, pTru, strFit, truD, pAnd, pOr, pNot, pAndV, pOrV, pNotV, pIf, pChain, pNeg, pNil, pCons, pTup, pLst, pIxN, pCB, pCall, pcNil, pcCons, pcSrc, pcFz, gtName, gtNil, gtCons, gtTup, gAdd, gMul, gI, gI0, gOrd, gIx, gLen, gInt, gI1, gI2, slOf, enOf, begin_, seqAt, atMostOne, Sl.mut, pIsi, isD, isT, tyD, pLenN, pLst1, pLstRev, and_assoc, frzL, blkS, wipeS, toB, ptYes, qSetSrc, gEq, gNe, eqD, flatD, mixD, PyData.eqv, piSeq, piRng1, piRng2, piRng3, piFz, PD.gSub, PD.gDiv, PD.gMod, PD.gLt, PD.gLe, PD.gGt, PD.gGe, PD.gPow, PD.gShr, PD.gXor, pSlice, poNone, poSome, qPar3, gLeT]
    exact q
end K06

set_option Elab.async false
set_option linter.all false
set_option maxRecDepth 100000
namespace K06
open PySem L2 PD Cal
variable {K : PySem.W.Frag} {cD cO : Addr}
theorem szn (n : Nat) (h : n ≤ 16777216 := by decide) : n ≤ sizeLine := by rw [sizeLine_eq]; exact h
theorem seq_i {p q : PTS} {P : PEn} {ρ : List Sl} (h : ∀ k : List Sl → Prop, k = q P → p { P with nx := k } ρ) : qSeq p q P ρ := h _ rfl
theorem vd_y {y m d i : Int} (v : Vd y m d) (e : da y m d = i) (h : i ≤ 1000000) : y ≤ 2740 := by
  have a := v.lo
  have b := ny_le (y := 0) (z := y) v.1
  rw [ny0] at b
  omega
theorem pf_later_by : ∀ as Qr Qe, sp_later_by cD cO as Qr Qe → rd_later_by K cD cO (enOf Qr Qe) (begin_ 7 as) := by
  rintro as Qr Qe ⟨i, n, rfl, h1, h2, h3, h4, q⟩
  simp [rd_later_by, qSeq, qIf, qRet, qSet, qAsg, qPar, qDrop, qNx, qRaise, qBk, qCt, qRetN, qAug, pER, pRE, pC, pName, pBin, pTest, pTru, strFit, truD, pAnd, pOr, pNot, pAndV, pOrV, pNotV, pIf, pChain, pNeg, pNil, pCons, pTup, pLst, pIxN, pCB, pCall, pcNil, pcCons, pcSrc, pcFz, gtName, gtNil, gtCons, gtTup, gAdd, gMul, gI, gI0, gOrd, gIx, gLen, gInt, gI1, gI2, slOf, enOf, begin_, seqAt, atMostOne, Sl.mut, pIsi, isD, isT, tyD, pLenN, pLst1, pLstRev, and_assoc, frzL, blkS, wipeS, toB, ptYes, qSetSrc, gEq, gNe, eqD, flatD, mixD, PyData.eqv, piSeq, piRng1, piRng2, piRng3, piFz, PD.gSub, PD.gDiv, PD.gMod, PD.gLt, PD.gLe, PD.gGt, PD.gGe, PD.gPow, PD.gShr, PD.gXor, pSlice, poNone, poSome, qPar3, gLeT, sp_date_at, sp_length_of, sp_day_at]
  refine ⟨h1, h2, fun y m d v e => ?_⟩
  have hy := vd_y v e h2
  obtain ⟨v0, v1, v2, v3, v4⟩ := id v
  rw [lt_of v e] at q
  refine ⟨.inl (.inl (by omega)), ⟨by omega, .inl (by omega)⟩, by omega, by omega, ⟨by omega, .inl (by omega)⟩, by omega, by omega, by omega, by omega, q⟩
theorem pf_months_later : ∀ as Qr Qe, sp_months_later cD cO as Qr Qe → rd_months_later K cD cO (enOf Qr Qe) (begin_ 3 as) := by
  rintro as Qr Qe ⟨i, n, rfl, q1, q2⟩
  simp [rd_months_later, qSeq, qIf, qRet, qSet, qAsg, qPar, qDrop, qNx, qRaise, qBk, qCt, qRetN, qAug, pER, pRE, pC, pName, pBin, pTest, pTru, strFit, truD, pAnd, pOr, pNot, pAndV, pOrV, pNotV, pIf, pChain, pNeg, pNil, pCons, pTup, pLst, pIxN, pCB, pCall, pcNil, pcCons, pcSrc, pcFz, gtName, gtNil, gtCons, gtTup, gAdd, gMul, gI, gI0, gOrd, gIx, gLen, gInt, gI1, gI2, slOf, enOf, begin_, seqAt, atMostOne, Sl.mut, pIsi, isD, isT, tyD, pLenN, pLst1, pLstRev, and_assoc, frzL, blkS, wipeS, toB, ptYes, qSetSrc, gEq, gNe, eqD, flatD, mixD, PyData.eqv, piSeq, piRng1, piRng2, piRng3, piFz, PD.gSub, PD.gDiv, PD.gMod, PD.gLt, PD.gLe, PD.gGt, PD.gGe, PD.gPow, PD.gShr, PD.gXor, pSlice, poNone, poSome, qPar3, gLeT, sp_check_day, sp_is_number, sp_later_by, v_LAST_DAY]
  cases h1 : isNum (.int i) 0 1000000 <;> simp [h1] at q1 q2 ⊢
  · exact q2
  cases h2 : isNum (.int n) 0 1000 <;> simp [h2] at q1 q2 ⊢
  · exact q2
  simp [isNum] at h1 h2
  refine ⟨h1.1, h1.2, h2.1, h2.2, ?_⟩
  by_cases h : 1000000 < lt i n
  · simp [h]
    exact q2 h
  · simp [h]
    exact q1 (by omega)
theorem pf_easter_day : ∀ as Qr Qe, sp_easter_day cD cO as Qr Qe → rd_easter_day K cD cO (enOf Qr Qe) (begin_ 5 as) := by
  rintro as Qr Qe ⟨y, rfl, h1, h2, q⟩
  simp [rd_easter_day, qSeq, qIf, qRet, qSet, qAsg, qPar, qDrop, qNx, qRaise, qBk, qCt, qRetN, qAug, pER, pRE, pC, pName, pBin, pTest, pTru, strFit, truD, pAnd, pOr, pNot, pAndV, pOrV, pNotV, pIf, pChain, pNeg, pNil, pCons, pTup, pLst, pIxN, pCB, pCall, pcNil, pcCons, pcSrc, pcFz, gtName, gtNil, gtCons, gtTup, gAdd, gMul, gI, gI0, gOrd, gIx, gLen, gInt, gI1, gI2, slOf, enOf, begin_, seqAt, atMostOne, Sl.mut, pIsi, isD, isT, tyD, pLenN, pLst1, pLstRev, and_assoc, frzL, blkS, wipeS, toB, ptYes, qSetSrc, gEq, gNe, eqD, flatD, mixD, PyData.eqv, piSeq, piRng1, piRng2, piRng3, piFz, PD.gSub, PD.gDiv, PD.gMod, PD.gLt, PD.gLe, PD.gGt, PD.gGe, PD.gPow, PD.gShr, PD.gXor, pSlice, poNone, poSome, qPar3, gLeT, sp_day_at, sp_weekday_of]
  refine ⟨⟨by omega, .inl (by omega)⟩, .inl (.inl (by omega)), ⟨by omega, .inl (by omega)⟩, .inl (.inl (by omega)), ⟨by omega, .inl (by omega)⟩, ?_⟩
  have eN : (19 * (y % 19) + 15 + y / 100 - y / 100 / 4 - (8 * (y / 100) + 13) / 25) % 30 = eNum y := rfl
  rw [eN]
  have q : Qr (.v (.int (da y 3 21 + eNum' y + 7 - ((da y 3 21 + eNum' y + 5) % 7 + 1) % 7))) := q
  have e7 : ∀ x : Int, (x % 7 + 1) % 7 = (x + 1) % 7 := fun x => by omega
  rw [e7] at q
  unfold eNum' at q
  split
  · rename_i h
    rw [if_pos (.inl h)] at q
    exact ⟨h1, by omega, q⟩
  · split
    · split
      · rename_i a b c
        rw [if_pos (.inr ⟨b, c⟩)] at q
        exact ⟨h1, by omega, q⟩
      · rw [if_neg (by omega)] at q
        exact ⟨h1, by omega, q⟩
    · rw [if_neg (by omega)] at q
      exact ⟨h1, by omega, q⟩
theorem pf_easter : ∀ as Qr Qe, sp_easter cD cO as Qr Qe → rd_easter K cD cO (enOf Qr Qe) (begin_ 1 as) := by
  rintro as Qr Qe ⟨y, rfl, q1, q2⟩
  simp [rd_easter, qSeq, qIf, qRet, qSet, qAsg, qPar, qDrop, qNx, qRaise, qBk, qCt, qRetN, qAug, pER, pRE, pC, pName, pBin, pTest, pTru, strFit, truD, pAnd, pOr, pNot, pAndV, pOrV, pNotV, pIf, pChain, pNeg, pNil, pCons, pTup, pLst, pIxN, pCB, pCall, pcNil, pcCons, pcSrc, pcFz, gtName, gtNil, gtCons, gtTup, gAdd, gMul, gI, gI0, gOrd, gIx, gLen, gInt, gI1, gI2, slOf, enOf, begin_, seqAt, atMostOne, Sl.mut, pIsi, isD, isT, tyD, pLenN, pLst1, pLstRev, and_assoc, frzL, blkS, wipeS, toB, ptYes, qSetSrc, gEq, gNe, eqD, flatD, mixD, PyData.eqv, piSeq, piRng1, piRng2, piRng3, piFz, PD.gSub, PD.gDiv, PD.gMod, PD.gLt, PD.gLe, PD.gGt, PD.gGe, PD.gPow, PD.gShr, PD.gXor, pSlice, poNone, poSome, qPar3, gLeT, sp_check_year, sp_easter_day]
  refine ⟨fun h => ?_, q2⟩
  have h' := h
  simp [isNum] at h'
  exact ⟨h'.1, h'.2, q1 h⟩
theorem pf__law_ahead : ∀ as Qr Qe, sp__law_ahead cD cO as Qr Qe → rd__law_ahead K cD cO (enOf Qr Qe) (begin_ 1 as) := by
  rintro as Qr Qe ⟨y, rfl, q⟩
  simp [rd__law_ahead, qSeq, qIf, qRet, qSet, qAsg, qPar, qDrop, qNx, qRaise, qBk, qCt, qRetN, qAug, pER, pRE, pC, pName, pBin, pTest, pTru, strFit, truD, pAnd, pOr, pNot, pAndV, pOrV, pNotV, pIf, pChain, pNeg, pNil, pCons, pTup, pLst, pIxN, pCB, pCall, pcNil, pcCons, pcSrc, pcFz, gtName, gtNil, gtCons, gtTup, gAdd, gMul, gI, gI0, gOrd, gIx, gLen, gInt, gI1, gI2, slOf, enOf, begin_, seqAt, atMostOne, Sl.mut, pIsi, isD, isT, tyD, pLenN, pLst1, pLstRev, and_assoc, frzL, blkS, wipeS, toB, ptYes, qSetSrc, gEq, gNe, eqD, flatD, mixD, PyData.eqv, piSeq, piRng1, piRng2, piRng3, piFz, PD.gSub, PD.gDiv, PD.gMod, PD.gLt, PD.gLe, PD.gGt, PD.gGe, PD.gPow, PD.gShr, PD.gXor, pSlice, poNone, poSome, qPar3, gLeT]
  exact ⟨.inl (.inl (by omega)), ⟨by omega, .inl (by omega)⟩, ⟨by omega, .inl (by omega)⟩, ⟨by omega, .inl (by omega)⟩, q⟩
theorem sumD_ints : ∀ l : List Int, sumD (l.map PyData.int) = l.sum
  | [] => rfl
  | x :: l => by simp [sumD, sumD_ints l]
theorem pf__law_number : ∀ as Qr Qe, sp__law_number cD cO as Qr Qe → rd__law_number K cD cO (enOf Qr Qe) (begin_ 4 as) := by
  rintro as Qr Qe ⟨y, m, d, rfl, h3, h4, q⟩
  simp only [rd__law_number, qSeq, qIf, qRet, qSet, qAsg, qPar, qDrop, qNx, qRaise, qBk, qCt, qRetN, qAug, pER, pRE, pC, pName, pBin, pTest, pTru, strFit, truD, pAnd, pOr, pNot, pAndV, pOrV, pNotV, pIf, pChain, pNeg, pNil, pCons, pTup, pLst, pIxN, pCB, pCall, pcNil, pcCons, pcSrc, pcFz, gtName, gtNil, gtCons, gtTup, gAdd, gMul, gI, gI0, gOrd, gIx, gLen, gInt, gI1, gI2, slOf, enOf, begin_, seqAt, atMostOne, Sl.mut, pIsi, isD, isT, tyD, pLenN, pLst1, pLstRev, and_assoc, frzL, blkS, wipeS, toB, ptYes, qSetSrc, gEq, gNe, eqD, flatD, mixD, PyData.eqv, piSeq, piRng1, piRng2, piRng3, piFz, PD.gSub, PD.gDiv, PD.gMod, PD.gLt, PD.gLe, PD.gGt, PD.gGe, PD.gPow, PD.gShr, PD.gXor, pSlice, poNone, poSome, qPar3, gLeT, pLc, sp__law_ahead, sp__law_length, List.length_cons, List.length_nil, List.replicate, List.cons_append, List.nil_append, List.getElem?_cons_succ, List.getElem?_cons_zero, List.set_cons_succ, List.set_cons_zero, List.map]
  refine And.intro rfl (Exists.intro y (And.intro rfl ?_))
  refine ⟨⟨by omega, by omega⟩, ⟨by omega, by omega⟩, fun i acc => acc = (((List.range i).map fun (k : Nat) => ml y (1 + (k : Int))).map PyData.int), rfl, fun i x acc hx hI => ?_, fun acc2 hI2 => ?_⟩
  · obtain ⟨hi, rfl⟩ := rngD_get hx
    obtain rfl := hI
    rw [if_pos trivial]
    refine ⟨rfl, y, 1 + (i : Int), rfl, by omega, by omega, szl (by simp; omega), ?_, trivial⟩
    simp [List.range_succ]
  · show ∃ ns : List Int, _ ∧ _
    refine ⟨_, hI2, ?_⟩
    rw [rngD_length]
    have e2 : ((List.range (m - 1).toNat).map fun (k : Nat) => ml y (1 + (k : Int))).sum = bf y m := by
      have := sum_ml y (m - 1).toNat (by omega)
      have e : 1 + (((m - 1).toNat : Nat) : Int) = m := by omega
      rw [e] at this
      rw [← this, ← sumD_ints, List.map_map]
      rfl
    rw [e2]
    exact q
theorem pf__law_date : ∀ as Qr Qe, sp__law_date cD cO as Qr Qe → rd__law_date K cD cO (enOf Qr Qe) (begin_ 5 as) := by
  rintro as Qr Qe ⟨i, rfl, h1, h2, q⟩
  have q : ∀ y m d, Vd y m d → da y m d = i → Qr (.v (.tuple [.int y, .int m, .int d])) := fun y m d v e => by
    obtain ⟨e1, e2, e3⟩ := dt_of v e
    rw [e1, e2, e3] at q
    exact q
  unfold rd__law_date
  refine seq_i fun k hk => ?_
  refine And.intro ⟨by omega, .inl (by omega)⟩ ?_
  show k _
  subst hk
  refine seq_i fun k hk => ?_
  refine And.intro ⟨by decide, by decide⟩ ?_
  show ∃ I : Nat → List Sl → Prop, _ ∧ _ ∧ _
  have hu := ny_up (i / 366) (by omega)
  refine ⟨fun j ρ => ∃ (y : Int) (x : Sl), ρ = [.v (.int i), .v (.int y), x, .un, .un] ∧ 0 ≤ y ∧ y ≤ 3000 ∧ ny y ≤ i ∧ (i < ny (y + 1) ∨ i / 366 + (j : Int) ≤ y), ⟨_, _, rfl, by omega, by omega, by omega, .inr (by simp)⟩, ?_, ?_⟩
  · rintro j z ρ hz ⟨y, x, rfl, y0, y1, y2, y3⟩
    simp [qSeq, qIf, qRet, qSet, qAsg, qPar, qDrop, qNx, qRaise, qBk, qCt, qRetN, qAug, pER, pRE, pC, pName, pBin, pTest, pTru, strFit, truD, pAnd, pOr, pNot, pAndV, pOrV, pNotV, pIf, pChain, pNeg, pNil, pCons, pTup, pLst, pIxN, pCB, pCall, pcNil, pcCons, pcSrc, pcFz, gtName, gtNil, gtCons, gtTup, gAdd, gMul, gI, gI0, gOrd, gIx, gLen, gInt, gI1, gI2, slOf, enOf, begin_, seqAt, atMostOne, Sl.mut, pIsi, isD, isT, tyD, pLenN, pLst1, pLstRev, and_assoc, frzL, blkS, wipeS, toB, ptYes, qSetSrc, gEq, gNe, eqD, flatD, mixD, PyData.eqv, piSeq, piRng1, piRng2, piRng3, piFz, PD.gSub, PD.gDiv, PD.gMod, PD.gLt, PD.gLe, PD.gGt, PD.gGe, PD.gPow, PD.gShr, PD.gXor, pSlice, poNone, poSome, qPar3, gLeT, sp__law_ahead]
    have hb := ny_le (y := 0) (z := y + 1) (by omega)
    rw [ny0] at hb
    split
    · rename_i h
      refine ⟨by omega, by omega, h, ?_⟩
      rcases y3 with y3 | y3
      · omega
      · exact .inr (by omega)
    · rename_i h
      exact ⟨y0, y1, y2, .inl (by omega)⟩
  · rintro ρ ⟨y, x, rfl, y0, y1, y2, y3⟩
    rw [rngD_length] at y3
    have hb := ny_le (y := 0) (z := y) y0
    rw [ny0] at hb
    have hlt : i < ny (y + 1) := by
      rcases y3 with y3 | y3
      · exact y3
      · omega
    show k _
    subst hk
    refine seq_i fun k hk => ?_
    simp [qSeq, qIf, qRet, qSet, qAsg, qPar, qDrop, qNx, qRaise, qBk, qCt, qRetN, qAug, pER, pRE, pC, pName, pBin, pTest, pTru, strFit, truD, pAnd, pOr, pNot, pAndV, pOrV, pNotV, pIf, pChain, pNeg, pNil, pCons, pTup, pLst, pIxN, pCB, pCall, pcNil, pcCons, pcSrc, pcFz, gtName, gtNil, gtCons, gtTup, gAdd, gMul, gI, gI0, gOrd, gIx, gLen, gInt, gI1, gI2, slOf, enOf, begin_, seqAt, atMostOne, Sl.mut, pIsi, isD, isT, tyD, pLenN, pLst1, pLstRev, and_assoc, frzL, blkS, wipeS, toB, ptYes, qSetSrc, gEq, gNe, eqD, flatD, mixD, PyData.eqv, piSeq, piRng1, piRng2, piRng3, piFz, PD.gSub, PD.gDiv, PD.gMod, PD.gLt, PD.gLe, PD.gGt, PD.gGe, PD.gPow, PD.gShr, PD.gXor, pSlice, poNone, poSome, qPar3, gLeT, sp__law_ahead]
    subst hk
    refine seq_i fun k hk => ?_
    simp [qSeq, qIf, qRet, qSet, qAsg, qPar, qDrop, qNx, qRaise, qBk, qCt, qRetN, qAug, pER, pRE, pC, pName, pBin, pTest, pTru, strFit, truD, pAnd, pOr, pNot, pAndV, pOrV, pNotV, pIf, pChain, pNeg, pNil, pCons, pTup, pLst, pIxN, pCB, pCall, pcNil, pcCons, pcSrc, pcFz, gtName, gtNil, gtCons, gtTup, gAdd, gMul, gI, gI0, gOrd, gIx, gLen, gInt, gI1, gI2, slOf, enOf, begin_, seqAt, atMostOne, Sl.mut, pIsi, isD, isT, tyD, pLenN, pLst1, pLstRev, and_assoc, frzL, blkS, wipeS, toB, ptYes, qSetSrc, gEq, gNe, eqD, flatD, mixD, PyData.eqv, piSeq, piRng1, piRng2, piRng3, piFz, PD.gSub, PD.gDiv, PD.gMod, PD.gLt, PD.gLe, PD.gGt, PD.gGe, PD.gPow, PD.gShr, PD.gXor, pSlice, poNone, poSome, qPar3, gLeT]
    subst hk
    refine seq_i fun k hk => ?_
    refine And.intro ⟨by decide, by decide⟩ ?_
    show ∃ I : Nat → List Sl → Prop, _ ∧ _ ∧ _
    refine ⟨fun j ρ => ∃ (m : Int) (x : Sl), ρ = [.v (.int i), .v (.int y), x, .v (.int (i - ny y - bf y m)), .v (.int m)] ∧ 1 ≤ m ∧ m ≤ 12 ∧ bf y m ≤ i - ny y ∧ (i - ny y - bf y m < ml y m ∨ 1 + (j : Int) ≤ m), ⟨1, x, by rw [bf1]; simp, by omega, by omega, by rw [bf1]; omega, .inr (by simp)⟩, ?_, ?_⟩
    · rintro j z ρ hz ⟨m, x, rfl, m0, m1, m2, m3⟩
      have hs := bf_succ (y := y) m0 m1
      simp [qSeq, qIf, qRet, qSet, qAsg, qPar, qDrop, qNx, qRaise, qBk, qCt, qRetN, qAug, pER, pRE, pC, pName, pBin, pTest, pTru, strFit, truD, pAnd, pOr, pNot, pAndV, pOrV, pNotV, pIf, pChain, pNeg, pNil, pCons, pTup, pLst, pIxN, pCB, pCall, pcNil, pcCons, pcSrc, pcFz, gtName, gtNil, gtCons, gtTup, gAdd, gMul, gI, gI0, gOrd, gIx, gLen, gInt, gI1, gI2, slOf, enOf, begin_, seqAt, atMostOne, Sl.mut, pIsi, isD, isT, tyD, pLenN, pLst1, pLstRev, and_assoc, frzL, blkS, wipeS, toB, ptYes, qSetSrc, gEq, gNe, eqD, flatD, mixD, PyData.eqv, piSeq, piRng1, piRng2, piRng3, piFz, PD.gSub, PD.gDiv, PD.gMod, PD.gLt, PD.gLe, PD.gGt, PD.gGe, PD.gPow, PD.gShr, PD.gXor, pSlice, poNone, poSome, qPar3, gLeT, sp__law_length]
      refine ⟨m0, m1, ?_⟩
      split
      · rename_i h
        have hm : m ≠ 12 := fun e => by
          subst e
          have e3 := bf13 y
          have e4 := ny_succ y
          have hs : bf y 13 = bf y 12 + ml y 12 := hs
          omega
        refine ⟨m0, m1, m + 1, by rw [hs]; omega, rfl, by omega, by omega, by omega, ?_⟩
        rcases m3 with m3 | m3
        · omega
        · exact .inr (by omega)
      · rename_i h
        exact ⟨m, rfl, rfl, m0, m1, m2, .inl (by omega)⟩
    · rintro ρ ⟨m, x, rfl, m0, m1, m2, m3⟩
      rw [rngD_length] at m3
      have hml : i - ny y - bf y m < ml y m := by
        rcases m3 with m3 | m3
        · exact m3
        · have hm : m = 12 := by omega
          subst hm
          have e3 := bf13 y
          have e4 := ny_succ y
          have hs := bf_succ (y := y) m0 m1
          have hs : bf y 13 = bf y 12 + ml y 12 := hs
          omega
      show k _
      subst hk
      simp [qSeq, qIf, qRet, qSet, qAsg, qPar, qDrop, qNx, qRaise, qBk, qCt, qRetN, qAug, pER, pRE, pC, pName, pBin, pTest, pTru, strFit, truD, pAnd, pOr, pNot, pAndV, pOrV, pNotV, pIf, pChain, pNeg, pNil, pCons, pTup, pLst, pIxN, pCB, pCall, pcNil, pcCons, pcSrc, pcFz, gtName, gtNil, gtCons, gtTup, gAdd, gMul, gI, gI0, gOrd, gIx, gLen, gInt, gI1, gI2, slOf, enOf, begin_, seqAt, atMostOne, Sl.mut, pIsi, isD, isT, tyD, pLenN, pLst1, pLstRev, and_assoc, frzL, blkS, wipeS, toB, ptYes, qSetSrc, gEq, gNe, eqD, flatD, mixD, PyData.eqv, piSeq, piRng1, piRng2, piRng3, piFz, PD.gSub, PD.gDiv, PD.gMod, PD.gLt, PD.gLe, PD.gGt, PD.gGe, PD.gPow, PD.gShr, PD.gXor, pSlice, poNone, poSome, qPar3, gLeT, szn 3]
      exact q y m _ ⟨y0, m0, m1, by omega, by omega⟩ (by unfold da; omega)
theorem pf__law_later : ∀ as Qr Qe, sp__law_later cD cO as Qr Qe → rd__law_later K cD cO (enOf Qr Qe) (begin_ 7 as) := by
  rintro as Qr Qe ⟨i, n, rfl, h1, h2, h3, h4, q⟩
  obtain ⟨v, e⟩ := dt_ok h1
  simp [rd__law_later, qSeq, qIf, qRet, qSet, qAsg, qPar, qDrop, qNx, qRaise, qBk, qCt, qRetN, qAug, pER, pRE, pC, pName, pBin, pTest, pTru, strFit, truD, pAnd, pOr, pNot, pAndV, pOrV, pNotV, pIf, pChain, pNeg, pNil, pCons, pTup, pLst, pIxN, pCB, pCall, pcNil, pcCons, pcSrc, pcFz, gtName, gtNil, gtCons, gtTup, gAdd, gMul, gI, gI0, gOrd, gIx, gLen, gInt, gI1, gI2, slOf, enOf, begin_, seqAt, atMostOne, Sl.mut, pIsi, isD, isT, tyD, pLenN, pLst1, pLstRev, and_assoc, frzL, blkS, wipeS, toB, ptYes, qSetSrc, gEq, gNe, eqD, flatD, mixD, PyData.eqv, piSeq, piRng1, piRng2, piRng3, piFz, PD.gSub, PD.gDiv, PD.gMod, PD.gLt, PD.gLe, PD.gGt, PD.gGe, PD.gPow, PD.gShr, PD.gXor, pSlice, poNone, poSome, qPar3, gLeT, sp__law_date, sp__law_length, sp__law_number]
  have hy := vd_y v e h2
  obtain ⟨v0, v1, v2, v3, v4⟩ := id v
  rw [lt_of v e] at q
  refine ⟨h1, h2, .inl (.inl (by omega)), ⟨by omega, .inl (by omega)⟩, by omega, by omega, ⟨by omega, .inl (by omega)⟩, by omega, by omega, q⟩
theorem pf__law_easter : ∀ as Qr Qe, sp__law_easter cD cO as Qr Qe → rd__law_easter K cD cO (enOf Qr Qe) (begin_ 8 as) := by
  rintro as Qr Qe ⟨y, rfl, h1, h2, q⟩
  have c := chk_at h1 h2
  unfold chk at c
  simp only [Bool.and_eq_true, Bool.or_eq_true, decide_eq_true_eq, beq_iff_eq] at c
  obtain ⟨⟨⟨⟨⟨⟨⟨⟨c1, c2⟩, c3⟩, c4⟩, c5⟩, c6⟩, c7⟩, c8⟩, c9⟩ := c
  rw [c6] at q
  simp [rd__law_easter, qSeq, qIf, qRet, qSet, qAsg, qPar, qDrop, qNx, qRaise, qBk, qCt, qRetN, qAug, pER, pRE, pC, pName, pBin, pTest, pTru, strFit, truD, pAnd, pOr, pNot, pAndV, pOrV, pNotV, pIf, pChain, pNeg, pNil, pCons, pTup, pLst, pIxN, pCB, pCall, pcNil, pcCons, pcSrc, pcFz, gtName, gtNil, gtCons, gtTup, gAdd, gMul, gI, gI0, gOrd, gIx, gLen, gInt, gI1, gI2, slOf, enOf, begin_, seqAt, atMostOne, Sl.mut, pIsi, isD, isT, tyD, pLenN, pLst1, pLstRev, and_assoc, frzL, blkS, wipeS, toB, ptYes, qSetSrc, gEq, gNe, eqD, flatD, mixD, PyData.eqv, piSeq, piRng1, piRng2, piRng3, piFz, PD.gSub, PD.gDiv, PD.gMod, PD.gLt, PD.gLe, PD.gGt, PD.gGe, PD.gPow, PD.gShr, PD.gXor, pSlice, poNone, poSome, qPar3, gLeT, sp__law_number]
  refine ⟨⟨by omega, .inl (by omega)⟩, .inl (.inl (by omega)), ⟨by omega, .inl (by omega)⟩, ⟨by omega, .inl (by omega)⟩, ⟨by omega, .inl (by omega)⟩, .inl (.inl (by omega)), ⟨by omega, .inl (by omega)⟩, .inl (.inl (by omega)), .inl (.inl (by omega)), .inl (.inl (by omega)), ⟨by omega, .inl (by omega)⟩, .inl (.inl (by omega)), ⟨by omega, .inl (by omega)⟩, ?_⟩
  exact ⟨Int.le_trans (by decide) c1, Int.le_trans c2 (by decide), q⟩
theorem pf__law_told (hx : PySem.W.exmOne K (.ref cO) (.ref cD) = some true) (hk : PySem.W.kitOne K (.ref cO) (.ref cO) = some true) (hC : ExcC K cO) : ∀ as Qr Qe, sp__law_told cD cO as Qr Qe → rd__law_told K cD cO (enOf Qr Qe) (begin_ 3 as) := by
  rintro as Qr Qe ⟨i, n, rfl, q1, q2⟩
  simp [rd__law_told, qSeq, qIf, qRet, qSet, qAsg, qPar, qDrop, qNx, qRaise, qBk, qCt, qRetN, qAug, pER, pRE, pC, pName, pBin, pTest, pTru, strFit, truD, pAnd, pOr, pNot, pAndV, pOrV, pNotV, pIf, pChain, pNeg, pNil, pCons, pTup, pLst, pIxN, pCB, pCall, pcNil, pcCons, pcSrc, pcFz, gtName, gtNil, gtCons, gtTup, gAdd, gMul, gI, gI0, gOrd, gIx, gLen, gInt, gI1, gI2, slOf, enOf, begin_, seqAt, atMostOne, Sl.mut, pIsi, isD, isT, tyD, pLenN, pLst1, pLstRev, and_assoc, frzL, blkS, wipeS, toB, ptYes, qSetSrc, gEq, gNe, eqD, flatD, mixD, PyData.eqv, piSeq, piRng1, piRng2, piRng3, piFz, PD.gSub, PD.gDiv, PD.gMod, PD.gLt, PD.gLe, PD.gGt, PD.gGe, PD.gPow, PD.gShr, PD.gXor, pSlice, poNone, poSome, qPar3, gLeT, qTry, sp_months_later, hx, pIsE, hk, hC, szn 2]
  cases h1 : isNum (.int i) 0 1000000 <;> simp [h1] at q1 q2 ⊢
  · exact ⟨_, rfl, q2⟩
  cases h2 : isNum (.int n) 0 1000 <;> simp [h2] at q1 q2 ⊢
  · exact ⟨_, rfl, q2⟩
  unfold due at q1
  refine ⟨fun h => ?_, fun h => ?_⟩
  · rw [if_pos h] at q1
    exact q1
  · rw [if_neg (by omega)] at q1
    exact ⟨_, rfl, q1⟩
theorem pf__law_feast (hx : PySem.W.exmOne K (.ref cO) (.ref cD) = some true) (hk : PySem.W.kitOne K (.ref cO) (.ref cO) = some true) (hC : ExcC K cO) : ∀ as Qr Qe, sp__law_feast cD cO as Qr Qe → rd__law_feast K cD cO (enOf Qr Qe) (begin_ 2 as) := by
  rintro as Qr Qe ⟨y, rfl, q1, q2⟩
  simp [rd__law_feast, qSeq, qIf, qRet, qSet, qAsg, qPar, qDrop, qNx, qRaise, qBk, qCt, qRetN, qAug, pER, pRE, pC, pName, pBin, pTest, pTru, strFit, truD, pAnd, pOr, pNot, pAndV, pOrV, pNotV, pIf, pChain, pNeg, pNil, pCons, pTup, pLst, pIxN, pCB, pCall, pcNil, pcCons, pcSrc, pcFz, gtName, gtNil, gtCons, gtTup, gAdd, gMul, gI, gI0, gOrd, gIx, gLen, gInt, gI1, gI2, slOf, enOf, begin_, seqAt, atMostOne, Sl.mut, pIsi, isD, isT, tyD, pLenN, pLst1, pLstRev, and_assoc, frzL, blkS, wipeS, toB, ptYes, qSetSrc, gEq, gNe, eqD, flatD, mixD, PyData.eqv, piSeq, piRng1, piRng2, piRng3, piFz, PD.gSub, PD.gDiv, PD.gMod, PD.gLt, PD.gLe, PD.gGt, PD.gGe, PD.gPow, PD.gShr, PD.gXor, pSlice, poNone, poSome, qPar3, gLeT, qTry, sp_easter, hx, pIsE, hk, hC, szn 2]
  exact ⟨q1, fun h => ⟨_, rfl, q2 h⟩⟩
theorem pf__law_due : ∀ as Qr Qe, sp__law_due cD cO as Qr Qe → rd__law_due K cD cO (enOf Qr Qe) (begin_ 2 as) := by
  rintro as Qr Qe ⟨i, n, rfl, h1, h2, h3, h4, q⟩
  simp [rd__law_due, qSeq, qIf, qRet, qSet, qAsg, qPar, qDrop, qNx, qRaise, qBk, qCt, qRetN, qAug, pER, pRE, pC, pName, pBin, pTest, pTru, strFit, truD, pAnd, pOr, pNot, pAndV, pOrV, pNotV, pIf, pChain, pNeg, pNil, pCons, pTup, pLst, pIxN, pCB, pCall, pcNil, pcCons, pcSrc, pcFz, gtName, gtNil, gtCons, gtTup, gAdd, gMul, gI, gI0, gOrd, gIx, gLen, gInt, gI1, gI2, slOf, enOf, begin_, seqAt, atMostOne, Sl.mut, pIsi, isD, isT, tyD, pLenN, pLst1, pLstRev, and_assoc, frzL, blkS, wipeS, toB, ptYes, qSetSrc, gEq, gNe, eqD, flatD, mixD, PyData.eqv, piSeq, piRng1, piRng2, piRng3, piFz, PD.gSub, PD.gDiv, PD.gMod, PD.gLt, PD.gLe, PD.gGt, PD.gGe, PD.gPow, PD.gShr, PD.gXor, pSlice, poNone, poSome, qPar3, gLeT, sp__law_later]
  refine ⟨h1, h2, h3, h4, ?_⟩
  unfold due at q
  by_cases h : 1000000 < lt i n
  · rw [if_neg (by omega)] at q
    simp [h]
    exact q
  · rw [if_pos (by omega)] at q
    simp [h]
    exact ⟨h1, h2, h3, h4, q⟩
end K06

set_option Elab.async false
set_option linter.all false
set_option maxRecDepth 100000
namespace K06
open PySem L2 PD Cal
variable {K : PySem.W.Frag} {cD cO : Addr}
theorem eqv_ii (i j : Int) : PyData.eqv (.int i) (.int j) = (i == j) := rfl
theorem eqv_ss (i j : Str) : PyData.eqv (.str i) (.str j) = (i == j) := rfl
theorem eqv_bb (i j : Bool) : PyData.eqv (.bool i) (.bool j) = (i == j) := rfl
theorem eqv_is (i : Int) (j : Str) : PyData.eqv (.int i) (.str j) = false := rfl
theorem eqv_si (i : Str) (j : Int) : PyData.eqv (.str i) (.int j) = false := rfl
theorem eqv_nn : PyData.eqv .none .none = true := rfl
theorem dep_due (i n : Int) : dep 11 (due i n) = true := by
  unfold due
  split <;> first | rfl | decide
theorem num {i lo hi : Int} (h1 : lo ≤ i) (h2 : i ≤ hi) : isNum (.int i) lo hi = true := by simp [isNum, h1, h2]
theorem told_r {i n : Int} {Q : Rt → Prop} {E : Value → Prop} (h : (isNum (.int i) 0 1000000 && isNum (.int n) 0 1000) = false) (q : Q (.v (.str "range"))) : sp__law_told cD cO [.v (.int i), .v (.int n)] Q E := ⟨i, n, rfl, (fun z => by rw [h] at z; cases z), fun _ => q⟩
theorem told_o {i n : Int} {d : PyData} {Q : Rt → Prop} {E : Value → Prop} (h : (isNum (.int i) 0 1000000 && isNum (.int n) 0 1000) = true) (e : due i n = d) (q : Q (.v d)) : sp__law_told cD cO [.v (.int i), .v (.int n)] Q E := ⟨i, n, rfl, (fun _ => by rw [e]; exact q), fun z => by rw [h] at z; cases z⟩
theorem feast_r {y : Int} {Q : Rt → Prop} {E : Value → Prop} (h : isNum (.int y) 0 2737 = false) (q : Q (.v (.str "range"))) : sp__law_feast cD cO [.v (.int y)] Q E := ⟨y, rfl, (fun z => by rw [h] at z; cases z), fun _ => q⟩
theorem last_v : Vd 2737 11 28 ∧ da 2737 11 28 = 1000000 := ⟨⟨by decide, by decide, by decide, by decide, by decide⟩, by decide⟩
theorem due1 : due 1000000 1 = .str "range" := by
  unfold due
  rw [lt_of last_v.1 last_v.2, if_neg (by decide)]
theorem due0 : due 1000000 0 = .int 1000000 := by
  unfold due
  rw [lt_of last_v.1 last_v.2, if_pos (by decide)]
  rfl
theorem pf_law : ∀ as Qr Qe, pLaw as Qr Qe → rd_law K cD cO (enOf Qr Qe) (begin_ 10 as) := by
  rintro as Qr Qe ⟨ns, rfl, hns, q⟩
  unfold rd_law
  refine seq_i fun k hk => ?_
  refine And.intro rfl ?_
  refine Exists.intro ns ?_
  refine And.intro rfl (And.intro hns fun ms => And.intro ⟨ms, rfl⟩ ?_)
  show k _
  subst hk
  refine seq_i fun k hk => ?_
  refine And.intro ⟨by decide, by decide⟩ ?_
  show ∃ I : Nat → List Sl → Prop, _ ∧ _ ∧ _
  refine ⟨fun i ρ => ∃ x2 x3 x4 x5 x6 x7 x8 x9, ρ = [.fz (ns.map PyData.int), .src, x2, x3, x4, x5, x6, x7, x8, x9], ⟨_, _, _, _, _, _, _, _, rfl⟩, ?_, ?_⟩
  · rintro i x ρ hx ⟨x2, x3, x4, x5, x6, x7, x8, x9, rfl⟩
    show qSeq _ _ _ _
    refine seq_i fun k2 hk2 => ?_
    simp [qSeq, qIf, qRet, qSet, qAsg, qPar, qDrop, qNx, qRaise, qBk, qCt, qRetN, qAug, pER, pRE, pC, pName, pBin, pTest, pTru, strFit, truD, pAnd, pOr, pNot, pAndV, pOrV, pNotV, pIf, pChain, pNeg, pNil, pCons, pTup, pLst, pIxN, pCB, pCall, pcNil, pcCons, pcSrc, pcFz, gtName, gtNil, gtCons, gtTup, gAdd, gMul, gI, gI0, gOrd, gIx, gLen, gInt, gI1, gI2, slOf, enOf, begin_, seqAt, atMostOne, Sl.mut, pIsi, isD, isT, tyD, pLenN, pLst1, pLstRev, and_assoc, frzL, blkS, wipeS, toB, ptYes, qSetSrc, gEq, gNe, eqD, flatD, mixD, eqv_ii, eqv_ss, eqv_bb, eqv_is, eqv_si, eqv_nn, piSeq, piRng1, piRng2, piRng3, piFz, PD.gSub, PD.gDiv, PD.gMod, PD.gLt, PD.gLe, PD.gGt, PD.gGe, PD.gPow, PD.gShr, PD.gXor, pSlice, poNone, poSome, qPar3, gLeT, sp__law_take]
    intro year y0 y1
    subst hk2
    refine seq_i fun k2 hk2 => ?_
    suffices main : ∀ month, 1 ≤ month → month ≤ 12 → (year = 2737 → month ≤ 11) → k2 [.fz (ns.map PyData.int), .src, .v x, .v (.int year), .v (.int month), x5, x6, x7, x8, x9] by
      by_cases hy : year = 2737
      · simp [qSeq, qIf, qRet, qSet, qAsg, qPar, qDrop, qNx, qRaise, qBk, qCt, qRetN, qAug, pER, pRE, pC, pName, pBin, pTest, pTru, strFit, truD, pAnd, pOr, pNot, pAndV, pOrV, pNotV, pIf, pChain, pNeg, pNil, pCons, pTup, pLst, pIxN, pCB, pCall, pcNil, pcCons, pcSrc, pcFz, gtName, gtNil, gtCons, gtTup, gAdd, gMul, gI, gI0, gOrd, gIx, gLen, gInt, gI1, gI2, slOf, enOf, begin_, seqAt, atMostOne, Sl.mut, pIsi, isD, isT, tyD, pLenN, pLst1, pLstRev, and_assoc, frzL, blkS, wipeS, toB, ptYes, qSetSrc, gEq, gNe, eqD, flatD, mixD, eqv_ii, eqv_ss, eqv_bb, eqv_is, eqv_si, eqv_nn, piSeq, piRng1, piRng2, piRng3, piFz, PD.gSub, PD.gDiv, PD.gMod, PD.gLt, PD.gLe, PD.gGt, PD.gGe, PD.gPow, PD.gShr, PD.gXor, pSlice, poNone, poSome, qPar3, gLeT, sp__law_take, hy, szn 2]
        subst hy
        refine ⟨_, rfl, 11, rfl, by decide, fun r r0 r1 => main _ (by omega) (by omega) (by omega)⟩
      · simp [qSeq, qIf, qRet, qSet, qAsg, qPar, qDrop, qNx, qRaise, qBk, qCt, qRetN, qAug, pER, pRE, pC, pName, pBin, pTest, pTru, strFit, truD, pAnd, pOr, pNot, pAndV, pOrV, pNotV, pIf, pChain, pNeg, pNil, pCons, pTup, pLst, pIxN, pCB, pCall, pcNil, pcCons, pcSrc, pcFz, gtName, gtNil, gtCons, gtTup, gAdd, gMul, gI, gI0, gOrd, gIx, gLen, gInt, gI1, gI2, slOf, enOf, begin_, seqAt, atMostOne, Sl.mut, pIsi, isD, isT, tyD, pLenN, pLst1, pLstRev, and_assoc, frzL, blkS, wipeS, toB, ptYes, qSetSrc, gEq, gNe, eqD, flatD, mixD, eqv_ii, eqv_ss, eqv_bb, eqv_is, eqv_si, eqv_nn, piSeq, piRng1, piRng2, piRng3, piFz, PD.gSub, PD.gDiv, PD.gMod, PD.gLt, PD.gLe, PD.gGt, PD.gGe, PD.gPow, PD.gShr, PD.gXor, pSlice, poNone, poSome, qPar3, gLeT, sp__law_take, hy, szn 2]
        refine ⟨_, rfl, 12, rfl, by decide, fun r r0 r1 => main _ (by omega) (by omega) (by omega)⟩
    intro month m0 m1 m2
    subst hk2
    refine seq_i fun k2 hk2 => ?_
    have hml := ml_pos year month
    suffices main : ∀ s, 0 ≤ s → s < 28 → k2 [.fz (ns.map PyData.int), .src, .v x, .v (.int year), .v (.int month), .v (.int (da year month (ml year month - s))), x6, x7, x8, x9] by
      simp [qSeq, qIf, qRet, qSet, qAsg, qPar, qDrop, qNx, qRaise, qBk, qCt, qRetN, qAug, pER, pRE, pC, pName, pBin, pTest, pTru, strFit, truD, pAnd, pOr, pNot, pAndV, pOrV, pNotV, pIf, pChain, pNeg, pNil, pCons, pTup, pLst, pIxN, pCB, pCall, pcNil, pcCons, pcSrc, pcFz, gtName, gtNil, gtCons, gtTup, gAdd, gMul, gI, gI0, gOrd, gIx, gLen, gInt, gI1, gI2, slOf, enOf, begin_, seqAt, atMostOne, Sl.mut, pIsi, isD, isT, tyD, pLenN, pLst1, pLstRev, and_assoc, frzL, blkS, wipeS, toB, ptYes, qSetSrc, gEq, gNe, eqD, flatD, mixD, eqv_ii, eqv_ss, eqv_bb, eqv_is, eqv_si, eqv_nn, piSeq, piRng1, piRng2, piRng3, piFz, PD.gSub, PD.gDiv, PD.gMod, PD.gLt, PD.gLe, PD.gGt, PD.gGe, PD.gPow, PD.gShr, PD.gXor, pSlice, poNone, poSome, qPar3, gLeT, sp__law_take, sp__law_length, sp__law_number, szn 2]
      refine ⟨m0, m1, fun r r0 r1 => ?_⟩
      have : r = 0 ∨ r = 1 := by omega
      rcases this with h | h <;> subst h
      · exact ⟨_, rfl, 3, rfl, by decide, fun s s0 s1 => ⟨m0, m1, main s s0 (by omega)⟩⟩
      · exact ⟨_, rfl, 28, rfl, by decide, fun s s0 s1 => ⟨m0, m1, main s s0 (by omega)⟩⟩
    intro s s0 s1
    subst hk2
    refine seq_i fun k2 hk2 => ?_
    have v : Vd year month (ml year month - s) := ⟨y0, m0, m1, by omega, by omega⟩
    have hlo := v.lo
    have hny := ny_le (y := 0) (z := year) y0
    rw [ny0] at hny
    suffices main : ∀ D, 0 ≤ D → D ≤ 1000000 → k2 [.fz (ns.map PyData.int), .src, .v x, .v (.int year), .v (.int month), .v (.int D), x6, x7, x8, x9] by
      by_cases h : 1000000 < da year month (ml year month - s)
      · simp [qSeq, qIf, qRet, qSet, qAsg, qPar, qDrop, qNx, qRaise, qBk, qCt, qRetN, qAug, pER, pRE, pC, pName, pBin, pTest, pTru, strFit, truD, pAnd, pOr, pNot, pAndV, pOrV, pNotV, pIf, pChain, pNeg, pNil, pCons, pTup, pLst, pIxN, pCB, pCall, pcNil, pcCons, pcSrc, pcFz, gtName, gtNil, gtCons, gtTup, gAdd, gMul, gI, gI0, gOrd, gIx, gLen, gInt, gI1, gI2, slOf, enOf, begin_, seqAt, atMostOne, Sl.mut, pIsi, isD, isT, tyD, pLenN, pLst1, pLstRev, and_assoc, frzL, blkS, wipeS, toB, ptYes, qSetSrc, gEq, gNe, eqD, flatD, mixD, eqv_ii, eqv_ss, eqv_bb, eqv_is, eqv_si, eqv_nn, piSeq, piRng1, piRng2, piRng3, piFz, PD.gSub, PD.gDiv, PD.gMod, PD.gLt, PD.gLe, PD.gGt, PD.gGe, PD.gPow, PD.gShr, PD.gXor, pSlice, poNone, poSome, qPar3, gLeT, sp__law_take, h]
        exact fun r r0 r1 => main _ (by omega) (by omega)
      · simp [qSeq, qIf, qRet, qSet, qAsg, qPar, qDrop, qNx, qRaise, qBk, qCt, qRetN, qAug, pER, pRE, pC, pName, pBin, pTest, pTru, strFit, truD, pAnd, pOr, pNot, pAndV, pOrV, pNotV, pIf, pChain, pNeg, pNil, pCons, pTup, pLst, pIxN, pCB, pCall, pcNil, pcCons, pcSrc, pcFz, gtName, gtNil, gtCons, gtTup, gAdd, gMul, gI, gI0, gOrd, gIx, gLen, gInt, gI1, gI2, slOf, enOf, begin_, seqAt, atMostOne, Sl.mut, pIsi, isD, isT, tyD, pLenN, pLst1, pLstRev, and_assoc, frzL, blkS, wipeS, toB, ptYes, qSetSrc, gEq, gNe, eqD, flatD, mixD, eqv_ii, eqv_ss, eqv_bb, eqv_is, eqv_si, eqv_nn, piSeq, piRng1, piRng2, piRng3, piFz, PD.gSub, PD.gDiv, PD.gMod, PD.gLt, PD.gLe, PD.gGt, PD.gGe, PD.gPow, PD.gShr, PD.gXor, pSlice, poNone, poSome, qPar3, gLeT, h]
        exact main _ (by omega) (by omega)
    clear hlo v s0 s1 s
    intro D d0 d1
    subst hk2
    refine seq_i fun k2 hk2 => ?_
    suffices main : ∀ n, 0 ≤ n → n ≤ 1000 → k2 [.fz (ns.map PyData.int), .src, .v x, .v (.int year), .v (.int month), .v (.int D), .v (.int n), x7, x8, x9] by
      simp [qSeq, qIf, qRet, qSet, qAsg, qPar, qDrop, qNx, qRaise, qBk, qCt, qRetN, qAug, pER, pRE, pC, pName, pBin, pTest, pTru, strFit, truD, pAnd, pOr, pNot, pAndV, pOrV, pNotV, pIf, pChain, pNeg, pNil, pCons, pTup, pLst, pIxN, pCB, pCall, pcNil, pcCons, pcSrc, pcFz, gtName, gtNil, gtCons, gtTup, gAdd, gMul, gI, gI0, gOrd, gIx, gLen, gInt, gI1, gI2, slOf, enOf, begin_, seqAt, atMostOne, Sl.mut, pIsi, isD, isT, tyD, pLenN, pLst1, pLstRev, and_assoc, frzL, blkS, wipeS, toB, ptYes, qSetSrc, gEq, gNe, eqD, flatD, mixD, eqv_ii, eqv_ss, eqv_bb, eqv_is, eqv_si, eqv_nn, piSeq, piRng1, piRng2, piRng3, piFz, PD.gSub, PD.gDiv, PD.gMod, PD.gLt, PD.gLe, PD.gGt, PD.gGe, PD.gPow, PD.gShr, PD.gXor, pSlice, poNone, poSome, qPar3, gLeT, sp__law_take, szn 3]
      intro r r0 r1 u u0 u1 w w0 w1
      refine ⟨.inl (.inl (by omega)), fun z z0 z1 => ?_⟩
      have : z = 0 ∨ z = 1 ∨ z = 2 := by omega
      rcases this with h | h | h <;> subst h
      · exact ⟨_, rfl, main _ (by omega) (by omega)⟩
      · exact ⟨_, rfl, main _ (by omega) (by omega)⟩
      · exact ⟨_, rfl, main _ (by omega) (by omega)⟩
    intro n n0 n1
    subst hk2
    have hD := num d0 d1
    have hn := num n0 n1
    refine seq_i fun k2 hk2 => ?_
    simp [qSeq, qIf, qRet, qSet, qAsg, qPar, qDrop, qNx, qRaise, qBk, qCt, qRetN, qAug, pER, pRE, pC, pName, pBin, pTest, pTru, strFit, truD, pAnd, pOr, pNot, pAndV, pOrV, pNotV, pIf, pChain, pNeg, pNil, pCons, pTup, pLst, pIxN, pCB, pCall, pcNil, pcCons, pcSrc, pcFz, gtName, gtNil, gtCons, gtTup, gAdd, gMul, gI, gI0, gOrd, gIx, gLen, gInt, gI1, gI2, slOf, enOf, begin_, seqAt, atMostOne, Sl.mut, pIsi, isD, isT, tyD, pLenN, pLst1, pLstRev, and_assoc, frzL, blkS, wipeS, toB, ptYes, qSetSrc, gEq, gNe, eqD, flatD, mixD, eqv_ii, eqv_ss, eqv_bb, eqv_is, eqv_si, eqv_nn, piSeq, piRng1, piRng2, piRng3, piFz, PD.gSub, PD.gDiv, PD.gMod, PD.gLt, PD.gLe, PD.gGt, PD.gGe, PD.gPow, PD.gShr, PD.gXor, pSlice, poNone, poSome, qPar3, gLeT, sp__law_told, sp__law_due, sp__law_same, spSame, hD, hn, dep_due, d0, d1, n0]
    refine ⟨by omega, ?_⟩
    subst hk2
    refine seq_i fun k2 hk2 => ?_
    suffices main : k2 [.fz (ns.map PyData.int), .src, .v x, .v (.int year), .v (.int month), .v (.int D), .v (.int n), x7, x8, x9] by
      have hnx := lt_next (n := n) d0
      by_cases hl : D < 1000000
      · have hD1 := num (i := D + 1) (lo := 0) (hi := 1000000) (by omega) (by omega)
        by_cases hu : lt (D + 1) n ≤ 1000000
        · have hu2 : lt D n ≤ 1000000 := by omega
          simp [qSeq, qIf, qRet, qSet, qAsg, qPar, qDrop, qNx, qRaise, qBk, qCt, qRetN, qAug, pER, pRE, pC, pName, pBin, pTest, pTru, strFit, truD, pAnd, pOr, pNot, pAndV, pOrV, pNotV, pIf, pChain, pNeg, pNil, pCons, pTup, pLst, pIxN, pCB, pCall, pcNil, pcCons, pcSrc, pcFz, gtName, gtNil, gtCons, gtTup, gAdd, gMul, gI, gI0, gOrd, gIx, gLen, gInt, gI1, gI2, slOf, enOf, begin_, seqAt, atMostOne, Sl.mut, pIsi, isD, isT, tyD, pLenN, pLst1, pLstRev, and_assoc, frzL, blkS, wipeS, toB, ptYes, qSetSrc, gEq, gNe, eqD, flatD, mixD, eqv_ii, eqv_ss, eqv_bb, eqv_is, eqv_si, eqv_nn, piSeq, piRng1, piRng2, piRng3, piFz, PD.gSub, PD.gDiv, PD.gMod, PD.gLt, PD.gLe, PD.gGt, PD.gGe, PD.gPow, PD.gShr, PD.gXor, pSlice, poNone, poSome, qPar3, gLeT, sp__law_due, sp_months_later, hl, due, hu, hu2, hD, hD1, hn]
          exact ⟨by omega, by omega, by omega, by omega, by rw [if_neg (by omega)]; exact main, fun h => absurd h (by omega), fun h => absurd h (by omega)⟩
        · simp [qSeq, qIf, qRet, qSet, qAsg, qPar, qDrop, qNx, qRaise, qBk, qCt, qRetN, qAug, pER, pRE, pC, pName, pBin, pTest, pTru, strFit, truD, pAnd, pOr, pNot, pAndV, pOrV, pNotV, pIf, pChain, pNeg, pNil, pCons, pTup, pLst, pIxN, pCB, pCall, pcNil, pcCons, pcSrc, pcFz, gtName, gtNil, gtCons, gtTup, gAdd, gMul, gI, gI0, gOrd, gIx, gLen, gInt, gI1, gI2, slOf, enOf, begin_, seqAt, atMostOne, Sl.mut, pIsi, isD, isT, tyD, pLenN, pLst1, pLstRev, and_assoc, frzL, blkS, wipeS, toB, ptYes, qSetSrc, gEq, gNe, eqD, flatD, mixD, eqv_ii, eqv_ss, eqv_bb, eqv_is, eqv_si, eqv_nn, piSeq, piRng1, piRng2, piRng3, piFz, PD.gSub, PD.gDiv, PD.gMod, PD.gLt, PD.gLe, PD.gGt, PD.gGe, PD.gPow, PD.gShr, PD.gXor, pSlice, poNone, poSome, qPar3, gLeT, sp__law_due, sp_months_later, hl, due, hu]
          exact ⟨by omega, by omega, by omega, by omega, main⟩
      · simp [qSeq, qIf, qRet, qSet, qAsg, qPar, qDrop, qNx, qRaise, qBk, qCt, qRetN, qAug, pER, pRE, pC, pName, pBin, pTest, pTru, strFit, truD, pAnd, pOr, pNot, pAndV, pOrV, pNotV, pIf, pChain, pNeg, pNil, pCons, pTup, pLst, pIxN, pCB, pCall, pcNil, pcCons, pcSrc, pcFz, gtName, gtNil, gtCons, gtTup, gAdd, gMul, gI, gI0, gOrd, gIx, gLen, gInt, gI1, gI2, slOf, enOf, begin_, seqAt, atMostOne, Sl.mut, pIsi, isD, isT, tyD, pLenN, pLst1, pLstRev, and_assoc, frzL, blkS, wipeS, toB, ptYes, qSetSrc, gEq, gNe, eqD, flatD, mixD, eqv_ii, eqv_ss, eqv_bb, eqv_is, eqv_si, eqv_nn, piSeq, piRng1, piRng2, piRng3, piFz, PD.gSub, PD.gDiv, PD.gMod, PD.gLt, PD.gLe, PD.gGt, PD.gGe, PD.gPow, PD.gShr, PD.gXor, pSlice, poNone, poSome, qPar3, gLeT, hl]
        exact main
    subst hk2
    obtain ⟨vD, eD⟩ := dt_ok d0
    refine seq_i fun k2 hk2 => ?_
    simp [qSeq, qIf, qRet, qSet, qAsg, qPar, qDrop, qNx, qRaise, qBk, qCt, qRetN, qAug, pER, pRE, pC, pName, pBin, pTest, pTru, strFit, truD, pAnd, pOr, pNot, pAndV, pOrV, pNotV, pIf, pChain, pNeg, pNil, pCons, pTup, pLst, pIxN, pCB, pCall, pcNil, pcCons, pcSrc, pcFz, gtName, gtNil, gtCons, gtTup, gAdd, gMul, gI, gI0, gOrd, gIx, gLen, gInt, gI1, gI2, slOf, enOf, begin_, seqAt, atMostOne, Sl.mut, pIsi, isD, isT, tyD, pLenN, pLst1, pLstRev, and_assoc, frzL, blkS, wipeS, toB, ptYes, qSetSrc, gEq, gNe, eqD, flatD, mixD, eqv_ii, eqv_ss, eqv_bb, eqv_is, eqv_si, eqv_nn, piSeq, piRng1, piRng2, piRng3, piFz, PD.gSub, PD.gDiv, PD.gMod, PD.gLt, PD.gLe, PD.gGt, PD.gGe, PD.gPow, PD.gShr, PD.gXor, pSlice, poNone, poSome, qPar3, gLeT, sp__law_date, sp__law_take]
    refine ⟨d0, d1, _, rfl, fun r r0 r1 => ?_⟩
    have hfm := da_fm (y := (dt D).1) (m := (dt D).2.1) (d := (dt D).2.2) vD.2.1 vD.2.2.1
    have hfm2 := da_fm (y := (dt D).1) (m := (dt D).2.1) (d := 1 + r) vD.2.1 vD.2.2.1
    have hml2 := ml_pos (dt D).1 (dt D).2.1
    have v28 : Vd (dt D).1 (dt D).2.1 (1 + r) := ⟨vD.1, vD.2.1, vD.2.2.1, by omega, by omega⟩
    have e28 : da (dt D).1 (dt D).2.1 (1 + r) = D - (dt D).2.2 + 1 + r := by
      rw [hfm2.1]
      rw [hfm.1] at eD
      omega
    generalize D - (dt D).2.2 + 1 + r = low at e28 ⊢
    have hl0 : 0 ≤ low := by
      have a := v28.lo
      have b := ny_le (y := 0) (z := (dt D).1) vD.1
      rw [ny0] at b
      have := vD.1
      omega
    subst hk2
    refine seq_i fun k2 hk2 => ?_
    simp [qSeq, qIf, qRet, qSet, qAsg, qPar, qDrop, qNx, qRaise, qBk, qCt, qRetN, qAug, pER, pRE, pC, pName, pBin, pTest, pTru, strFit, truD, pAnd, pOr, pNot, pAndV, pOrV, pNotV, pIf, pChain, pNeg, pNil, pCons, pTup, pLst, pIxN, pCB, pCall, pcNil, pcCons, pcSrc, pcFz, gtName, gtNil, gtCons, gtTup, gAdd, gMul, gI, gI0, gOrd, gIx, gLen, gInt, gI1, gI2, slOf, enOf, begin_, seqAt, atMostOne, Sl.mut, pIsi, isD, isT, tyD, pLenN, pLst1, pLstRev, and_assoc, frzL, blkS, wipeS, toB, ptYes, qSetSrc, gEq, gNe, eqD, flatD, mixD, eqv_ii, eqv_ss, eqv_bb, eqv_is, eqv_si, eqv_nn, piSeq, piRng1, piRng2, piRng3, piFz, PD.gSub, PD.gDiv, PD.gMod, PD.gLt, PD.gLe, PD.gGt, PD.gGe, PD.gPow, PD.gShr, PD.gXor, pSlice, poNone, poSome, qPar3, gLeT, sp__law_take]
    intro more w0 w1
    have e1 := lt_28 (n := more + 7) v28 e28 r1
    have e2 := lt_28 (n := more) v28 e28 r1
    have e3 := lt_28' (n := more) (k := 7) v28 e28 r1 w0
    have e4 : 12 * (dt D).1 + (dt D).2.1 - 1 + (more + 7) = 12 * (dt D).1 + (dt D).2.1 - 1 + more + 7 := by omega
    rw [e4] at e1
    have e5 := fm_le (t := 12 * (dt D).1 + (dt D).2.1 - 1 + more) (u := 12 * (dt D).1 + (dt D).2.1 - 1 + more + 7) (by omega)
    have e6 : lt (lt low more) 7 = lt low (more + 7) := by omega
    have e7 := (lt_pos (n := more) hl0 w0).2
    subst hk2
    refine seq_i fun k2 hk2 => ?_
    suffices main : k2 [.fz (ns.map PyData.int), .src, .v x, .v (.int year), .v (.int month), .v (.int D), .v (.int n), .v (.int low), .v (.int more), x9] by
      by_cases hlow : low ≤ 1000000
      · have hnl := num hl0 hlow
        by_cases hla : lt low (more + 7) ≤ 1000000
        · have hla2 : lt low more ≤ 1000000 := by omega
          have hnm := num (i := more) (lo := 0) (hi := 1000) (by omega) (by omega)
          have hnm7 := num (i := more + 7) (lo := 0) (hi := 1000) (by omega) (by omega)
          have hn7 := num (i := 7) (lo := 0) (hi := 1000) (by omega) (by omega)
          have hnn := num e7 hla2
          simp [qSeq, qIf, qRet, qSet, qAsg, qPar, qDrop, qNx, qRaise, qBk, qCt, qRetN, qAug, pER, pRE, pC, pName, pBin, pTest, pTru, strFit, truD, pAnd, pOr, pNot, pAndV, pOrV, pNotV, pIf, pChain, pNeg, pNil, pCons, pTup, pLst, pIxN, pCB, pCall, pcNil, pcCons, pcSrc, pcFz, gtName, gtNil, gtCons, gtTup, gAdd, gMul, gI, gI0, gOrd, gIx, gLen, gInt, gI1, gI2, slOf, enOf, begin_, seqAt, atMostOne, Sl.mut, pIsi, isD, isT, tyD, pLenN, pLst1, pLstRev, and_assoc, frzL, blkS, wipeS, toB, ptYes, qSetSrc, gEq, gNe, eqD, flatD, mixD, eqv_ii, eqv_ss, eqv_bb, eqv_is, eqv_si, eqv_nn, piSeq, piRng1, piRng2, piRng3, piFz, PD.gSub, PD.gDiv, PD.gMod, PD.gLt, PD.gLe, PD.gGt, PD.gGe, PD.gPow, PD.gShr, PD.gXor, pSlice, poNone, poSome, qPar3, gLeT, sp__law_later, sp_months_later, hlow, hla, hla2, hnl, hnm, hnm7, hn7, hnn, e6]
          exact ⟨hl0, by omega, by omega, main, fun h => absurd h (by omega), fun h => absurd h (by omega)⟩
        · simp [qSeq, qIf, qRet, qSet, qAsg, qPar, qDrop, qNx, qRaise, qBk, qCt, qRetN, qAug, pER, pRE, pC, pName, pBin, pTest, pTru, strFit, truD, pAnd, pOr, pNot, pAndV, pOrV, pNotV, pIf, pChain, pNeg, pNil, pCons, pTup, pLst, pIxN, pCB, pCall, pcNil, pcCons, pcSrc, pcFz, gtName, gtNil, gtCons, gtTup, gAdd, gMul, gI, gI0, gOrd, gIx, gLen, gInt, gI1, gI2, slOf, enOf, begin_, seqAt, atMostOne, Sl.mut, pIsi, isD, isT, tyD, pLenN, pLst1, pLstRev, and_assoc, frzL, blkS, wipeS, toB, ptYes, qSetSrc, gEq, gNe, eqD, flatD, mixD, eqv_ii, eqv_ss, eqv_bb, eqv_is, eqv_si, eqv_nn, piSeq, piRng1, piRng2, piRng3, piFz, PD.gSub, PD.gDiv, PD.gMod, PD.gLt, PD.gLe, PD.gGt, PD.gGe, PD.gPow, PD.gShr, PD.gXor, pSlice, poNone, poSome, qPar3, gLeT, sp__law_later, hlow, hla]
          exact ⟨hl0, by omega, by omega, main⟩
      · simp [qSeq, qIf, qRet, qSet, qAsg, qPar, qDrop, qNx, qRaise, qBk, qCt, qRetN, qAug, pER, pRE, pC, pName, pBin, pTest, pTru, strFit, truD, pAnd, pOr, pNot, pAndV, pOrV, pNotV, pIf, pChain, pNeg, pNil, pCons, pTup, pLst, pIxN, pCB, pCall, pcNil, pcCons, pcSrc, pcFz, gtName, gtNil, gtCons, gtTup, gAdd, gMul, gI, gI0, gOrd, gIx, gLen, gInt, gI1, gI2, slOf, enOf, begin_, seqAt, atMostOne, Sl.mut, pIsi, isD, isT, tyD, pLenN, pLst1, pLstRev, and_assoc, frzL, blkS, wipeS, toB, ptYes, qSetSrc, gEq, gNe, eqD, flatD, mixD, eqv_ii, eqv_ss, eqv_bb, eqv_is, eqv_si, eqv_nn, piSeq, piRng1, piRng2, piRng3, piFz, PD.gSub, PD.gDiv, PD.gMod, PD.gLt, PD.gLe, PD.gGt, PD.gGe, PD.gPow, PD.gShr, PD.gXor, pSlice, poNone, poSome, qPar3, gLeT, hlow]
        exact main
    subst hk2
    have hyn := num y0 (show year ≤ 2737 by omega)
    have c := chk_at y0 (by omega)
    unfold chk at c
    simp only [Bool.and_eq_true, Bool.or_eq_true, decide_eq_true_eq, beq_iff_eq] at c
    obtain ⟨⟨⟨⟨⟨⟨⟨⟨c1, c2⟩, c3⟩, c4⟩, c5⟩, c6⟩, c7⟩, c8⟩, c9⟩ := c
    have hen := num c8 c9
    refine seq_i fun k2 hk2 => ?_
    simp [qSeq, qIf, qRet, qSet, qAsg, qPar, qDrop, qNx, qRaise, qBk, qCt, qRetN, qAug, pER, pRE, pC, pName, pBin, pTest, pTru, strFit, truD, pAnd, pOr, pNot, pAndV, pOrV, pNotV, pIf, pChain, pNeg, pNil, pCons, pTup, pLst, pIxN, pCB, pCall, pcNil, pcCons, pcSrc, pcFz, gtName, gtNil, gtCons, gtTup, gAdd, gMul, gI, gI0, gOrd, gIx, gLen, gInt, gI1, gI2, slOf, enOf, begin_, seqAt, atMostOne, Sl.mut, pIsi, isD, isT, tyD, pLenN, pLst1, pLstRev, and_assoc, frzL, blkS, wipeS, toB, ptYes, qSetSrc, gEq, gNe, eqD, flatD, mixD, eqv_ii, eqv_ss, eqv_bb, eqv_is, eqv_si, eqv_nn, piSeq, piRng1, piRng2, piRng3, piFz, PD.gSub, PD.gDiv, PD.gMod, PD.gLt, PD.gLe, PD.gGt, PD.gGe, PD.gPow, PD.gShr, PD.gXor, pSlice, poNone, poSome, qPar3, gLeT, sp__law_feast, sp__law_easter, sp_easter, sp_weekday, sp__law_same, spSame, dep, hyn, hen, c7]
    refine ⟨y0, by omega, ?_⟩
    subst hk2
    have vE : Vd year (elN year / 31) (elN year % 31 + 1) := ⟨y0, by omega, by omega, by omega, c3⟩
    have hcut : ∀ m d : Int, cutD [.int year, .int m, .int d] (some 1) none = [PyData.int m, .int d] := fun m d => rfl
    have le1 : leT [3, 22] [elN year / 31, elN year % 31 + 1] = true := by
      rcases (show elN year / 31 = 3 ∨ elN year / 31 = 4 by omega) with h | h
      · rw [h] at c4 ⊢
        have : 22 ≤ elN year % 31 + 1 := by rcases c4 with c4 | c4; exact absurd c4 (by decide); exact c4
        simp [leT, Ob.lexAt]
        omega
      · rw [h]
        simp [leT, Ob.lexAt]
    have le2 : leT [elN year / 31, elN year % 31 + 1] [4, 25] = true := by
      rcases (show elN year / 31 = 3 ∨ elN year / 31 = 4 by omega) with h | h
      · rw [h]
        simp [leT, Ob.lexAt]
      · rw [h] at c5 ⊢
        have : elN year % 31 + 1 ≤ 25 := by rcases c5 with c5 | c5; exact absurd c5 (by decide); exact c5
        simp [leT, Ob.lexAt]
        omega
    simp [qSeq, qIf, qRet, qSet, qAsg, qPar, qDrop, qNx, qRaise, qBk, qCt, qRetN, qAug, pER, pRE, pC, pName, pBin, pTest, pTru, strFit, truD, pAnd, pOr, pNot, pAndV, pOrV, pNotV, pIf, pChain, pNeg, pNil, pCons, pTup, pLst, pIxN, pCB, pCall, pcNil, pcCons, pcSrc, pcFz, gtName, gtNil, gtCons, gtTup, gAdd, gMul, gI, gI0, gOrd, gIx, gLen, gInt, gI1, gI2, slOf, enOf, begin_, seqAt, atMostOne, Sl.mut, pIsi, isD, isT, tyD, pLenN, pLst1, pLstRev, and_assoc, frzL, blkS, wipeS, toB, ptYes, qSetSrc, gEq, gNe, eqD, flatD, mixD, eqv_ii, eqv_ss, eqv_bb, eqv_is, eqv_si, eqv_nn, piSeq, piRng1, piRng2, piRng3, piFz, PD.gSub, PD.gDiv, PD.gMod, PD.gLt, PD.gLe, PD.gGt, PD.gGe, PD.gPow, PD.gShr, PD.gXor, pSlice, poNone, poSome, qPar3, gLeT, sp_easter, sp_date_of, hyn, hen, szn 2]
    intro y1 m1 d1 v1 ee1
    obtain ⟨rfl, rfl, rfl⟩ := vE.uniq v1 (c6.symm.trans ee1.symm)
    refine ⟨[3, 22], rfl, [_, _], by rw [hcut]; rfl, ?_⟩
    rw [if_pos le1]
    exact ⟨[elN year / 31, elN year % 31 + 1], by rw [hcut]; rfl, [4, 25], rfl, fun h => by rw [le2] at h; cases h⟩
  · rintro ρ ⟨x2, x3, x4, x5, x6, x7, x8, x9, rfl⟩
    show k _
    subst hk
    refine seq_i fun k hk => ?_
    refine And.intro rfl (told_r rfl ?_)
    refine And.intro rfl (told_r rfl ?_)
    refine And.intro rfl (told_r rfl ?_)
    refine And.intro rfl (told_r rfl ?_)
    refine And.intro rfl (told_o rfl due1 ?_)
    refine And.intro rfl (feast_r rfl ?_)
    refine And.intro rfl (feast_r rfl ?_)
    refine And.intro (szn 7) ?_
    show k _
    subst hk
    refine And.intro (szn 1) (And.intro (by decide) (And.intro (by decide) (And.intro (szn 7) (And.intro (.inr ⟨by decide +kernel, by decide +kernel⟩) ?_))))
    show (if _ = true then _ else _)
    rw [if_pos (by decide)]
    refine And.intro rfl (told_o rfl due0 ?_)
    exact And.intro rfl ⟨_, rfl, rfl, q⟩
end K06

set_option Elab.async false
set_option linter.all false
set_option maxRecDepth 100000
set_option maxHeartbeats 1000000
/-! The end of k06. -/
namespace K06
open PySem PySem.Spec PyProof.Rows L2 GxR HGx PD LamX
section
variable {P : Program} {w : World} {K : PySem.W.Frag} {mg : Str → Option Value} {base : Heap} {tb : Addr → Prop}
theorem len_is_number {cA0 : Addr} {cA1 : Addr} : ∀ as Qr Qe, sp_is_number cA0 cA1 as Qr Qe → as.length = 3 := by
  intro as Qr Qe h
  first | (obtain ⟨rfl, _⟩ := h; rfl) | (obtain ⟨_, rfl, _⟩ := h; rfl) | (obtain ⟨_, _, rfl, _⟩ := h; rfl) | (obtain ⟨_, _, _, rfl, _⟩ := h; rfl) | (obtain ⟨_, _, _, _, rfl, _⟩ := h; rfl) | (obtain ⟨_, _, _, _, _, rfl, _⟩ := h; rfl)
theorem len_is_day {cA0 : Addr} {cA1 : Addr} : ∀ as Qr Qe, sp_is_day cA0 cA1 as Qr Qe → as.length = 1 := by
  intro as Qr Qe h
  first | (obtain ⟨rfl, _⟩ := h; rfl) | (obtain ⟨_, rfl, _⟩ := h; rfl) | (obtain ⟨_, _, rfl, _⟩ := h; rfl) | (obtain ⟨_, _, _, rfl, _⟩ := h; rfl) | (obtain ⟨_, _, _, _, rfl, _⟩ := h; rfl) | (obtain ⟨_, _, _, _, _, rfl, _⟩ := h; rfl)
theorem len_check_day {cA0 : Addr} {cA1 : Addr} : ∀ as Qr Qe, sp_check_day cA0 cA1 as Qr Qe → as.length = 1 := by
  intro as Qr Qe h
  first | (obtain ⟨rfl, _⟩ := h; rfl) | (obtain ⟨_, rfl, _⟩ := h; rfl) | (obtain ⟨_, _, rfl, _⟩ := h; rfl) | (obtain ⟨_, _, _, rfl, _⟩ := h; rfl) | (obtain ⟨_, _, _, _, rfl, _⟩ := h; rfl) | (obtain ⟨_, _, _, _, _, rfl, _⟩ := h; rfl)
theorem len_weekday_of {cA0 : Addr} {cA1 : Addr} : ∀ as Qr Qe, sp_weekday_of cA0 cA1 as Qr Qe → as.length = 1 := by
  intro as Qr Qe h
  first | (obtain ⟨rfl, _⟩ := h; rfl) | (obtain ⟨_, rfl, _⟩ := h; rfl) | (obtain ⟨_, _, rfl, _⟩ := h; rfl) | (obtain ⟨_, _, _, rfl, _⟩ := h; rfl) | (obtain ⟨_, _, _, _, rfl, _⟩ := h; rfl) | (obtain ⟨_, _, _, _, _, rfl, _⟩ := h; rfl)
theorem len_weekday {cA0 : Addr} {cA1 : Addr} : ∀ as Qr Qe, sp_weekday cA0 cA1 as Qr Qe → as.length = 1 := by
  intro as Qr Qe h
  first | (obtain ⟨rfl, _⟩ := h; rfl) | (obtain ⟨_, rfl, _⟩ := h; rfl) | (obtain ⟨_, _, rfl, _⟩ := h; rfl) | (obtain ⟨_, _, _, rfl, _⟩ := h; rfl) | (obtain ⟨_, _, _, _, rfl, _⟩ := h; rfl) | (obtain ⟨_, _, _, _, _, rfl, _⟩ := h; rfl)
theorem len_is_long {cA0 : Addr} {cA1 : Addr} : ∀ as Qr Qe, sp_is_long cA0 cA1 as Qr Qe → as.length = 1 := by
  intro as Qr Qe h
  first | (obtain ⟨rfl, _⟩ := h; rfl) | (obtain ⟨_, rfl, _⟩ := h; rfl) | (obtain ⟨_, _, rfl, _⟩ := h; rfl) | (obtain ⟨_, _, _, rfl, _⟩ := h; rfl) | (obtain ⟨_, _, _, _, rfl, _⟩ := h; rfl) | (obtain ⟨_, _, _, _, _, rfl, _⟩ := h; rfl)
theorem len_length_of {cA0 : Addr} {cA1 : Addr} : ∀ as Qr Qe, sp_length_of cA0 cA1 as Qr Qe → as.length = 2 := by
  intro as Qr Qe h
  first | (obtain ⟨rfl, _⟩ := h; rfl) | (obtain ⟨_, rfl, _⟩ := h; rfl) | (obtain ⟨_, _, rfl, _⟩ := h; rfl) | (obtain ⟨_, _, _, rfl, _⟩ := h; rfl) | (obtain ⟨_, _, _, _, rfl, _⟩ := h; rfl) | (obtain ⟨_, _, _, _, _, rfl, _⟩ := h; rfl)
theorem len_check_year {cA0 : Addr} {cA1 : Addr} : ∀ as Qr Qe, sp_check_year cA0 cA1 as Qr Qe → as.length = 1 := by
  intro as Qr Qe h
  first | (obtain ⟨rfl, _⟩ := h; rfl) | (obtain ⟨_, rfl, _⟩ := h; rfl) | (obtain ⟨_, _, rfl, _⟩ := h; rfl) | (obtain ⟨_, _, _, rfl, _⟩ := h; rfl) | (obtain ⟨_, _, _, _, rfl, _⟩ := h; rfl) | (obtain ⟨_, _, _, _, _, rfl, _⟩ := h; rfl)
theorem len_new_year {cA0 : Addr} {cA1 : Addr} : ∀ as Qr Qe, sp_new_year cA0 cA1 as Qr Qe → as.length = 1 := by
  intro as Qr Qe h
  first | (obtain ⟨rfl, _⟩ := h; rfl) | (obtain ⟨_, rfl, _⟩ := h; rfl) | (obtain ⟨_, _, rfl, _⟩ := h; rfl) | (obtain ⟨_, _, _, rfl, _⟩ := h; rfl) | (obtain ⟨_, _, _, _, rfl, _⟩ := h; rfl) | (obtain ⟨_, _, _, _, _, rfl, _⟩ := h; rfl)
theorem len_day_at {cA0 : Addr} {cA1 : Addr} : ∀ as Qr Qe, sp_day_at cA0 cA1 as Qr Qe → as.length = 3 := by
  intro as Qr Qe h
  first | (obtain ⟨rfl, _⟩ := h; rfl) | (obtain ⟨_, rfl, _⟩ := h; rfl) | (obtain ⟨_, _, rfl, _⟩ := h; rfl) | (obtain ⟨_, _, _, rfl, _⟩ := h; rfl) | (obtain ⟨_, _, _, _, rfl, _⟩ := h; rfl) | (obtain ⟨_, _, _, _, _, rfl, _⟩ := h; rfl)
theorem len_date_at {cA0 : Addr} {cA1 : Addr} : ∀ as Qr Qe, sp_date_at cA0 cA1 as Qr Qe → as.length = 1 := by
  intro as Qr Qe h
  first | (obtain ⟨rfl, _⟩ := h; rfl) | (obtain ⟨_, rfl, _⟩ := h; rfl) | (obtain ⟨_, _, rfl, _⟩ := h; rfl) | (obtain ⟨_, _, _, rfl, _⟩ := h; rfl) | (obtain ⟨_, _, _, _, rfl, _⟩ := h; rfl) | (obtain ⟨_, _, _, _, _, rfl, _⟩ := h; rfl)
theorem len_date_of {cA0 : Addr} {cA1 : Addr} : ∀ as Qr Qe, sp_date_of cA0 cA1 as Qr Qe → as.length = 1 := by
  intro as Qr Qe h
  first | (obtain ⟨rfl, _⟩ := h; rfl) | (obtain ⟨_, rfl, _⟩ := h; rfl) | (obtain ⟨_, _, rfl, _⟩ := h; rfl) | (obtain ⟨_, _, _, rfl, _⟩ := h; rfl) | (obtain ⟨_, _, _, _, rfl, _⟩ := h; rfl) | (obtain ⟨_, _, _, _, _, rfl, _⟩ := h; rfl)
theorem len_later_by {cA0 : Addr} {cA1 : Addr} : ∀ as Qr Qe, sp_later_by cA0 cA1 as Qr Qe → as.length = 2 := by
  intro as Qr Qe h
  first | (obtain ⟨rfl, _⟩ := h; rfl) | (obtain ⟨_, rfl, _⟩ := h; rfl) | (obtain ⟨_, _, rfl, _⟩ := h; rfl) | (obtain ⟨_, _, _, rfl, _⟩ := h; rfl) | (obtain ⟨_, _, _, _, rfl, _⟩ := h; rfl) | (obtain ⟨_, _, _, _, _, rfl, _⟩ := h; rfl)
theorem len_months_later {cA0 : Addr} {cA1 : Addr} : ∀ as Qr Qe, sp_months_later cA0 cA1 as Qr Qe → as.length = 2 := by
  intro as Qr Qe h
  first | (obtain ⟨rfl, _⟩ := h; rfl) | (obtain ⟨_, rfl, _⟩ := h; rfl) | (obtain ⟨_, _, rfl, _⟩ := h; rfl) | (obtain ⟨_, _, _, rfl, _⟩ := h; rfl) | (obtain ⟨_, _, _, _, rfl, _⟩ := h; rfl) | (obtain ⟨_, _, _, _, _, rfl, _⟩ := h; rfl)
theorem len_easter_day {cA0 : Addr} {cA1 : Addr} : ∀ as Qr Qe, sp_easter_day cA0 cA1 as Qr Qe → as.length = 1 := by
  intro as Qr Qe h
  first | (obtain ⟨rfl, _⟩ := h; rfl) | (obtain ⟨_, rfl, _⟩ := h; rfl) | (obtain ⟨_, _, rfl, _⟩ := h; rfl) | (obtain ⟨_, _, _, rfl, _⟩ := h; rfl) | (obtain ⟨_, _, _, _, rfl, _⟩ := h; rfl) | (obtain ⟨_, _, _, _, _, rfl, _⟩ := h; rfl)
theorem len_easter {cA0 : Addr} {cA1 : Addr} : ∀ as Qr Qe, sp_easter cA0 cA1 as Qr Qe → as.length = 1 := by
  intro as Qr Qe h
  first | (obtain ⟨rfl, _⟩ := h; rfl) | (obtain ⟨_, rfl, _⟩ := h; rfl) | (obtain ⟨_, _, rfl, _⟩ := h; rfl) | (obtain ⟨_, _, _, rfl, _⟩ := h; rfl) | (obtain ⟨_, _, _, _, rfl, _⟩ := h; rfl) | (obtain ⟨_, _, _, _, _, rfl, _⟩ := h; rfl)
theorem len__law_draws {cA0 : Addr} {cA1 : Addr} : ∀ as Qr Qe, sp__law_draws cA0 cA1 as Qr Qe → as.length = 1 := by
  intro as Qr Qe h
  first | (obtain ⟨rfl, _⟩ := h; rfl) | (obtain ⟨_, rfl, _⟩ := h; rfl) | (obtain ⟨_, _, rfl, _⟩ := h; rfl) | (obtain ⟨_, _, _, rfl, _⟩ := h; rfl) | (obtain ⟨_, _, _, _, rfl, _⟩ := h; rfl) | (obtain ⟨_, _, _, _, _, rfl, _⟩ := h; rfl)
theorem len__law_take {cA0 : Addr} {cA1 : Addr} : ∀ as Qr Qe, sp__law_take cA0 cA1 as Qr Qe → as.length = 2 := by
  intro as Qr Qe h
  first | (obtain ⟨rfl, _⟩ := h; rfl) | (obtain ⟨_, rfl, _⟩ := h; rfl) | (obtain ⟨_, _, rfl, _⟩ := h; rfl) | (obtain ⟨_, _, _, rfl, _⟩ := h; rfl) | (obtain ⟨_, _, _, _, rfl, _⟩ := h; rfl) | (obtain ⟨_, _, _, _, _, rfl, _⟩ := h; rfl)
theorem len__law_leap {cA0 : Addr} {cA1 : Addr} : ∀ as Qr Qe, sp__law_leap cA0 cA1 as Qr Qe → as.length = 1 := by
  intro as Qr Qe h
  first | (obtain ⟨rfl, _⟩ := h; rfl) | (obtain ⟨_, rfl, _⟩ := h; rfl) | (obtain ⟨_, _, rfl, _⟩ := h; rfl) | (obtain ⟨_, _, _, rfl, _⟩ := h; rfl) | (obtain ⟨_, _, _, _, rfl, _⟩ := h; rfl) | (obtain ⟨_, _, _, _, _, rfl, _⟩ := h; rfl)
theorem len__law_length {cA0 : Addr} {cA1 : Addr} : ∀ as Qr Qe, sp__law_length cA0 cA1 as Qr Qe → as.length = 2 := by
  intro as Qr Qe h
  first | (obtain ⟨rfl, _⟩ := h; rfl) | (obtain ⟨_, rfl, _⟩ := h; rfl) | (obtain ⟨_, _, rfl, _⟩ := h; rfl) | (obtain ⟨_, _, _, rfl, _⟩ := h; rfl) | (obtain ⟨_, _, _, _, rfl, _⟩ := h; rfl) | (obtain ⟨_, _, _, _, _, rfl, _⟩ := h; rfl)
theorem len__law_ahead {cA0 : Addr} {cA1 : Addr} : ∀ as Qr Qe, sp__law_ahead cA0 cA1 as Qr Qe → as.length = 1 := by
  intro as Qr Qe h
  first | (obtain ⟨rfl, _⟩ := h; rfl) | (obtain ⟨_, rfl, _⟩ := h; rfl) | (obtain ⟨_, _, rfl, _⟩ := h; rfl) | (obtain ⟨_, _, _, rfl, _⟩ := h; rfl) | (obtain ⟨_, _, _, _, rfl, _⟩ := h; rfl) | (obtain ⟨_, _, _, _, _, rfl, _⟩ := h; rfl)
theorem len__law_date {cA0 : Addr} {cA1 : Addr} : ∀ as Qr Qe, sp__law_date cA0 cA1 as Qr Qe → as.length = 1 := by
  intro as Qr Qe h
  first | (obtain ⟨rfl, _⟩ := h; rfl) | (obtain ⟨_, rfl, _⟩ := h; rfl) | (obtain ⟨_, _, rfl, _⟩ := h; rfl) | (obtain ⟨_, _, _, rfl, _⟩ := h; rfl) | (obtain ⟨_, _, _, _, rfl, _⟩ := h; rfl) | (obtain ⟨_, _, _, _, _, rfl, _⟩ := h; rfl)
theorem len__law_number {cA0 : Addr} {cA1 : Addr} : ∀ as Qr Qe, sp__law_number cA0 cA1 as Qr Qe → as.length = 3 := by
  intro as Qr Qe h
  first | (obtain ⟨rfl, _⟩ := h; rfl) | (obtain ⟨_, rfl, _⟩ := h; rfl) | (obtain ⟨_, _, rfl, _⟩ := h; rfl) | (obtain ⟨_, _, _, rfl, _⟩ := h; rfl) | (obtain ⟨_, _, _, _, rfl, _⟩ := h; rfl) | (obtain ⟨_, _, _, _, _, rfl, _⟩ := h; rfl)
theorem len__law_later {cA0 : Addr} {cA1 : Addr} : ∀ as Qr Qe, sp__law_later cA0 cA1 as Qr Qe → as.length = 2 := by
  intro as Qr Qe h
  first | (obtain ⟨rfl, _⟩ := h; rfl) | (obtain ⟨_, rfl, _⟩ := h; rfl) | (obtain ⟨_, _, rfl, _⟩ := h; rfl) | (obtain ⟨_, _, _, rfl, _⟩ := h; rfl) | (obtain ⟨_, _, _, _, rfl, _⟩ := h; rfl) | (obtain ⟨_, _, _, _, _, rfl, _⟩ := h; rfl)
theorem len__law_easter {cA0 : Addr} {cA1 : Addr} : ∀ as Qr Qe, sp__law_easter cA0 cA1 as Qr Qe → as.length = 1 := by
  intro as Qr Qe h
  first | (obtain ⟨rfl, _⟩ := h; rfl) | (obtain ⟨_, rfl, _⟩ := h; rfl) | (obtain ⟨_, _, rfl, _⟩ := h; rfl) | (obtain ⟨_, _, _, rfl, _⟩ := h; rfl) | (obtain ⟨_, _, _, _, rfl, _⟩ := h; rfl) | (obtain ⟨_, _, _, _, _, rfl, _⟩ := h; rfl)
theorem len__law_told {cA0 : Addr} {cA1 : Addr} : ∀ as Qr Qe, sp__law_told cA0 cA1 as Qr Qe → as.length = 2 := by
  intro as Qr Qe h
  first | (obtain ⟨rfl, _⟩ := h; rfl) | (obtain ⟨_, rfl, _⟩ := h; rfl) | (obtain ⟨_, _, rfl, _⟩ := h; rfl) | (obtain ⟨_, _, _, rfl, _⟩ := h; rfl) | (obtain ⟨_, _, _, _, rfl, _⟩ := h; rfl) | (obtain ⟨_, _, _, _, _, rfl, _⟩ := h; rfl)
theorem len__law_feast {cA0 : Addr} {cA1 : Addr} : ∀ as Qr Qe, sp__law_feast cA0 cA1 as Qr Qe → as.length = 1 := by
  intro as Qr Qe h
  first | (obtain ⟨rfl, _⟩ := h; rfl) | (obtain ⟨_, rfl, _⟩ := h; rfl) | (obtain ⟨_, _, rfl, _⟩ := h; rfl) | (obtain ⟨_, _, _, rfl, _⟩ := h; rfl) | (obtain ⟨_, _, _, _, rfl, _⟩ := h; rfl) | (obtain ⟨_, _, _, _, _, rfl, _⟩ := h; rfl)
theorem len__law_due {cA0 : Addr} {cA1 : Addr} : ∀ as Qr Qe, sp__law_due cA0 cA1 as Qr Qe → as.length = 2 := by
  intro as Qr Qe h
  first | (obtain ⟨rfl, _⟩ := h; rfl) | (obtain ⟨_, rfl, _⟩ := h; rfl) | (obtain ⟨_, _, rfl, _⟩ := h; rfl) | (obtain ⟨_, _, _, rfl, _⟩ := h; rfl) | (obtain ⟨_, _, _, _, rfl, _⟩ := h; rfl) | (obtain ⟨_, _, _, _, _, rfl, _⟩ := h; rfl)
theorem len_law : ∀ as Qr Qe, pLaw as Qr Qe → as.length = 1 := by
  intro as Qr Qe h
  first | (obtain ⟨rfl, _⟩ := h; rfl) | (obtain ⟨_, rfl, _⟩ := h; rfl) | (obtain ⟨_, _, rfl, _⟩ := h; rfl) | (obtain ⟨_, _, _, rfl, _⟩ := h; rfl) | (obtain ⟨_, _, _, _, rfl, _⟩ := h; rfl) | (obtain ⟨_, _, _, _, _, rfl, _⟩ := h; rfl)
theorem exm_mk {C D : Addr} (b : PySem.W.subIn K (.ref D) (.type "BaseException") = some true) (i : PySem.W.isClsIn K D = true) (t : PySem.W.typeIn K (.ref D) = some (.type "type")) (s : PySem.W.subIn K (.ref C) (.ref D) = some true) : PySem.W.exmOne K (.ref C) (.ref D) = some true := by
  unfold PySem.W.exmOne PySem.W.kitCls
  have i2 : (PySem.W.clsIn K D).isSome = true := i
  simp [b, t, i2, s]
theorem tabOf {c P : Addr} (t : LamX.TabB base mg c P) : GxR.TabB base mg c P := ⟨t.code, t.bm, t.gP⟩
theorem kit_mk {C : Addr} : PySem.W.kitOne K (.ref C) (.ref C) = some true := by unfold PySem.W.kitOne; simp
theorem tab_mk {x : Str} {f c P : Addr} {oc e : Value} {od dd : Option Addr} {fd : FuncData} {osl sl : Array (Option Value)} {vs : Array Value} (a : PySem.W.nsIn K mainGlobals x = some (some (.ref f))) (l : K.lookup f = some ⟨oc, od, .func fd, osl⟩) (hc : fd.code = .ref c) (lc : K.lookup c = some ⟨e, dd, .fields vs, sl⟩) (hv : vs[11]? = some (.ref P)) : PySem.W.tabIn K x = some (c, P) := by
  unfold PySem.W.tabIn
  simp only [a, l, hc, lc, hv]
theorem ok__law_same (g : G K mg base tb) : ∀ k : Nat, FnOk P w K mg base (L2.CX P w) (k + 1) g.a__law_same g.f__law_same ["actual", "due"] (spOf K (drw tb) (spSame k))
  | 0 => w__law_same g (k := 0) (sp := fun _ _ _ => False) ⟨fun vs H Q E ⟨_, _, _, _, _, _, h, _⟩ => h.elim, fun A outer s H args us vs Q E _ _ _ _ ⟨_, _, _, _, _, _, h, _⟩ => h.elim⟩ (fun as Qr Qe h => by obtain ⟨_, rfl, _⟩ := h; rfl) pf__law_same0
  | k + 1 => w__law_same g (ok__law_same g k) (fun as Qr Qe h => by obtain ⟨_, rfl, _⟩ := h; rfl) pf__law_same
theorem ok_law (g : G K mg base tb) (hx : PySem.W.exmOne K (.ref g.c_OutOfRange) (.ref g.c_DocketError) = some true) (hk : PySem.W.kitOne K (.ref g.c_OutOfRange) (.ref g.c_OutOfRange) = some true) (hC : ExcC K g.c_OutOfRange) : FnOk P w K mg base (L2.CX P w) 13 g.a_law g.f_law ["script"] (spOf K (drw tb) pLaw) := by
  have o_is_number := w_is_number (P := P) (w := w) g len_is_number (pf_is_number)
  have o_is_day := w_is_day (P := P) (w := w) g o_is_number len_is_day (pf_is_day)
  have o_check_day := w_check_day (P := P) (w := w) g o_is_day len_check_day (pf_check_day)
  have o_weekday_of := w_weekday_of (P := P) (w := w) g len_weekday_of (pf_weekday_of)
  have o_weekday := w_weekday (P := P) (w := w) g o_check_day o_weekday_of len_weekday (pf_weekday)
  have o_is_long := w_is_long (P := P) (w := w) g len_is_long (pf_is_long)
  have o_length_of := w_length_of (P := P) (w := w) g o_is_long len_length_of (pf_length_of)
  have o_check_year := w_check_year (P := P) (w := w) g o_is_number len_check_year (pf_check_year)
  have o_new_year := w_new_year (P := P) (w := w) g len_new_year (pf_new_year)
  have o_day_at := w_day_at (P := P) (w := w) g o_length_of o_new_year len_day_at (pf_day_at)
  have o_date_at := w_date_at (P := P) (w := w) g o_new_year o_length_of len_date_at (pf_date_at)
  have o_date_of := w_date_of (P := P) (w := w) g o_check_day o_date_at len_date_of (pf_date_of)
  have o_later_by := w_later_by (P := P) (w := w) g o_date_at o_length_of o_day_at len_later_by (pf_later_by)
  have o_months_later := w_months_later (P := P) (w := w) g o_check_day o_is_number o_later_by len_months_later (pf_months_later)
  have o_easter_day := w_easter_day (P := P) (w := w) g o_day_at o_weekday_of len_easter_day (pf_easter_day)
  have o_easter := w_easter (P := P) (w := w) g o_check_year o_easter_day len_easter (pf_easter)
  have o__law_draws := w__law_draws (P := P) (w := w) g len__law_draws (pf__law_draws)
  have o__law_take := w__law_take (P := P) (w := w) g len__law_take (pf__law_take)
  have o__law_same := ok__law_same (P := P) (w := w) g 11
  have o__law_leap := w__law_leap (P := P) (w := w) g len__law_leap (pf__law_leap)
  have o__law_length := w__law_length (P := P) (w := w) g o__law_leap len__law_length (pf__law_length)
  have o__law_ahead := w__law_ahead (P := P) (w := w) g len__law_ahead (pf__law_ahead)
  have o__law_date := w__law_date (P := P) (w := w) g o__law_ahead o__law_length len__law_date (pf__law_date)
  have o__law_number := w__law_number (P := P) (w := w) g o__law_ahead o__law_length len__law_number (pf__law_number)
  have o__law_later := w__law_later (P := P) (w := w) g o__law_date o__law_length o__law_number len__law_later (pf__law_later)
  have o__law_easter := w__law_easter (P := P) (w := w) g o__law_number len__law_easter (pf__law_easter)
  have o__law_told := w__law_told (P := P) (w := w) g o_months_later len__law_told (pf__law_told hx hk hC)
  have o__law_feast := w__law_feast (P := P) (w := w) g o_easter len__law_feast (pf__law_feast hx hk hC)
  have o__law_due := w__law_due (P := P) (w := w) g o__law_later len__law_due (pf__law_due)
  have o_law := w_law (P := P) (w := w) g o__law_draws o__law_take o__law_number o__law_length o__law_same o__law_due o__law_told o_months_later o__law_date o__law_later o__law_easter o__law_feast o_weekday o_easter o_date_of len_law (pf_law)
  exact o_law
end
theorem all_mk {l : PySem.W.OpenLaw} {w : World} {q : Program} {K : PySem.W.Frag} {h : Heap} {mg : Str → Option Value} {fa : Addr} (X : K.In h) (G : h.Ns mainGlobals mg) (hfa : mg "law" = some (.ref fa)) (TT : Tabs q K h)
    {f_is_number : Addr} {od_is_number an_is_number : Option Addr} {sl_is_number : Array (Option Value)} {oc_is_number kV_is_number dc_is_number pm_is_number cc_is_number : Value} {cd_is_number : Value} {f_is_day : Addr} {od_is_day an_is_day : Option Addr} {sl_is_day : Array (Option Value)} {oc_is_day kV_is_day dc_is_day pm_is_day cc_is_day : Value} {cd_is_day : Value} {f_check_day : Addr} {od_check_day an_check_day : Option Addr} {sl_check_day : Array (Option Value)} {oc_check_day kV_check_day dc_check_day pm_check_day cc_check_day : Value} {cd_check_day : Value} {f_weekday_of : Addr} {od_weekday_of an_weekday_of : Option Addr} {sl_weekday_of : Array (Option Value)} {oc_weekday_of kV_weekday_of dc_weekday_of pm_weekday_of cc_weekday_of : Value} {cd_weekday_of : Value} {f_weekday : Addr} {od_weekday an_weekday : Option Addr} {sl_weekday : Array (Option Value)} {oc_weekday kV_weekday dc_weekday pm_weekday cc_weekday : Value} {cd_weekday : Value} {f_is_long : Addr} {od_is_long an_is_long : Option Addr} {sl_is_long : Array (Option Value)} {oc_is_long kV_is_long dc_is_long pm_is_long cc_is_long : Value} {cd_is_long : Value} {f_length_of : Addr} {od_length_of an_length_of : Option Addr} {sl_length_of : Array (Option Value)} {oc_length_of kV_length_of dc_length_of pm_length_of cc_length_of : Value} {cd_length_of : Value} {f_check_year : Addr} {od_check_year an_check_year : Option Addr} {sl_check_year : Array (Option Value)} {oc_check_year kV_check_year dc_check_year pm_check_year cc_check_year : Value} {cd_check_year : Value} {f_new_year : Addr} {od_new_year an_new_year : Option Addr} {sl_new_year : Array (Option Value)} {oc_new_year kV_new_year dc_new_year pm_new_year cc_new_year : Value} {cd_new_year : Value} {f_day_at : Addr} {od_day_at an_day_at : Option Addr} {sl_day_at : Array (Option Value)} {oc_day_at kV_day_at dc_day_at pm_day_at cc_day_at : Value} {ct_day_at tt_day_at : Addr} {te_day_at : Value} {td_day_at : Option Addr} {tv_day_at : Array Value} {ts_day_at : Array (Option Value)} {dr_day_at : DefRec} {f_date_at : Addr} {od_date_at an_date_at : Option Addr} {sl_date_at : Array (Option Value)} {oc_date_at kV_date_at dc_date_at pm_date_at cc_date_at : Value} {cd_date_at : Value} {f_date_of : Addr} {od_date_of an_date_of : Option Addr} {sl_date_of : Array (Option Value)} {oc_date_of kV_date_of dc_date_of pm_date_of cc_date_of : Value} {cd_date_of : Value} {f_later_by : Addr} {od_later_by an_later_by : Option Addr} {sl_later_by : Array (Option Value)} {oc_later_by kV_later_by dc_later_by pm_later_by cc_later_by : Value} {cd_later_by : Value} {f_months_later : Addr} {od_months_later an_months_later : Option Addr} {sl_months_later : Array (Option Value)} {oc_months_later kV_months_later dc_months_later pm_months_later cc_months_later : Value} {cd_months_later : Value} {f_easter_day : Addr} {od_easter_day an_easter_day : Option Addr} {sl_easter_day : Array (Option Value)} {oc_easter_day kV_easter_day dc_easter_day pm_easter_day cc_easter_day : Value} {cd_easter_day : Value} {f_easter : Addr} {od_easter an_easter : Option Addr} {sl_easter : Array (Option Value)} {oc_easter kV_easter dc_easter pm_easter cc_easter : Value} {cd_easter : Value} {f__law_draws : Addr} {od__law_draws an__law_draws : Option Addr} {sl__law_draws : Array (Option Value)} {oc__law_draws kV__law_draws dc__law_draws pm__law_draws cc__law_draws : Value} {cd__law_draws : Value} {f__law_take : Addr} {od__law_take an__law_take : Option Addr} {sl__law_take : Array (Option Value)} {oc__law_take kV__law_take dc__law_take pm__law_take cc__law_take : Value} {cd__law_take : Value} {f__law_same : Addr} {od__law_same an__law_same : Option Addr} {sl__law_same : Array (Option Value)} {oc__law_same kV__law_same dc__law_same pm__law_same cc__law_same : Value} {cd__law_same : Value} {f__law_leap : Addr} {od__law_leap an__law_leap : Option Addr} {sl__law_leap : Array (Option Value)} {oc__law_leap kV__law_leap dc__law_leap pm__law_leap cc__law_leap : Value} {cd__law_leap : Value} {f__law_length : Addr} {od__law_length an__law_length : Option Addr} {sl__law_length : Array (Option Value)} {oc__law_length kV__law_length dc__law_length pm__law_length cc__law_length : Value} {cd__law_length : Value} {f__law_ahead : Addr} {od__law_ahead an__law_ahead : Option Addr} {sl__law_ahead : Array (Option Value)} {oc__law_ahead kV__law_ahead dc__law_ahead pm__law_ahead cc__law_ahead : Value} {cd__law_ahead : Value} {f__law_date : Addr} {od__law_date an__law_date : Option Addr} {sl__law_date : Array (Option Value)} {oc__law_date kV__law_date dc__law_date pm__law_date cc__law_date : Value} {cd__law_date : Value} {f__law_number : Addr} {od__law_number an__law_number : Option Addr} {sl__law_number : Array (Option Value)} {oc__law_number kV__law_number dc__law_number pm__law_number cc__law_number : Value} {cd__law_number : Value} {f__law_later : Addr} {od__law_later an__law_later : Option Addr} {sl__law_later : Array (Option Value)} {oc__law_later kV__law_later dc__law_later pm__law_later cc__law_later : Value} {cd__law_later : Value} {f__law_easter : Addr} {od__law_easter an__law_easter : Option Addr} {sl__law_easter : Array (Option Value)} {oc__law_easter kV__law_easter dc__law_easter pm__law_easter cc__law_easter : Value} {cd__law_easter : Value} {f__law_told : Addr} {od__law_told an__law_told : Option Addr} {sl__law_told : Array (Option Value)} {oc__law_told kV__law_told dc__law_told pm__law_told cc__law_told : Value} {cd__law_told : Value} {f__law_feast : Addr} {od__law_feast an__law_feast : Option Addr} {sl__law_feast : Array (Option Value)} {oc__law_feast kV__law_feast dc__law_feast pm__law_feast cc__law_feast : Value} {cd__law_feast : Value} {f__law_due : Addr} {od__law_due an__law_due : Option Addr} {sl__law_due : Array (Option Value)} {oc__law_due kV__law_due dc__law_due pm__law_due cc__law_due : Value} {cd__law_due : Value} {f_law : Addr} {od_law an_law : Option Addr} {sl_law : Array (Option Value)} {oc_law kV_law dc_law pm_law cc_law : Value} {cd_law : Value} {tk_LAST_DAY : Tok} {tk_LAST_YEAR : Tok} {tk_LENGTHS_0 : Tok} {tk_LENGTHS_1 : Tok} {tk_LENGTHS_2 : Tok} {tk_LENGTHS_3 : Tok} {tk_LENGTHS_4 : Tok} {tk_LENGTHS_5 : Tok} {tk_LENGTHS_6 : Tok} {tk_LENGTHS_7 : Tok} {tk_LENGTHS_8 : Tok} {tk_LENGTHS_9 : Tok} {tk_LENGTHS_10 : Tok} {tk_LENGTHS_11 : Tok} {u_LENGTHS : Addr} {ud_LENGTHS : Option Addr} {un_LENGTHS : Nat} {us_LENGTHS : Array (Option Value)} {C_DocketError : Addr} {C_OutOfRange : Addr}
    (a_is_number : PySem.W.nsIn K mainGlobals "is_number" = some (some (.ref f_is_number)))
    (l_is_number : K.lookup f_is_number = some ⟨oc_is_number, od_is_number, .func (PySem.W.fnOf "is_number" "is_number" (defArgs s_is_number) (defBody s_is_number) (defScope s_is_number) .none kV_is_number dc_is_number pm_is_number an_is_number cd_is_number cc_is_number), sl_is_number⟩)
    (c_is_number : PySem.W.codeIn K cd_is_number "is_number" = true)
    (k_is_number : PySem.W.keepIn K (.ref f_is_number) = true)
    (a_is_day : PySem.W.nsIn K mainGlobals "is_day" = some (some (.ref f_is_day)))
    (l_is_day : K.lookup f_is_day = some ⟨oc_is_day, od_is_day, .func (PySem.W.fnOf "is_day" "is_day" (defArgs s_is_day) (defBody s_is_day) (defScope s_is_day) .none kV_is_day dc_is_day pm_is_day an_is_day cd_is_day cc_is_day), sl_is_day⟩)
    (c_is_day : PySem.W.codeIn K cd_is_day "is_day" = true)
    (k_is_day : PySem.W.keepIn K (.ref f_is_day) = true)
    (a_check_day : PySem.W.nsIn K mainGlobals "check_day" = some (some (.ref f_check_day)))
    (l_check_day : K.lookup f_check_day = some ⟨oc_check_day, od_check_day, .func (PySem.W.fnOf "check_day" "check_day" (defArgs s_check_day) (defBody s_check_day) (defScope s_check_day) .none kV_check_day dc_check_day pm_check_day an_check_day cd_check_day cc_check_day), sl_check_day⟩)
    (c_check_day : PySem.W.codeIn K cd_check_day "check_day" = true)
    (k_check_day : PySem.W.keepIn K (.ref f_check_day) = true)
    (a_weekday_of : PySem.W.nsIn K mainGlobals "weekday_of" = some (some (.ref f_weekday_of)))
    (l_weekday_of : K.lookup f_weekday_of = some ⟨oc_weekday_of, od_weekday_of, .func (PySem.W.fnOf "weekday_of" "weekday_of" (defArgs s_weekday_of) (defBody s_weekday_of) (defScope s_weekday_of) .none kV_weekday_of dc_weekday_of pm_weekday_of an_weekday_of cd_weekday_of cc_weekday_of), sl_weekday_of⟩)
    (c_weekday_of : PySem.W.codeIn K cd_weekday_of "weekday_of" = true)
    (k_weekday_of : PySem.W.keepIn K (.ref f_weekday_of) = true)
    (a_weekday : PySem.W.nsIn K mainGlobals "weekday" = some (some (.ref f_weekday)))
    (l_weekday : K.lookup f_weekday = some ⟨oc_weekday, od_weekday, .func (PySem.W.fnOf "weekday" "weekday" (defArgs s_weekday) (defBody s_weekday) (defScope s_weekday) .none kV_weekday dc_weekday pm_weekday an_weekday cd_weekday cc_weekday), sl_weekday⟩)
    (c_weekday : PySem.W.codeIn K cd_weekday "weekday" = true)
    (k_weekday : PySem.W.keepIn K (.ref f_weekday) = true)
    (a_is_long : PySem.W.nsIn K mainGlobals "is_long" = some (some (.ref f_is_long)))
    (l_is_long : K.lookup f_is_long = some ⟨oc_is_long, od_is_long, .func (PySem.W.fnOf "is_long" "is_long" (defArgs s_is_long) (defBody s_is_long) (defScope s_is_long) .none kV_is_long dc_is_long pm_is_long an_is_long cd_is_long cc_is_long), sl_is_long⟩)
    (c_is_long : PySem.W.codeIn K cd_is_long "is_long" = true)
    (k_is_long : PySem.W.keepIn K (.ref f_is_long) = true)
    (a_length_of : PySem.W.nsIn K mainGlobals "length_of" = some (some (.ref f_length_of)))
    (l_length_of : K.lookup f_length_of = some ⟨oc_length_of, od_length_of, .func (PySem.W.fnOf "length_of" "length_of" (defArgs s_length_of) (defBody s_length_of) (defScope s_length_of) .none kV_length_of dc_length_of pm_length_of an_length_of cd_length_of cc_length_of), sl_length_of⟩)
    (c_length_of : PySem.W.codeIn K cd_length_of "length_of" = true)
    (k_length_of : PySem.W.keepIn K (.ref f_length_of) = true)
    (a_check_year : PySem.W.nsIn K mainGlobals "check_year" = some (some (.ref f_check_year)))
    (l_check_year : K.lookup f_check_year = some ⟨oc_check_year, od_check_year, .func (PySem.W.fnOf "check_year" "check_year" (defArgs s_check_year) (defBody s_check_year) (defScope s_check_year) .none kV_check_year dc_check_year pm_check_year an_check_year cd_check_year cc_check_year), sl_check_year⟩)
    (c_check_year : PySem.W.codeIn K cd_check_year "check_year" = true)
    (k_check_year : PySem.W.keepIn K (.ref f_check_year) = true)
    (a_new_year : PySem.W.nsIn K mainGlobals "new_year" = some (some (.ref f_new_year)))
    (l_new_year : K.lookup f_new_year = some ⟨oc_new_year, od_new_year, .func (PySem.W.fnOf "new_year" "new_year" (defArgs s_new_year) (defBody s_new_year) (defScope s_new_year) .none kV_new_year dc_new_year pm_new_year an_new_year cd_new_year cc_new_year), sl_new_year⟩)
    (c_new_year : PySem.W.codeIn K cd_new_year "new_year" = true)
    (k_new_year : PySem.W.keepIn K (.ref f_new_year) = true)
    (a_day_at : PySem.W.nsIn K mainGlobals "day_at" = some (some (.ref f_day_at)))
    (l_day_at : K.lookup f_day_at = some ⟨oc_day_at, od_day_at, .func (PySem.W.fnOf "day_at" "day_at" (defArgs s_day_at) (defBody s_day_at) (defScope s_day_at) .none kV_day_at dc_day_at pm_day_at an_day_at (.ref ct_day_at) cc_day_at), sl_day_at⟩)
    (c_day_at : PySem.W.codeIn K (.ref ct_day_at) "day_at" = true)
    (k_day_at : PySem.W.keepIn K (.ref f_day_at) = true)
    (tl_day_at : K.lookup ct_day_at = some ⟨te_day_at, td_day_at, .fields tv_day_at, ts_day_at⟩)
    (tw_day_at : tv_day_at[11]? = some (.ref tt_day_at))
    (tn_day_at : K.lookup tt_day_at = none)
    (tr_day_at : (recsOf q).find? (fun e => e.name == ("day_at" : Str)) = some dr_day_at)
    (a_date_at : PySem.W.nsIn K mainGlobals "date_at" = some (some (.ref f_date_at)))
    (l_date_at : K.lookup f_date_at = some ⟨oc_date_at, od_date_at, .func (PySem.W.fnOf "date_at" "date_at" (defArgs s_date_at) (defBody s_date_at) (defScope s_date_at) .none kV_date_at dc_date_at pm_date_at an_date_at cd_date_at cc_date_at), sl_date_at⟩)
    (c_date_at : PySem.W.codeIn K cd_date_at "date_at" = true)
    (k_date_at : PySem.W.keepIn K (.ref f_date_at) = true)
    (a_date_of : PySem.W.nsIn K mainGlobals "date_of" = some (some (.ref f_date_of)))
    (l_date_of : K.lookup f_date_of = some ⟨oc_date_of, od_date_of, .func (PySem.W.fnOf "date_of" "date_of" (defArgs s_date_of) (defBody s_date_of) (defScope s_date_of) .none kV_date_of dc_date_of pm_date_of an_date_of cd_date_of cc_date_of), sl_date_of⟩)
    (c_date_of : PySem.W.codeIn K cd_date_of "date_of" = true)
    (k_date_of : PySem.W.keepIn K (.ref f_date_of) = true)
    (a_later_by : PySem.W.nsIn K mainGlobals "later_by" = some (some (.ref f_later_by)))
    (l_later_by : K.lookup f_later_by = some ⟨oc_later_by, od_later_by, .func (PySem.W.fnOf "later_by" "later_by" (defArgs s_later_by) (defBody s_later_by) (defScope s_later_by) .none kV_later_by dc_later_by pm_later_by an_later_by cd_later_by cc_later_by), sl_later_by⟩)
    (c_later_by : PySem.W.codeIn K cd_later_by "later_by" = true)
    (k_later_by : PySem.W.keepIn K (.ref f_later_by) = true)
    (a_months_later : PySem.W.nsIn K mainGlobals "months_later" = some (some (.ref f_months_later)))
    (l_months_later : K.lookup f_months_later = some ⟨oc_months_later, od_months_later, .func (PySem.W.fnOf "months_later" "months_later" (defArgs s_months_later) (defBody s_months_later) (defScope s_months_later) .none kV_months_later dc_months_later pm_months_later an_months_later cd_months_later cc_months_later), sl_months_later⟩)
    (c_months_later : PySem.W.codeIn K cd_months_later "months_later" = true)
    (k_months_later : PySem.W.keepIn K (.ref f_months_later) = true)
    (a_easter_day : PySem.W.nsIn K mainGlobals "easter_day" = some (some (.ref f_easter_day)))
    (l_easter_day : K.lookup f_easter_day = some ⟨oc_easter_day, od_easter_day, .func (PySem.W.fnOf "easter_day" "easter_day" (defArgs s_easter_day) (defBody s_easter_day) (defScope s_easter_day) .none kV_easter_day dc_easter_day pm_easter_day an_easter_day cd_easter_day cc_easter_day), sl_easter_day⟩)
    (c_easter_day : PySem.W.codeIn K cd_easter_day "easter_day" = true)
    (k_easter_day : PySem.W.keepIn K (.ref f_easter_day) = true)
    (a_easter : PySem.W.nsIn K mainGlobals "easter" = some (some (.ref f_easter)))
    (l_easter : K.lookup f_easter = some ⟨oc_easter, od_easter, .func (PySem.W.fnOf "easter" "easter" (defArgs s_easter) (defBody s_easter) (defScope s_easter) .none kV_easter dc_easter pm_easter an_easter cd_easter cc_easter), sl_easter⟩)
    (c_easter : PySem.W.codeIn K cd_easter "easter" = true)
    (k_easter : PySem.W.keepIn K (.ref f_easter) = true)
    (a__law_draws : PySem.W.nsIn K mainGlobals "_law_draws" = some (some (.ref f__law_draws)))
    (l__law_draws : K.lookup f__law_draws = some ⟨oc__law_draws, od__law_draws, .func (PySem.W.fnOf "_law_draws" "_law_draws" (defArgs s__law_draws) (defBody s__law_draws) (defScope s__law_draws) .none kV__law_draws dc__law_draws pm__law_draws an__law_draws cd__law_draws cc__law_draws), sl__law_draws⟩)
    (c__law_draws : PySem.W.codeIn K cd__law_draws "_law_draws" = true)
    (k__law_draws : PySem.W.keepIn K (.ref f__law_draws) = true)
    (a__law_take : PySem.W.nsIn K mainGlobals "_law_take" = some (some (.ref f__law_take)))
    (l__law_take : K.lookup f__law_take = some ⟨oc__law_take, od__law_take, .func (PySem.W.fnOf "_law_take" "_law_take" (defArgs s__law_take) (defBody s__law_take) (defScope s__law_take) .none kV__law_take dc__law_take pm__law_take an__law_take cd__law_take cc__law_take), sl__law_take⟩)
    (c__law_take : PySem.W.codeIn K cd__law_take "_law_take" = true)
    (k__law_take : PySem.W.keepIn K (.ref f__law_take) = true)
    (a__law_same : PySem.W.nsIn K mainGlobals "_law_same" = some (some (.ref f__law_same)))
    (l__law_same : K.lookup f__law_same = some ⟨oc__law_same, od__law_same, .func (PySem.W.fnOf "_law_same" "_law_same" (defArgs s__law_same) (defBody s__law_same) (defScope s__law_same) .none kV__law_same dc__law_same pm__law_same an__law_same cd__law_same cc__law_same), sl__law_same⟩)
    (c__law_same : PySem.W.codeIn K cd__law_same "_law_same" = true)
    (k__law_same : PySem.W.keepIn K (.ref f__law_same) = true)
    (a__law_leap : PySem.W.nsIn K mainGlobals "_law_leap" = some (some (.ref f__law_leap)))
    (l__law_leap : K.lookup f__law_leap = some ⟨oc__law_leap, od__law_leap, .func (PySem.W.fnOf "_law_leap" "_law_leap" (defArgs s__law_leap) (defBody s__law_leap) (defScope s__law_leap) .none kV__law_leap dc__law_leap pm__law_leap an__law_leap cd__law_leap cc__law_leap), sl__law_leap⟩)
    (c__law_leap : PySem.W.codeIn K cd__law_leap "_law_leap" = true)
    (k__law_leap : PySem.W.keepIn K (.ref f__law_leap) = true)
    (a__law_length : PySem.W.nsIn K mainGlobals "_law_length" = some (some (.ref f__law_length)))
    (l__law_length : K.lookup f__law_length = some ⟨oc__law_length, od__law_length, .func (PySem.W.fnOf "_law_length" "_law_length" (defArgs s__law_length) (defBody s__law_length) (defScope s__law_length) .none kV__law_length dc__law_length pm__law_length an__law_length cd__law_length cc__law_length), sl__law_length⟩)
    (c__law_length : PySem.W.codeIn K cd__law_length "_law_length" = true)
    (k__law_length : PySem.W.keepIn K (.ref f__law_length) = true)
    (a__law_ahead : PySem.W.nsIn K mainGlobals "_law_ahead" = some (some (.ref f__law_ahead)))
    (l__law_ahead : K.lookup f__law_ahead = some ⟨oc__law_ahead, od__law_ahead, .func (PySem.W.fnOf "_law_ahead" "_law_ahead" (defArgs s__law_ahead) (defBody s__law_ahead) (defScope s__law_ahead) .none kV__law_ahead dc__law_ahead pm__law_ahead an__law_ahead cd__law_ahead cc__law_ahead), sl__law_ahead⟩)
    (c__law_ahead : PySem.W.codeIn K cd__law_ahead "_law_ahead" = true)
    (k__law_ahead : PySem.W.keepIn K (.ref f__law_ahead) = true)
    (a__law_date : PySem.W.nsIn K mainGlobals "_law_date" = some (some (.ref f__law_date)))
    (l__law_date : K.lookup f__law_date = some ⟨oc__law_date, od__law_date, .func (PySem.W.fnOf "_law_date" "_law_date" (defArgs s__law_date) (defBody s__law_date) (defScope s__law_date) .none kV__law_date dc__law_date pm__law_date an__law_date cd__law_date cc__law_date), sl__law_date⟩)
    (c__law_date : PySem.W.codeIn K cd__law_date "_law_date" = true)
    (k__law_date : PySem.W.keepIn K (.ref f__law_date) = true)
    (a__law_number : PySem.W.nsIn K mainGlobals "_law_number" = some (some (.ref f__law_number)))
    (l__law_number : K.lookup f__law_number = some ⟨oc__law_number, od__law_number, .func (PySem.W.fnOf "_law_number" "_law_number" (defArgs s__law_number) (defBody s__law_number) (defScope s__law_number) .none kV__law_number dc__law_number pm__law_number an__law_number cd__law_number cc__law_number), sl__law_number⟩)
    (c__law_number : PySem.W.codeIn K cd__law_number "_law_number" = true)
    (k__law_number : PySem.W.keepIn K (.ref f__law_number) = true)
    (a__law_later : PySem.W.nsIn K mainGlobals "_law_later" = some (some (.ref f__law_later)))
    (l__law_later : K.lookup f__law_later = some ⟨oc__law_later, od__law_later, .func (PySem.W.fnOf "_law_later" "_law_later" (defArgs s__law_later) (defBody s__law_later) (defScope s__law_later) .none kV__law_later dc__law_later pm__law_later an__law_later cd__law_later cc__law_later), sl__law_later⟩)
    (c__law_later : PySem.W.codeIn K cd__law_later "_law_later" = true)
    (k__law_later : PySem.W.keepIn K (.ref f__law_later) = true)
    (a__law_easter : PySem.W.nsIn K mainGlobals "_law_easter" = some (some (.ref f__law_easter)))
    (l__law_easter : K.lookup f__law_easter = some ⟨oc__law_easter, od__law_easter, .func (PySem.W.fnOf "_law_easter" "_law_easter" (defArgs s__law_easter) (defBody s__law_easter) (defScope s__law_easter) .none kV__law_easter dc__law_easter pm__law_easter an__law_easter cd__law_easter cc__law_easter), sl__law_easter⟩)
    (c__law_easter : PySem.W.codeIn K cd__law_easter "_law_easter" = true)
    (k__law_easter : PySem.W.keepIn K (.ref f__law_easter) = true)
    (a__law_told : PySem.W.nsIn K mainGlobals "_law_told" = some (some (.ref f__law_told)))
    (l__law_told : K.lookup f__law_told = some ⟨oc__law_told, od__law_told, .func (PySem.W.fnOf "_law_told" "_law_told" (defArgs s__law_told) (defBody s__law_told) (defScope s__law_told) .none kV__law_told dc__law_told pm__law_told an__law_told cd__law_told cc__law_told), sl__law_told⟩)
    (c__law_told : PySem.W.codeIn K cd__law_told "_law_told" = true)
    (k__law_told : PySem.W.keepIn K (.ref f__law_told) = true)
    (a__law_feast : PySem.W.nsIn K mainGlobals "_law_feast" = some (some (.ref f__law_feast)))
    (l__law_feast : K.lookup f__law_feast = some ⟨oc__law_feast, od__law_feast, .func (PySem.W.fnOf "_law_feast" "_law_feast" (defArgs s__law_feast) (defBody s__law_feast) (defScope s__law_feast) .none kV__law_feast dc__law_feast pm__law_feast an__law_feast cd__law_feast cc__law_feast), sl__law_feast⟩)
    (c__law_feast : PySem.W.codeIn K cd__law_feast "_law_feast" = true)
    (k__law_feast : PySem.W.keepIn K (.ref f__law_feast) = true)
    (a__law_due : PySem.W.nsIn K mainGlobals "_law_due" = some (some (.ref f__law_due)))
    (l__law_due : K.lookup f__law_due = some ⟨oc__law_due, od__law_due, .func (PySem.W.fnOf "_law_due" "_law_due" (defArgs s__law_due) (defBody s__law_due) (defScope s__law_due) .none kV__law_due dc__law_due pm__law_due an__law_due cd__law_due cc__law_due), sl__law_due⟩)
    (c__law_due : PySem.W.codeIn K cd__law_due "_law_due" = true)
    (k__law_due : PySem.W.keepIn K (.ref f__law_due) = true)
    (a_law : PySem.W.nsIn K mainGlobals "law" = some (some (.ref f_law)))
    (l_law : K.lookup f_law = some ⟨oc_law, od_law, .func (PySem.W.fnOf "law" "law" (defArgs s_law) (defBody s_law) (defScope s_law) .none kV_law dc_law pm_law an_law cd_law cc_law), sl_law⟩)
    (c_law : PySem.W.codeIn K cd_law "law" = true)
    (k_law : PySem.W.keepIn K (.ref f_law) = true)
    (z_abs : PySem.W.nsIn K mainGlobals "abs" = some none)
    (z_bool : PySem.W.nsIn K mainGlobals "bool" = some none)
    (z_int : PySem.W.nsIn K mainGlobals "int" = some none)
    (z_isinstance : PySem.W.nsIn K mainGlobals "isinstance" = some none)
    (z_len : PySem.W.nsIn K mainGlobals "len" = some none)
    (z_list : PySem.W.nsIn K mainGlobals "list" = some none)
    (z_min : PySem.W.nsIn K mainGlobals "min" = some none)
    (z_range : PySem.W.nsIn K mainGlobals "range" = some none)
    (z_reversed : PySem.W.nsIn K mainGlobals "reversed" = some none)
    (z_str : PySem.W.nsIn K mainGlobals "str" = some none)
    (z_sum : PySem.W.nsIn K mainGlobals "sum" = some none)
    (z_tuple : PySem.W.nsIn K mainGlobals "tuple" = some none)
    (m_LAST_DAY : PySem.W.nsIn K mainGlobals "LAST_DAY" = some (some (.int 1000000 tk_LAST_DAY)))
    (m_LAST_YEAR : PySem.W.nsIn K mainGlobals "LAST_YEAR" = some (some (.int 2737 tk_LAST_YEAR)))
    (m_LENGTHS : PySem.W.nsIn K mainGlobals "LENGTHS" = some (some (.ref u_LENGTHS)))
    (n_LENGTHS : K.lookup u_LENGTHS = some ⟨.type "tuple", ud_LENGTHS, .seq #[.int 31 tk_LENGTHS_0, .int 28 tk_LENGTHS_1, .int 31 tk_LENGTHS_2, .int 30 tk_LENGTHS_3, .int 31 tk_LENGTHS_4, .int 30 tk_LENGTHS_5, .int 31 tk_LENGTHS_6, .int 31 tk_LENGTHS_7, .int 30 tk_LENGTHS_8, .int 31 tk_LENGTHS_9, .int 30 tk_LENGTHS_10, .int 31 tk_LENGTHS_11] un_LENGTHS, us_LENGTHS⟩)
    (m_DocketError : PySem.W.nsIn K mainGlobals "DocketError" = some (some (.ref C_DocketError)))
    (q_DocketError : PySem.W.excIn K C_DocketError [.type "ValueError", .type "Exception", .type "BaseException", .type "object"] "ValueError.__new__" = true)
    (k_DocketError : PySem.W.keepIn K (.ref C_DocketError) = true)
    (b1_DocketError : PySem.W.subIn K (.ref C_DocketError) (.type "BaseException") = some true)
    (t1_DocketError : PySem.W.typeIn K (.ref C_DocketError) = some (.type "type"))
    (m_OutOfRange : PySem.W.nsIn K mainGlobals "OutOfRange" = some (some (.ref C_OutOfRange)))
    (q_OutOfRange : PySem.W.excIn K C_OutOfRange [.type "ValueError", .type "Exception", .type "BaseException", .type "object"] "ValueError.__new__" = true)
    (k_OutOfRange : PySem.W.keepIn K (.ref C_OutOfRange) = true)
    (b1_OutOfRange : PySem.W.subIn K (.ref C_OutOfRange) (.type "BaseException") = some true)
    (t1_OutOfRange : PySem.W.typeIn K (.ref C_OutOfRange) = some (.type "type"))
    (xi : PySem.W.isClsIn K C_DocketError = true)
    (xs : PySem.W.subIn K (.ref C_OutOfRange) (.ref C_DocketError) = some true)
    (y1 : PySem.W.findIn K (.ref C_OutOfRange) "__getattribute__" = some (some (.builtin "BaseException.__getattribute__")))
    (y2 : PySem.W.findIn K (.ref C_OutOfRange) "__getattr__" = some none)
    (y4 : PySem.W.hasDictIn K C_OutOfRange = true)
    (y5 : PySem.W.findIn K (.ref C_OutOfRange) "__class__" = some (some (.builtin "object.__class__")))
    (y6 : PySem.W.specialIn K (.builtin "object.__class__") "__get__" = some (some (.builtin "getset_descriptor.__get__")))
    (y7 : PySem.W.takesIn K (.builtin "object.__class__") = some true)
    (y8 : PySem.W.mroIn K C_OutOfRange (.type "object") = some true) : LawAtS l w K (L2.CX l.prog w) 13 63 "script" mg fa h := by
  have e : fa = f_law := by
    have e := hfa.symm.trans (PySem.W.mg_of X G a_law)
    cases e
    rfl
  have tt1_day_at := TT "day_at" ct_day_at tt_day_at dr_day_at tr_day_at (tab_mk a_day_at l_day_at rfl tl_day_at tw_day_at)
  have h1 : ∀ p ∈ ([(ct_day_at, tt_day_at)] : List (Addr × Addr)), h.get? p.2 = some { cls := .none, data := .fields #[] } := by
    intro p hp
    simp only [List.mem_cons, List.not_mem_nil, or_false] at hp
    rcases hp with rfl
    · exact tt1_day_at.2
  have h2 : ∀ p ∈ ([(ct_day_at, tt_day_at)] : List (Addr × Addr)), K.lookup p.2 = none := by
    intro p hp
    simp only [List.mem_cons, List.not_mem_nil, or_false] at hp
    rcases hp with rfl
    · exact tn_day_at
  have h3 : ∀ p ∈ ([(ct_day_at, tt_day_at)] : List (Addr × Addr)), PySem.W.CodeHd h p.1 p.2 := by
    intro p hp
    simp only [List.mem_cons, List.not_mem_nil, or_false] at hp
    rcases hp with rfl
    · exact tt1_day_at.1
  refine ⟨PySem.W.fnOf "law" "law" (defArgs s_law) (defBody s_law) (defScope s_law) .none kV_law dc_law pm_law an_law cd_law cc_law, [(ct_day_at, tt_day_at)], spOf K (drw fun b => b ∈ ([(ct_day_at, tt_day_at)] : List (Addr × Addr)).map (·.2)) pLaw, h1, h2, h3, fun s u => .of_eq rfl, fun H a ns hl _ hT hS => law_sp hl hT hS, fun base X2 G2 TB => ?_⟩
  rw [e]
  exact ok_law (P := l.prog) (w := w) (K := K) (mg := mg) (base := base) (tb := fun b => b ∈ ([(ct_day_at, tt_day_at)] : List (Addr × Addr)).map (·.2)) { a_is_number := f_is_number, f_is_number := _, F_is_number := fun_mk (st := s_is_number) l_is_number c_is_number k_is_number, b_is_number := (fun_mk (st := s_is_number) l_is_number c_is_number k_is_number).binds (ps := ["value", "least", "most"]) fun _ _ _ _ _ _ us hl => match us, hl with | [_, _, _], _ => rfl, g_is_number := PySem.W.mg_of X G a_is_number, a_is_day := f_is_day, f_is_day := _, F_is_day := fun_mk (st := s_is_day) l_is_day c_is_day k_is_day, b_is_day := (fun_mk (st := s_is_day) l_is_day c_is_day k_is_day).binds (ps := ["value"]) fun _ _ _ _ _ _ us hl => match us, hl with | [_], _ => rfl, g_is_day := PySem.W.mg_of X G a_is_day, a_check_day := f_check_day, f_check_day := _, F_check_day := fun_mk (st := s_check_day) l_check_day c_check_day k_check_day, b_check_day := (fun_mk (st := s_check_day) l_check_day c_check_day k_check_day).binds (ps := ["day"]) fun _ _ _ _ _ _ us hl => match us, hl with | [_], _ => rfl, g_check_day := PySem.W.mg_of X G a_check_day, a_weekday_of := f_weekday_of, f_weekday_of := _, F_weekday_of := fun_mk (st := s_weekday_of) l_weekday_of c_weekday_of k_weekday_of, b_weekday_of := (fun_mk (st := s_weekday_of) l_weekday_of c_weekday_of k_weekday_of).binds (ps := ["day"]) fun _ _ _ _ _ _ us hl => match us, hl with | [_], _ => rfl, g_weekday_of := PySem.W.mg_of X G a_weekday_of, a_weekday := f_weekday, f_weekday := _, F_weekday := fun_mk (st := s_weekday) l_weekday c_weekday k_weekday, b_weekday := (fun_mk (st := s_weekday) l_weekday c_weekday k_weekday).binds (ps := ["day"]) fun _ _ _ _ _ _ us hl => match us, hl with | [_], _ => rfl, g_weekday := PySem.W.mg_of X G a_weekday, a_is_long := f_is_long, f_is_long := _, F_is_long := fun_mk (st := s_is_long) l_is_long c_is_long k_is_long, b_is_long := (fun_mk (st := s_is_long) l_is_long c_is_long k_is_long).binds (ps := ["year"]) fun _ _ _ _ _ _ us hl => match us, hl with | [_], _ => rfl, g_is_long := PySem.W.mg_of X G a_is_long, a_length_of := f_length_of, f_length_of := _, F_length_of := fun_mk (st := s_length_of) l_length_of c_length_of k_length_of, b_length_of := (fun_mk (st := s_length_of) l_length_of c_length_of k_length_of).binds (ps := ["year", "month"]) fun _ _ _ _ _ _ us hl => match us, hl with | [_, _], _ => rfl, g_length_of := PySem.W.mg_of X G a_length_of, a_check_year := f_check_year, f_check_year := _, F_check_year := fun_mk (st := s_check_year) l_check_year c_check_year k_check_year, b_check_year := (fun_mk (st := s_check_year) l_check_year c_check_year k_check_year).binds (ps := ["year"]) fun _ _ _ _ _ _ us hl => match us, hl with | [_], _ => rfl, g_check_year := PySem.W.mg_of X G a_check_year, a_new_year := f_new_year, f_new_year := _, F_new_year := fun_mk (st := s_new_year) l_new_year c_new_year k_new_year, b_new_year := (fun_mk (st := s_new_year) l_new_year c_new_year k_new_year).binds (ps := ["year"]) fun _ _ _ _ _ _ us hl => match us, hl with | [_], _ => rfl, g_new_year := PySem.W.mg_of X G a_new_year, a_day_at := f_day_at, f_day_at := _, F_day_at := fun_mk (st := s_day_at) l_day_at c_day_at k_day_at, b_day_at := (fun_mk (st := s_day_at) l_day_at c_day_at k_day_at).binds (ps := ["year", "month", "day"]) fun _ _ _ _ _ _ us hl => match us, hl with | [_, _, _], _ => rfl, g_day_at := PySem.W.mg_of X G a_day_at, ct_day_at := ct_day_at, tt_day_at := tt_day_at, e_day_at := rfl, T_day_at := tabOf (TB (ct_day_at, tt_day_at) (by simp)), t_day_at := by simp, a_date_at := f_date_at, f_date_at := _, F_date_at := fun_mk (st := s_date_at) l_date_at c_date_at k_date_at, b_date_at := (fun_mk (st := s_date_at) l_date_at c_date_at k_date_at).binds (ps := ["day"]) fun _ _ _ _ _ _ us hl => match us, hl with | [_], _ => rfl, g_date_at := PySem.W.mg_of X G a_date_at, a_date_of := f_date_of, f_date_of := _, F_date_of := fun_mk (st := s_date_of) l_date_of c_date_of k_date_of, b_date_of := (fun_mk (st := s_date_of) l_date_of c_date_of k_date_of).binds (ps := ["day"]) fun _ _ _ _ _ _ us hl => match us, hl with | [_], _ => rfl, g_date_of := PySem.W.mg_of X G a_date_of, a_later_by := f_later_by, f_later_by := _, F_later_by := fun_mk (st := s_later_by) l_later_by c_later_by k_later_by, b_later_by := (fun_mk (st := s_later_by) l_later_by c_later_by k_later_by).binds (ps := ["day", "months"]) fun _ _ _ _ _ _ us hl => match us, hl with | [_, _], _ => rfl, g_later_by := PySem.W.mg_of X G a_later_by, a_months_later := f_months_later, f_months_later := _, F_months_later := fun_mk (st := s_months_later) l_months_later c_months_later k_months_later, b_months_later := (fun_mk (st := s_months_later) l_months_later c_months_later k_months_later).binds (ps := ["day", "months"]) fun _ _ _ _ _ _ us hl => match us, hl with | [_, _], _ => rfl, g_months_later := PySem.W.mg_of X G a_months_later, a_easter_day := f_easter_day, f_easter_day := _, F_easter_day := fun_mk (st := s_easter_day) l_easter_day c_easter_day k_easter_day, b_easter_day := (fun_mk (st := s_easter_day) l_easter_day c_easter_day k_easter_day).binds (ps := ["year"]) fun _ _ _ _ _ _ us hl => match us, hl with | [_], _ => rfl, g_easter_day := PySem.W.mg_of X G a_easter_day, a_easter := f_easter, f_easter := _, F_easter := fun_mk (st := s_easter) l_easter c_easter k_easter, b_easter := (fun_mk (st := s_easter) l_easter c_easter k_easter).binds (ps := ["year"]) fun _ _ _ _ _ _ us hl => match us, hl with | [_], _ => rfl, g_easter := PySem.W.mg_of X G a_easter, a__law_draws := f__law_draws, f__law_draws := _, F__law_draws := fun_mk (st := s__law_draws) l__law_draws c__law_draws k__law_draws, b__law_draws := (fun_mk (st := s__law_draws) l__law_draws c__law_draws k__law_draws).binds (ps := ["script"]) fun _ _ _ _ _ _ us hl => match us, hl with | [_], _ => rfl, g__law_draws := PySem.W.mg_of X G a__law_draws, a__law_take := f__law_take, f__law_take := _, F__law_take := fun_mk (st := s__law_take) l__law_take c__law_take k__law_take, b__law_take := (fun_mk (st := s__law_take) l__law_take c__law_take k__law_take).binds (ps := ["draws", "bound"]) fun _ _ _ _ _ _ us hl => match us, hl with | [_, _], _ => rfl, g__law_take := PySem.W.mg_of X G a__law_take, a__law_same := f__law_same, f__law_same := _, F__law_same := fun_mk (st := s__law_same) l__law_same c__law_same k__law_same, b__law_same := (fun_mk (st := s__law_same) l__law_same c__law_same k__law_same).binds (ps := ["actual", "due"]) fun _ _ _ _ _ _ us hl => match us, hl with | [_, _], _ => rfl, g__law_same := PySem.W.mg_of X G a__law_same, a__law_leap := f__law_leap, f__law_leap := _, F__law_leap := fun_mk (st := s__law_leap) l__law_leap c__law_leap k__law_leap, b__law_leap := (fun_mk (st := s__law_leap) l__law_leap c__law_leap k__law_leap).binds (ps := ["year"]) fun _ _ _ _ _ _ us hl => match us, hl with | [_], _ => rfl, g__law_leap := PySem.W.mg_of X G a__law_leap, a__law_length := f__law_length, f__law_length := _, F__law_length := fun_mk (st := s__law_length) l__law_length c__law_length k__law_length, b__law_length := (fun_mk (st := s__law_length) l__law_length c__law_length k__law_length).binds (ps := ["year", "month"]) fun _ _ _ _ _ _ us hl => match us, hl with | [_, _], _ => rfl, g__law_length := PySem.W.mg_of X G a__law_length, a__law_ahead := f__law_ahead, f__law_ahead := _, F__law_ahead := fun_mk (st := s__law_ahead) l__law_ahead c__law_ahead k__law_ahead, b__law_ahead := (fun_mk (st := s__law_ahead) l__law_ahead c__law_ahead k__law_ahead).binds (ps := ["year"]) fun _ _ _ _ _ _ us hl => match us, hl with | [_], _ => rfl, g__law_ahead := PySem.W.mg_of X G a__law_ahead, a__law_date := f__law_date, f__law_date := _, F__law_date := fun_mk (st := s__law_date) l__law_date c__law_date k__law_date, b__law_date := (fun_mk (st := s__law_date) l__law_date c__law_date k__law_date).binds (ps := ["day"]) fun _ _ _ _ _ _ us hl => match us, hl with | [_], _ => rfl, g__law_date := PySem.W.mg_of X G a__law_date, a__law_number := f__law_number, f__law_number := _, F__law_number := fun_mk (st := s__law_number) l__law_number c__law_number k__law_number, b__law_number := (fun_mk (st := s__law_number) l__law_number c__law_number k__law_number).binds (ps := ["year", "month", "day"]) fun _ _ _ _ _ _ us hl => match us, hl with | [_, _, _], _ => rfl, g__law_number := PySem.W.mg_of X G a__law_number, a__law_later := f__law_later, f__law_later := _, F__law_later := fun_mk (st := s__law_later) l__law_later c__law_later k__law_later, b__law_later := (fun_mk (st := s__law_later) l__law_later c__law_later k__law_later).binds (ps := ["day", "months"]) fun _ _ _ _ _ _ us hl => match us, hl with | [_, _], _ => rfl, g__law_later := PySem.W.mg_of X G a__law_later, a__law_easter := f__law_easter, f__law_easter := _, F__law_easter := fun_mk (st := s__law_easter) l__law_easter c__law_easter k__law_easter, b__law_easter := (fun_mk (st := s__law_easter) l__law_easter c__law_easter k__law_easter).binds (ps := ["year"]) fun _ _ _ _ _ _ us hl => match us, hl with | [_], _ => rfl, g__law_easter := PySem.W.mg_of X G a__law_easter, a__law_told := f__law_told, f__law_told := _, F__law_told := fun_mk (st := s__law_told) l__law_told c__law_told k__law_told, b__law_told := (fun_mk (st := s__law_told) l__law_told c__law_told k__law_told).binds (ps := ["day", "months"]) fun _ _ _ _ _ _ us hl => match us, hl with | [_, _], _ => rfl, g__law_told := PySem.W.mg_of X G a__law_told, a__law_feast := f__law_feast, f__law_feast := _, F__law_feast := fun_mk (st := s__law_feast) l__law_feast c__law_feast k__law_feast, b__law_feast := (fun_mk (st := s__law_feast) l__law_feast c__law_feast k__law_feast).binds (ps := ["year"]) fun _ _ _ _ _ _ us hl => match us, hl with | [_], _ => rfl, g__law_feast := PySem.W.mg_of X G a__law_feast, a__law_due := f__law_due, f__law_due := _, F__law_due := fun_mk (st := s__law_due) l__law_due c__law_due k__law_due, b__law_due := (fun_mk (st := s__law_due) l__law_due c__law_due k__law_due).binds (ps := ["day", "months"]) fun _ _ _ _ _ _ us hl => match us, hl with | [_, _], _ => rfl, g__law_due := PySem.W.mg_of X G a__law_due, a_law := f_law, f_law := _, F_law := fun_mk (st := s_law) l_law c_law k_law, b_law := (fun_mk (st := s_law) l_law c_law k_law).binds (ps := ["script"]) fun _ _ _ _ _ _ us hl => match us, hl with | [_], _ => rfl, g_law := PySem.W.mg_of X G a_law, z_abs := PySem.W.mg_none_of X G z_abs, z_bool := PySem.W.mg_none_of X G z_bool, z_int := PySem.W.mg_none_of X G z_int, z_isinstance := PySem.W.mg_none_of X G z_isinstance, z_len := PySem.W.mg_none_of X G z_len, z_list := PySem.W.mg_none_of X G z_list, z_min := PySem.W.mg_none_of X G z_min, z_range := PySem.W.mg_none_of X G z_range, z_reversed := PySem.W.mg_none_of X G z_reversed, z_str := PySem.W.mg_none_of X G z_str, z_sum := PySem.W.mg_none_of X G z_sum, z_tuple := PySem.W.mg_none_of X G z_tuple, w_LAST_DAY := .int 1000000, u_LAST_DAY := .int 1000000 tk_LAST_DAY, m_LAST_DAY := PySem.W.mg_of X G m_LAST_DAY, r_LAST_DAY := ⟨_, rfl⟩, d_LAST_DAY := fun M => .int _, w_LAST_YEAR := .int 2737, u_LAST_YEAR := .int 2737 tk_LAST_YEAR, m_LAST_YEAR := PySem.W.mg_of X G m_LAST_YEAR, r_LAST_YEAR := ⟨_, rfl⟩, d_LAST_YEAR := fun M => .int _, w_LENGTHS := .ref u_LENGTHS, u_LENGTHS := .ref u_LENGTHS, m_LENGTHS := PySem.W.mg_of X G m_LENGTHS, r_LENGTHS := rfl, d_LENGTHS := fun M => .tup (xs := [.int 31, .int 28, .int 31, .int 30, .int 31, .int 30, .int 31, .int 31, .int 30, .int 31, .int 30, .int 31]) (.inr ⟨_, _, _, n_LENGTHS, rfl, rfl, szn 12, (.cons ⟨_, rfl⟩ (.cons ⟨_, rfl⟩ (.cons ⟨_, rfl⟩ (.cons ⟨_, rfl⟩ (.cons ⟨_, rfl⟩ (.cons ⟨_, rfl⟩ (.cons ⟨_, rfl⟩ (.cons ⟨_, rfl⟩ (.cons ⟨_, rfl⟩ (.cons ⟨_, rfl⟩ (.cons ⟨_, rfl⟩ (.cons ⟨_, rfl⟩ .nil))))))))))))⟩) (.cons (.int _) (.cons (.int _) (.cons (.int _) (.cons (.int _) (.cons (.int _) (.cons (.int _) (.cons (.int _) (.cons (.int _) (.cons (.int _) (.cons (.int _) (.cons (.int _) (.cons (.int _) .nil)))))))))))), c_DocketError := C_DocketError, m_DocketError := PySem.W.mg_of X G m_DocketError, q_DocketError := q_DocketError, k_DocketError := k_DocketError, b1_DocketError := b1_DocketError, t1_DocketError := t1_DocketError, c_OutOfRange := C_OutOfRange, m_OutOfRange := PySem.W.mg_of X G m_OutOfRange, q_OutOfRange := q_OutOfRange, k_OutOfRange := k_OutOfRange, b1_OutOfRange := b1_OutOfRange, t1_OutOfRange := t1_OutOfRange } (exm_mk b1_DocketError xi t1_DocketError xs) kit_mk ⟨y1, y2, b1_OutOfRange, y4, y5, y6, y7, y8⟩
end K06
open PySem PySem.W PyProof.Rows
set_option maxHeartbeats 0 in
theorem PySem.Challenge.cw_docketloom_k06_months_and_easter_holds : PySem.Challenge.rw_docketloom_k06_months_and_easter.Holds := by
  w_on; o_law; k_head; (case hw => w_witness2)
  k_fill
  refine PD.walk_ofAll (l := PySem.Challenge.rw_docketloom_k06_months_and_easter) (n := 63) (k := 13) (x := "script") (CX := fun w => L2.CX PySem.Challenge.rw_docketloom_k06_months_and_easter.prog w) rfl (by decide) rfl ⟨rfl, by decide, by decide⟩ (fun w h Y => PySem.W.kIn_of Y) ?F (fun w H s e s1 h => by obtain ⟨a, B, H1, cls, d, h1, h2, h3, h4, h5, h6, h7, h8⟩ := h; exact h8)
  case F =>
    intro w mg fa h Y KX G hmg TT
    refine' K06.all_mk KX G hmg TT ?a_is_number ?l_is_number ?c_is_number ?k_is_number ?a_is_day ?l_is_day ?c_is_day ?k_is_day ?a_check_day ?l_check_day ?c_check_day ?k_check_day ?a_weekday_of ?l_weekday_of ?c_weekday_of ?k_weekday_of ?a_weekday ?l_weekday ?c_weekday ?k_weekday ?a_is_long ?l_is_long ?c_is_long ?k_is_long ?a_length_of ?l_length_of ?c_length_of ?k_length_of ?a_check_year ?l_check_year ?c_check_year ?k_check_year ?a_new_year ?l_new_year ?c_new_year ?k_new_year ?a_day_at ?l_day_at ?c_day_at ?k_day_at ?tl_day_at ?tw_day_at ?tn_day_at ?tr_day_at ?a_date_at ?l_date_at ?c_date_at ?k_date_at ?a_date_of ?l_date_of ?c_date_of ?k_date_of ?a_later_by ?l_later_by ?c_later_by ?k_later_by ?a_months_later ?l_months_later ?c_months_later ?k_months_later ?a_easter_day ?l_easter_day ?c_easter_day ?k_easter_day ?a_easter ?l_easter ?c_easter ?k_easter ?a__law_draws ?l__law_draws ?c__law_draws ?k__law_draws ?a__law_take ?l__law_take ?c__law_take ?k__law_take ?a__law_same ?l__law_same ?c__law_same ?k__law_same ?a__law_leap ?l__law_leap ?c__law_leap ?k__law_leap ?a__law_length ?l__law_length ?c__law_length ?k__law_length ?a__law_ahead ?l__law_ahead ?c__law_ahead ?k__law_ahead ?a__law_date ?l__law_date ?c__law_date ?k__law_date ?a__law_number ?l__law_number ?c__law_number ?k__law_number ?a__law_later ?l__law_later ?c__law_later ?k__law_later ?a__law_easter ?l__law_easter ?c__law_easter ?k__law_easter ?a__law_told ?l__law_told ?c__law_told ?k__law_told ?a__law_feast ?l__law_feast ?c__law_feast ?k__law_feast ?a__law_due ?l__law_due ?c__law_due ?k__law_due ?a_law ?l_law ?c_law ?k_law ?z_abs ?z_bool ?z_int ?z_isinstance ?z_len ?z_list ?z_min ?z_range ?z_reversed ?z_str ?z_sum ?z_tuple ?m_LAST_DAY ?m_LAST_YEAR ?m_LENGTHS ?n_LENGTHS ?m_DocketError ?q_DocketError ?k_DocketError ?b1_DocketError ?t1_DocketError ?m_OutOfRange ?q_OutOfRange ?k_OutOfRange ?b1_OutOfRange ?t1_OutOfRange ?xi ?xs ?y1 ?y2 ?y4 ?y5 ?y6 ?y7 ?y8
    (case a_is_number => k_is)
    (case l_is_number => k_is)
    (case c_is_number => k_is)
    (case k_is_number => k_is)
    (case a_is_day => k_is)
    (case l_is_day => k_is)
    (case c_is_day => k_is)
    (case k_is_day => k_is)
    (case a_check_day => k_is)
    (case l_check_day => k_is)
    (case c_check_day => k_is)
    (case k_check_day => k_is)
    (case a_weekday_of => k_is)
    (case l_weekday_of => k_is)
    (case c_weekday_of => k_is)
    (case k_weekday_of => k_is)
    (case a_weekday => k_is)
    (case l_weekday => k_is)
    (case c_weekday => k_is)
    (case k_weekday => k_is)
    (case a_is_long => k_is)
    (case l_is_long => k_is)
    (case c_is_long => k_is)
    (case k_is_long => k_is)
    (case a_length_of => k_is)
    (case l_length_of => k_is)
    (case c_length_of => k_is)
    (case k_length_of => k_is)
    (case a_check_year => k_is)
    (case l_check_year => k_is)
    (case c_check_year => k_is)
    (case k_check_year => k_is)
    (case a_new_year => k_is)
    (case l_new_year => k_is)
    (case c_new_year => k_is)
    (case k_new_year => k_is)
    (case a_day_at => k_is)
    (case l_day_at => k_is)
    (case c_day_at => k_is)
    (case k_day_at => k_is)
    (case tl_day_at => k_is)
    (case tw_day_at => rfl)
    (case tn_day_at => first | rfl | kernel_rfl | decide +kernel)
    (case tr_day_at => first | rfl | kernel_rfl)
    (case a_date_at => k_is)
    (case l_date_at => k_is)
    (case c_date_at => k_is)
    (case k_date_at => k_is)
    (case a_date_of => k_is)
    (case l_date_of => k_is)
    (case c_date_of => k_is)
    (case k_date_of => k_is)
    (case a_later_by => k_is)
    (case l_later_by => k_is)
    (case c_later_by => k_is)
    (case k_later_by => k_is)
    (case a_months_later => k_is)
    (case l_months_later => k_is)
    (case c_months_later => k_is)
    (case k_months_later => k_is)
    (case a_easter_day => k_is)
    (case l_easter_day => k_is)
    (case c_easter_day => k_is)
    (case k_easter_day => k_is)
    (case a_easter => k_is)
    (case l_easter => k_is)
    (case c_easter => k_is)
    (case k_easter => k_is)
    (case a__law_draws => k_is)
    (case l__law_draws => k_is)
    (case c__law_draws => k_is)
    (case k__law_draws => k_is)
    (case a__law_take => k_is)
    (case l__law_take => k_is)
    (case c__law_take => k_is)
    (case k__law_take => k_is)
    (case a__law_same => k_is)
    (case l__law_same => k_is)
    (case c__law_same => k_is)
    (case k__law_same => k_is)
    (case a__law_leap => k_is)
    (case l__law_leap => k_is)
    (case c__law_leap => k_is)
    (case k__law_leap => k_is)
    (case a__law_length => k_is)
    (case l__law_length => k_is)
    (case c__law_length => k_is)
    (case k__law_length => k_is)
    (case a__law_ahead => k_is)
    (case l__law_ahead => k_is)
    (case c__law_ahead => k_is)
    (case k__law_ahead => k_is)
    (case a__law_date => k_is)
    (case l__law_date => k_is)
    (case c__law_date => k_is)
    (case k__law_date => k_is)
    (case a__law_number => k_is)
    (case l__law_number => k_is)
    (case c__law_number => k_is)
    (case k__law_number => k_is)
    (case a__law_later => k_is)
    (case l__law_later => k_is)
    (case c__law_later => k_is)
    (case k__law_later => k_is)
    (case a__law_easter => k_is)
    (case l__law_easter => k_is)
    (case c__law_easter => k_is)
    (case k__law_easter => k_is)
    (case a__law_told => k_is)
    (case l__law_told => k_is)
    (case c__law_told => k_is)
    (case k__law_told => k_is)
    (case a__law_feast => k_is)
    (case l__law_feast => k_is)
    (case c__law_feast => k_is)
    (case k__law_feast => k_is)
    (case a__law_due => k_is)
    (case l__law_due => k_is)
    (case c__law_due => k_is)
    (case k__law_due => k_is)
    (case a_law => k_is)
    (case l_law => k_is)
    (case c_law => k_is)
    (case k_law => k_is)
    (case z_abs => k_is)
    (case z_bool => k_is)
    (case z_int => k_is)
    (case z_isinstance => k_is)
    (case z_len => k_is)
    (case z_list => k_is)
    (case z_min => k_is)
    (case z_range => k_is)
    (case z_reversed => k_is)
    (case z_str => k_is)
    (case z_sum => k_is)
    (case z_tuple => k_is)
    (case m_LAST_DAY => k_is)
    (case m_LAST_YEAR => k_is)
    (case m_LENGTHS => k_is)
    (case n_LENGTHS => k_is)
    (case m_DocketError => k_is)
    (case q_DocketError => k_exc)
    (case k_DocketError => k_is)
    (case b1_DocketError => k_is)
    (case t1_DocketError => k_is)
    (case m_OutOfRange => k_is)
    (case q_OutOfRange => k_exc)
    (case k_OutOfRange => k_is)
    (case b1_OutOfRange => k_is)
    (case t1_OutOfRange => k_is)
    (case xi => k_is)
    (case xs => k_is)
    (case y1 => k_is)
    (case y2 => k_is)
    (case y4 => k_is)
    (case y5 => k_is)
    (case y6 => k_is)
    (case y7 => k_is)
    (case y8 => k_is)

